/- Texts of this claim, put together: A19, A20, A21, E20, A22, A23, A24, B2, B3, B4, O1. -/
import Derived.Test.YtiplichdhcmjdaaG4
import Derived.Test.YtiplichdhcmjdaaRows
import Derived.ProofKit
import Derived.OpenShut
import Derived.ChangeOld
import Derived.SizedLaws
import Derived.Deep.Slices
namespace Go.Proofs.Ytiplichdhcmjdaa.T
open Go.RowKit Go.Proofs.YtiplichdhcmjdaaW.PrintWords Go.Proofs.YtiplichdhcmjdaaW.PrintMore
open Go.Proofs.Ytiplichdhcmjdaa.P
set_option linter.unusedVariables false
set_option linter.unusedSimpArgs false

theorem truths_calls (V : Ev) (m : Ea) (ok : VOk V) : ∀ (k i : Nat) (F : Int) (q : Bl) (A : Option Addr) (c : Nat) (w : World), EvM w V m → i + k = V.cs.length → 0 ≤ F ∧ F ≤ 8 → Nn V.ps.length q → SmallB q 80 → V.ps.length ≤ c → Kd.C kI w A V.ps.length (tb V.ps.length q) →
    Calls Try.prog 83 #[hv V m, .int .i64 (i : Int), .int .i64 F, .slice A V.ps.length c] w fun e w' => ∃ v, e = .returned v ∧ Kd.R kRR 42 w' w.heap.size (fun _ => True) v (trL V k i F q) ∧ Below w.heap.size w w'
  | 0, i, F, q, A, c, w, hV, hi, hF, hq, hs, hc, hA => truths_zero V m ok i F q A c w hV hF hq hs hc hA (by omega)
  | k + 1, i, F, q, A, c, w, hV, hi, hF, hq, hs, hc, hA => truths_succ V m ok i F q A c w hV hF hq hs hc hA k hi (fun F q A c W l h1 h2 h3 h4 h5 => truths_calls V m ok k (i + 1) F q A c W (hV.below l) (by omega) h1 h2 h3 h4 h5)
def LkS (V : Ev) (L : List (List (List Int))) : Prop := ∀ ts, ts ∈ L ↔ ∃ t, Lkly V t ∧ ts = t.map (tb V.ps.length)
def LikR (V : Ev) (L : List (List (List Int))) (n : Int) : Prop := ((∀ t, ¬ Truth V t) ∧ L = [] ∧ n = 0) ∨ ((∃ t, Truth V t) ∧ L ≠ [] ∧ n = fewN V ∧ LkS V L ∧ L.length ≤ 441 ^ 4)
theorem nn_bl {V : Ev} (ok : VOk V) : Nn V.ps.length (bl V.qs) := by
  have hs := small_bl (m := 80) ok.q (by decide)
  exact ⟨(hs 0 (by decide)).1, (hs 1 (by decide)).1, (hs 2 (by decide)).1, fin_bl ok.nq⟩
theorem tr_none {V : Ev} (ok : VOk V) {n : Nat} (h : ∀ t, Truth V t → (n : Int) ≤ flT V 0 t) (hL : trL V V.cs.length 0 n (bl V.qs) = []) : ∀ t, Truth V t → ((n + 1 : Nat) : Int) ≤ flT V 0 t := fun t ht => by
  have h0 := h t ht
  refine Int.not_lt.mp fun hlt => ?_
  have := (mem_trL ok (k := V.cs.length) (i := 0) (F := n) (by omega) (by omega) (nn_bl ok)).mpr ⟨t, ht.1, ht.2.1, ht.2.2, by omega, rfl⟩
  rw [hL] at this
  cases this
theorem tr_some {V : Ev} (ok : VOk V) {n : Nat} (h : ∀ t, Truth V t → (n : Int) ≤ flT V 0 t) (hL : trL V V.cs.length 0 n (bl V.qs) ≠ []) : LikR V (trL V V.cs.length 0 n (bl V.qs)) n := by
  have hm : ∀ ts, ts ∈ trL V V.cs.length 0 n (bl V.qs) ↔ _ := fun ts => mem_trL ok (k := V.cs.length) (i := 0) (F := n) (ts := ts) (by omega) (by omega) (nn_bl ok)
  obtain ⟨ts, hts⟩ := List.exists_mem_of_ne_nil _ hL
  obtain ⟨t, a1, a2, a3, a4, _⟩ := (hm ts).mp hts
  have htr : Truth V t := ⟨a1, a2, a3⟩
  have hn : fewN V = n := fewN_eq ⟨⟨t, htr, by have := h t htr; omega⟩, h⟩
  refine .inr ⟨⟨t, htr⟩, hL, hn.symm, fun ts => (hm ts).trans ⟨?_, ?_⟩, ?_⟩
  · rintro ⟨s, b1, b2, b3, b4, rfl⟩
    exact ⟨s, ⟨⟨b1, b2, b3⟩, by have := h s ⟨b1, b2, b3⟩; omega⟩, rfl⟩
  · rintro ⟨s, ⟨hs, h5⟩, rfl⟩
    exact ⟨s, hs.1, hs.2.1, hs.2.2, by omega, rfl⟩
  · exact Nat.le_trans (trL_len ok _ _ _ _ (by omega)) (Nat.pow_le_pow_right (by decide) ok.c4)
theorem tr_done {V : Ev} {n : Nat} (h : ∀ t, Truth V t → (n : Int) ≤ flT V 0 t) (hn : 2 * V.cs.length < n) : ∀ t, ¬ Truth V t := fun t ht => by
  have := h t ht
  have := flT_01 V t 0
  have := ht.1
  omega
set_option maxRecDepth 100000 in
set_option maxHeartbeats 8000000 in

theorem likely_r (V : Ev) (m : Ea) (w : World) (hV : EvM w V m) (ok : VOk V) (hmb : V.qs.length ≤ m.b) :
    Calls Try.prog 78 #[hv V m] w fun e w' => ∃ v L n, e = .returned (.tuple #[v, .int .i64 n]) ∧ Kd.R kRR 42 w' w.heap.size (fun _ => True) v L ∧ LikR V L n ∧ Below w.heap.size w w' := by
  have hsc := ok.sz.c
  have hc4 := ok.c4
  have hnq := ok.nq
  have hu3 := Try.underlying3
  have hu22 := Try.underlying22
  have hu23 := Try.underlying23
  have hu25 := Try.underlying25
  have hu77 := Try.underlying77
  obtain ⟨z3, o3⟩ := info_some info3s (by decide)
  obtain ⟨z22, o22⟩ := info_some info22s (by decide)
  obtain ⟨z23, o23⟩ := info_some info23s (by decide)
  refine E.enter (N := 24) Try.func78 rfl Try.ntmps78 (args := [hv V m]) (by simp) ?_
  have L := Below.refl w.heap.size w
  refine E.CG.seq ?_
  refine E.CG.list ?_
  refine E.GL.st rfl rfl rfl (E.ST.box rfl rfl fun g1 w1 e1 b1 l1 => ?_)
  have h1_L : w.heap.size ≤ g1 := by rw [e1]; exact L.size
  replace L := below_step L l1
  refine E.GL.run rfl rfl rfl (E.Runs.assign rfl rfl) ?_
  refine E.GL.run rfl rfl rfl (E.Runs.assign rfl rfl) ?_
  refine E.GL.done ?_
  refine E.QG.code ?_
  refine E.CG.seq ?_
  refine E.CG.seq ?_
  refine E.CG.list ?_
  refine E.GL.run rfl rfl rfl (E.Runs.assign rfl rfl) ?_
  refine E.GL.done ?_
  refine E.QG.code ?_
  refine E.CG.block ?_
  have s2_b1 := b1
  have s2_L := L
  refine E.CG.loop (fun (n : Nat) => [(1, .pointer (some ⟨g1, 0, none⟩)), (4, .int .i64 (n : Int))]) (fun n w' => n ≤ 2 * V.cs.length + 1 ∧ (∀ t, Truth V t → (n : Int) ≤ flT V 0 t) ∧ w'.heap[g1]? = some (.cells #[.slice m.A V.ps.length m.a, .slice m.B V.qs.length m.b, .slice m.C V.ts.length m.c, .slice m.D V.cs.length m.d] 25 (0, 0)) ∧ Below w.heap.size w w') (fun n => 2 * V.cs.length + 1 - n) 0 (E.subc rfl (E.subc rfl E.subn)) ⟨Nat.zero_le _, fun t _ => (flT_01 V t 0).1, b1, L⟩ ?_
  rintro n w2 ⟨hn, hmin, b1, L⟩
  refine E.CG.seq ?_
  refine E.CG.seq ?_
  refine E.CG.list ?_
  refine E.GL.run rfl rfl rfl (E.Runs.move rfl rfl) ?_
  refine E.GL.run rfl rfl rfl (E.Runs.fieldAddr rfl rfl hu25 rfl (by assumption) rfl) ?_
  refine E.GL.run rfl rfl rfl (E.Runs.load1 rfl rfl hu23 rfl (by first | assumption | exact E.blkc (by assumption) rfl | exact pw_cell_below L (by assumption))) ?_
  refine E.GL.run rfl rfl rfl (E.Runs.len rfl rfl hu23) ?_
  refine E.GL.run rfl rfl rfl (E.Runs.mul rfl rfl rfl (IntWalk.i64_in _ (by omega))) ?_
  refine E.GL.cmp rfl rfl rfl (fun _ h => (E.Runs.leq rfl rfl rfl h)) (fun h11 => ?_) (fun h11 => ?_)
  · refine E.GL.done ?_
    refine E.QG.code ?_
    refine E.CG.cond_t rfl ?_
    refine E.CG.skip ?_
    refine E.QG.code ?_
    refine E.CG.seq ?_
    refine E.CG.block ?_
    refine E.CG.seq ?_
    refine E.CG.list ?_
    refine E.GL.run rfl rfl rfl (E.Runs.loads (cs := [.slice m.A V.ps.length m.a, .slice m.B V.qs.length m.b, .slice m.C V.ts.length m.c, .slice m.D V.cs.length m.d]) rfl rfl hu25 rfl info25s (blk_cells b1)) ?_
    refine E.GL.run rfl rfl rfl (E.Runs.move rfl rfl) ?_
    refine E.GL.run rfl rfl rfl (E.Runs.fieldAddr rfl rfl hu25 rfl (by assumption) rfl) ?_
    refine E.GL.run rfl rfl rfl (E.Runs.load1 rfl rfl hu22 rfl (by first | assumption | exact E.blkc (by assumption) rfl | exact pw_cell_below L (by assumption))) ?_
    have hz2 := L.size
    refine E.GL.st rfl rfl rfl (E.ST.call rfl ent83 (E.evc rfl (E.evc rfl (E.evc rfl (E.evc (show _ = some (Value.slice m.B V.ps.length m.b) from by rw [← hnq]; rfl) E.evn)))) ((truths_calls V m ok V.cs.length 0 (n : Int) (bl V.qs) m.B m.b _ (hV.below L) (by omega) ⟨by omega, by omega⟩ (nn_bl ok) (small_bl ok.q (by decide)) (by omega) (by rw [tb_bl' hnq ok.n3, ← hnq]; exact (hV.below L).qs)).mono ?_))
    rintro e w18 ⟨v18, rfl, r18, l18⟩
    refine ⟨_, rfl, ?_⟩
    replace b1 := blk_below b1 l18
    replace L := below_step L l18
    obtain ⟨A18, c18, hv18⟩ := Kd.R_slice r18
    subst hv18
    have hl18 := trL_len ok V.cs.length 0 n (bl V.qs) (by omega)
    have hp18 : 441 ^ V.cs.length ≤ 441 ^ 4 := Nat.pow_le_pow_right (by decide) ok.c4
    have R18 : R3 w.heap.size w18 (.slice A18 (trL V V.cs.length 0 n (bl V.qs)).length c18) (trL V V.cs.length 0 n (bl V.qs)) := ⟨Kd.R_lower r18 hz2⟩
    clear r18
    refine E.GL.run rfl rfl rfl (E.Runs.assign rfl rfl) ?_
    refine E.GL.done ?_
    refine E.QG.code ?_
    refine E.CG.seq ?_
    refine E.CG.list ?_
    refine E.GL.run rfl rfl rfl (E.Runs.move rfl rfl) ?_
    refine E.GL.run rfl rfl rfl (E.Runs.len rfl rfl hu77) ?_
    refine E.GL.cmp rfl rfl rfl (fun _ h => (E.Runs.gtr rfl rfl rfl h)) (fun h21 => ?_) (fun h21 => ?_)
    · have hnn : (trL V V.cs.length 0 n (bl V.qs)) ≠ [] := fun h => by rw [h] at h21; simp at h21
      refine E.GL.done ?_
      refine E.QG.code ?_
      refine E.CG.cond_t rfl ?_
      refine E.CG.seq ?_
      refine E.CG.list ?_
      refine E.GL.run rfl rfl rfl (E.Runs.move rfl rfl) ?_
      refine E.GL.run rfl rfl rfl (E.Runs.move rfl rfl) ?_
      refine E.GL.run rfl rfl rfl (E.Runs.assign rfl rfl) ?_
      refine E.GL.run rfl rfl rfl (E.Runs.assign rfl rfl) ?_
      refine E.GL.done ?_
      refine E.QG.code ?_
      refine E.CG.ret ?_
      refine E.QG.block_ret ?_
      refine E.QG.pass_ret ?_
      refine E.QG.pass_ret ?_
      refine E.QG.block_ret ?_
      refine E.QG.pass_ret ?_
      exact E.QG.result2 rfl rfl rfl ⟨_, _, _, rfl, R18.r, tr_some ok hmin hnn, L⟩
    · have hnil : (trL V V.cs.length 0 n (bl V.qs)) = [] := List.eq_nil_of_length_eq_zero (by omega)
      refine E.GL.done ?_
      refine E.QG.code ?_
      refine E.CG.cond_f rfl ?_
      refine E.CG.skip ?_
      refine E.QG.block_normal ?_
      refine E.QG.code ?_
      refine E.CG.list ?_
      refine E.GL.run rfl rfl rfl (E.Runs.move rfl rfl) ?_
      refine E.GL.run rfl rfl rfl (E.Runs.add rfl rfl rfl (IntWalk.i64_in _ (by omega))) ?_
      refine E.GL.run rfl rfl rfl (E.Runs.assign rfl rfl) ?_
      refine E.GL.done ?_
      exact E.QG.round (n + 1) (E.subc rfl (E.subc rfl E.subn)) ⟨by omega, tr_none ok hmin hnil, b1, L⟩ (by omega)
  · refine E.GL.done ?_
    refine E.QG.code ?_
    refine E.CG.cond_f rfl ?_
    refine E.CG.exit ?_
    refine E.QG.pass_exit ?_
    refine E.QG.pass_exit ?_
    refine E.QG.block_here ?_
    refine E.QG.code ?_
    refine E.CG.seq ?_
    refine E.CG.list ?_
    refine E.GL.run rfl rfl rfl (E.Runs.assign rfl rfl) ?_
    refine E.GL.run rfl rfl rfl (E.Runs.assign rfl rfl) ?_
    refine E.GL.done ?_
    refine E.QG.code ?_
    refine E.CG.ret ?_
    exact E.QG.result2 rfl rfl rfl ⟨_, [], 0, rfl, Kd.R_nil _ _ _ _ _, .inl ⟨tr_done hmin (by omega), rfl, rfl⟩, L⟩

def KnR (V : Ev) (L : List (List (List Int))) (n E0 : Int) : Prop := (E0 ≠ 0 ∧ L = [] ∧ n = 0) ∨ (E0 = 0 ∧ VOk V ∧ (∃ t, Truth V t) ∧ L ≠ [] ∧ n = fewN V ∧ LkS V L ∧ L.length ≤ 441 ^ 4)
set_option maxRecDepth 100000 in
set_option maxHeartbeats 8000000 in

theorem known_r (V : Ev) (m : Ea) (till sh : Int) (w : World) (hV : EvM w V m) (hs : Sz V) (hmb : V.qs.length ≤ m.b) :
    Calls Try.prog 60 #[hv V m, .int .i64 till, .int .i64 sh] w fun e w' => ∃ v L n, e = .returned (.tuple #[v, .int .i64 n, .int .i64 (errT V till sh)]) ∧ Kd.R kRR 42 w' w.heap.size (fun _ => True) v L ∧ KnR V L n (errT V till sh) ∧ Below w.heap.size w w' := by
  have hsc := hs.c
  have hsp := hs.p
  have hu3 := Try.underlying3
  have hu22 := Try.underlying22
  have hu23 := Try.underlying23
  have hu25 := Try.underlying25
  have hu28 := Try.underlying28
  have hu77 := Try.underlying77
  obtain ⟨z3, o3⟩ := info_some info3s (by decide)
  obtain ⟨z22, o22⟩ := info_some info22s (by decide)
  obtain ⟨z23, o23⟩ := info_some info23s (by decide)
  refine E.enter (N := 43) Try.func60 rfl Try.ntmps60 (args := [hv V m, .int .i64 till, .int .i64 sh]) (by simp) ?_
  have L := Below.refl w.heap.size w
  refine E.CG.seq ?_
  refine E.CG.list ?_
  refine E.GL.st rfl rfl rfl (E.ST.box rfl rfl fun g3 w3 e3 b3 l3 => ?_)
  have h3_L : w.heap.size ≤ g3 := by rw [e3]; exact L.size
  replace L := below_step L l3
  refine E.GL.run rfl rfl rfl (E.Runs.assign rfl rfl) ?_
  refine E.GL.run rfl rfl rfl (E.Runs.assign rfl rfl) ?_
  refine E.GL.run rfl rfl rfl (E.Runs.assign rfl rfl) ?_
  refine E.GL.done ?_
  refine E.QG.code ?_
  refine E.CG.seq ?_
  refine E.CG.seq ?_
  refine E.CG.list ?_
  refine E.GL.run rfl rfl rfl (E.Runs.loads (cs := [.slice m.A V.ps.length m.a, .slice m.B V.qs.length m.b, .slice m.C V.ts.length m.c, .slice m.D V.cs.length m.d]) rfl rfl hu25 rfl info25s (blk_cells b3)) ?_
  refine E.GL.st rfl rfl rfl (E.ST.call rfl ent34 (E.evc rfl E.evn) ((check34 V m _ (hV.below L) hs).mono ?_))
  rintro e w13 ⟨rfl, l13⟩
  refine ⟨_, rfl, ?_⟩
  replace b3 := blk_below b3 l13
  replace L := below_step L l13
  refine E.GL.run rfl rfl rfl (E.Runs.assign rfl rfl) ?_
  refine E.GL.done ?_
  refine E.QG.code ?_
  refine E.CG.seq ?_
  refine E.CG.list ?_
  refine E.GL.run rfl rfl rfl (E.Runs.move rfl rfl) ?_
  refine E.GL.cmpn rfl rfl rfl (fun _ h => (E.Runs.neq rfl rfl rfl h)) (fun h15 => ?_) (fun h15 => ?_)
  · refine E.GL.done ?_
    refine E.QG.code ?_
    refine E.CG.cond_t rfl ?_
    refine E.CG.seq ?_
    refine E.CG.list ?_
    refine E.GL.run rfl rfl rfl (E.Runs.move rfl rfl) ?_
    refine E.GL.run rfl rfl rfl (E.Runs.assign rfl rfl) ?_
    refine E.GL.run rfl rfl rfl (E.Runs.assign rfl rfl) ?_
    refine E.GL.run rfl rfl rfl (E.Runs.assign rfl rfl) ?_
    refine E.GL.done ?_
    refine E.QG.code ?_
    refine E.CG.ret ?_
    refine E.QG.pass_ret ?_
    exact E.QG.result3 rfl rfl rfl rfl ⟨_, [], 0, by rw [errT_no (fun k => h15 (chkV_yes k)), chkV_no (fun k => h15 (chkV_yes k))], Kd.R_nil _ _ _ _ _, .inl ⟨by rw [errT_no (fun k => h15 (chkV_yes k))]; decide, rfl, rfl⟩, L⟩
  · have hok : VOk V := chkV_ok.mp (by omega)
    refine E.GL.done ?_
    refine E.QG.code ?_
    refine E.CG.cond_f rfl ?_
    refine E.CG.skip ?_
    refine E.QG.code ?_
    refine E.CG.seq ?_
    refine E.CG.seq ?_
    refine E.CG.list ?_
    refine E.GL.run rfl rfl rfl (E.Runs.move rfl rfl) ?_
    refine E.GL.run rfl rfl rfl (E.Runs.fieldAddr rfl rfl hu25 rfl (by assumption) rfl) ?_
    refine E.GL.run rfl rfl rfl (E.Runs.load1 rfl rfl hu23 rfl (by first | assumption | exact E.blkc (by assumption) rfl | exact pw_cell_below L (by assumption))) ?_
    refine E.GL.run rfl rfl rfl (E.Runs.len rfl rfl hu23) ?_
    refine E.GL.run rfl rfl rfl (E.Runs.sub rfl rfl rfl (IntWalk.i64_in _ (by omega))) ?_
    by_cases h22 : inR till 0 ((V.cs.length : Int) - 1)
    · refine E.GL.st rfl rfl rfl (E.ST.call rfl ent71 (E.evc rfl (E.evc rfl (E.evc rfl E.evn))) ((within_r till 0 ((V.cs.length : Int) - 1) true (iff_of_true rfl h22) _).mono ?_))
      rintro e w22 ⟨rfl, l22⟩
      refine ⟨_, rfl, ?_⟩
      replace b3 := blk_below b3 l22
      replace L := below_step L l22
      refine E.GL.run rfl rfl rfl (E.Runs.not rfl rfl) ?_
      refine E.GL.run rfl rfl rfl (E.Runs.move rfl rfl) ?_
      refine E.GL.run rfl rfl rfl (E.Runs.move rfl rfl) ?_
      refine E.GL.run rfl rfl rfl (E.Runs.fieldAddr rfl rfl hu25 rfl (by assumption) rfl) ?_
      refine E.GL.run rfl rfl rfl (E.Runs.load1 rfl rfl hu22 rfl (by first | assumption | exact E.blkc (by assumption) rfl | exact pw_cell_below L (by assumption))) ?_
      refine E.GL.run rfl rfl rfl (E.Runs.len rfl rfl hu22) ?_
      refine E.GL.run rfl rfl rfl (E.Runs.sub rfl rfl rfl (IntWalk.i64_in _ (by omega))) ?_
      by_cases h30 : inR sh 0 ((V.ps.length : Int) - 1)
      · have hT : (0 ≤ till ∧ till ≤ (V.cs.length : Int) - 1) ∧ (0 ≤ sh ∧ sh ≤ (V.ps.length : Int) - 1) := ⟨h22, h30⟩
        refine E.GL.st rfl rfl rfl (E.ST.call rfl ent71 (E.evc rfl (E.evc rfl (E.evc rfl E.evn))) ((within_r sh 0 ((V.ps.length : Int) - 1) true (iff_of_true rfl h30) _).mono ?_))
        rintro e w30 ⟨rfl, l30⟩
        refine ⟨_, rfl, ?_⟩
        replace b3 := blk_below b3 l30
        replace L := below_step L l30
        refine E.GL.run rfl rfl rfl (E.Runs.not rfl rfl) ?_
        refine E.GL.run rfl rfl rfl (E.Runs.pick_f rfl rfl rfl) ?_
        refine E.GL.done ?_
        refine E.QG.code ?_
        refine E.CG.cond_f rfl ?_
        refine E.CG.skip ?_
        refine E.QG.code ?_
        refine E.CG.seq ?_
        refine E.CG.list ?_
        refine E.GL.run rfl rfl rfl (E.Runs.loads (cs := [.slice m.A V.ps.length m.a, .slice m.B V.qs.length m.b, .slice m.C V.ts.length m.c, .slice m.D V.cs.length m.d]) rfl rfl hu25 rfl info25s (blk_cells b3)) ?_
        have hz35 := L.size
        refine E.GL.st rfl rfl rfl (E.ST.call rfl ent78 (E.evc rfl E.evn) ((likely_r V m _ (hV.below L) hok hmb).mono ?_))
        rintro e w35 ⟨v35, L0, n, rfl, r35, hL, l35⟩
        refine ⟨_, rfl, ?_⟩
        replace b3 := blk_below b3 l35
        replace L := below_step L l35
        obtain ⟨A35, c35, hv35⟩ := Kd.R_slice r35
        subst hv35
        replace r35 := Kd.R_lower r35 hz35
        refine E.GL.run rfl rfl rfl (E.Runs.move rfl rfl) ?_
        refine E.GL.run rfl rfl rfl (E.Runs.extract rfl rfl rfl) ?_
        refine E.GL.run rfl rfl rfl (E.Runs.extract rfl rfl rfl) ?_
        refine E.GL.run rfl rfl rfl (E.Runs.assign rfl rfl) ?_
        refine E.GL.run rfl rfl rfl (E.Runs.assign rfl rfl) ?_
        refine E.GL.done ?_
        refine E.QG.code ?_
        refine E.CG.seq ?_
        refine E.CG.seq ?_
        refine E.CG.list ?_
        refine E.GL.run rfl rfl rfl (E.Runs.move rfl rfl) ?_
        refine E.GL.run rfl rfl rfl (E.Runs.len rfl rfl hu77) ?_
        refine E.GL.cmp rfl rfl rfl (fun _ h => (E.Runs.eql rfl rfl rfl h)) (fun h40 => ?_) (fun h40 => ?_)
        · have hnil : L0 = [] := List.eq_nil_of_length_eq_zero (by omega)
          have hno : ∀ t, ¬ Truth V t := by
            rcases hL with h | h
            · exact h.1
            · exact absurd hnil h.2.1
          refine E.GL.done ?_
          refine E.QG.code ?_
          refine E.CG.cond_t rfl ?_
          refine E.CG.seq ?_
          refine E.CG.list ?_
          refine E.GL.run rfl rfl rfl (E.Runs.assign rfl rfl) ?_
          refine E.GL.run rfl rfl rfl (E.Runs.assign rfl rfl) ?_
          refine E.GL.run rfl rfl rfl (E.Runs.assign rfl rfl) ?_
          refine E.GL.done ?_
          refine E.QG.code ?_
          refine E.CG.ret ?_
          refine E.QG.pass_ret ?_
          exact E.QG.result3 rfl rfl rfl rfl ⟨_, [], 0, by rw [errT_none hok hT hno] <;> rfl, Kd.R_nil _ _ _ _ _, .inl ⟨by rw [errT_none hok hT hno]; decide, rfl, rfl⟩, L⟩
        · have hL1 : (∃ t, Truth V t) ∧ L0 ≠ [] ∧ n = fewN V ∧ LkS V L0 ∧ L0.length ≤ 441 ^ 4 := by
            rcases hL with h | h
            · exact absurd (by rw [h.2.1]; rfl) h40
            · exact h
          refine E.GL.done ?_
          refine E.QG.code ?_
          refine E.CG.cond_f rfl ?_
          refine E.CG.skip ?_
          refine E.QG.code ?_
          refine E.CG.seq ?_
          refine E.CG.list ?_
          refine E.GL.run rfl rfl rfl (E.Runs.move rfl rfl) ?_
          refine E.GL.run rfl rfl rfl (E.Runs.move rfl rfl) ?_
          refine E.GL.run rfl rfl rfl (E.Runs.assign rfl rfl) ?_
          refine E.GL.run rfl rfl rfl (E.Runs.assign rfl rfl) ?_
          refine E.GL.run rfl rfl rfl (E.Runs.assign rfl rfl) ?_
          refine E.GL.done ?_
          refine E.QG.code ?_
          refine E.CG.ret ?_
          obtain ⟨t0, ht0⟩ := hL1.1
          exact E.QG.result3 rfl rfl rfl rfl ⟨_, L0, n, by rw [errT_ok hok hT ht0] <;> rfl, r35, .inr ⟨errT_ok hok hT ht0, hok, hL1⟩, L⟩
      · refine E.GL.st rfl rfl rfl (E.ST.call rfl ent71 (E.evc rfl (E.evc rfl (E.evc rfl E.evn))) ((within_r sh 0 ((V.ps.length : Int) - 1) false (iff_of_false Bool.false_ne_true h30) _).mono ?_))
        rintro e w30 ⟨rfl, l30⟩
        refine ⟨_, rfl, ?_⟩
        replace b3 := blk_below b3 l30
        replace L := below_step L l30
        refine E.GL.run rfl rfl rfl (E.Runs.not rfl rfl) ?_
        refine E.GL.run rfl rfl rfl (E.Runs.pick_f rfl rfl rfl) ?_
        refine E.GL.done ?_
        refine E.QG.code ?_
        refine E.CG.cond_t rfl ?_
        refine E.CG.seq ?_
        refine E.CG.list ?_
        refine E.GL.run rfl rfl rfl (E.Runs.assign rfl rfl) ?_
        refine E.GL.run rfl rfl rfl (E.Runs.assign rfl rfl) ?_
        refine E.GL.run rfl rfl rfl (E.Runs.assign rfl rfl) ?_
        refine E.GL.done ?_
        refine E.QG.code ?_
        refine E.CG.ret ?_
        refine E.QG.pass_ret ?_
        exact E.QG.result3 rfl rfl rfl rfl ⟨_, [], 0, by rw [errT_arg hok (fun k => h30 k.2)] <;> rfl, Kd.R_nil _ _ _ _ _, .inl ⟨by rw [errT_arg hok (fun k => h30 k.2)]; decide, rfl, rfl⟩, L⟩
    · refine E.GL.st rfl rfl rfl (E.ST.call rfl ent71 (E.evc rfl (E.evc rfl (E.evc rfl E.evn))) ((within_r till 0 ((V.cs.length : Int) - 1) false (iff_of_false Bool.false_ne_true h22) _).mono ?_))
      rintro e w22 ⟨rfl, l22⟩
      refine ⟨_, rfl, ?_⟩
      replace b3 := blk_below b3 l22
      replace L := below_step L l22
      refine E.GL.run rfl rfl rfl (E.Runs.not rfl rfl) ?_
      refine E.GL.run rfl rfl rfl (E.Runs.move rfl rfl) ?_
      refine E.GL.skip rfl rfl rfl ?_
      refine E.GL.skip rfl rfl rfl ?_
      refine E.GL.skip rfl rfl rfl ?_
      refine E.GL.skip rfl rfl rfl ?_
      refine E.GL.skip rfl rfl rfl ?_
      refine E.GL.skip rfl rfl rfl ?_
      refine E.GL.skip rfl rfl rfl ?_
      refine E.GL.run rfl rfl rfl (E.Runs.pick_t rfl rfl rfl) ?_
      refine E.GL.done ?_
      refine E.QG.code ?_
      refine E.CG.cond_t rfl ?_
      refine E.CG.seq ?_
      refine E.CG.list ?_
      refine E.GL.run rfl rfl rfl (E.Runs.assign rfl rfl) ?_
      refine E.GL.run rfl rfl rfl (E.Runs.assign rfl rfl) ?_
      refine E.GL.run rfl rfl rfl (E.Runs.assign rfl rfl) ?_
      refine E.GL.done ?_
      refine E.QG.code ?_
      refine E.CG.ret ?_
      refine E.QG.pass_ret ?_
      exact E.QG.result3 rfl rfl rfl rfl ⟨_, [], 0, by rw [errT_arg hok (fun k => h22 k.1)] <;> rfl, Kd.R_nil _ _ _ _ _, .inl ⟨by rw [errT_arg hok (fun k => h22 k.1)]; decide, rfl, rfl⟩, L⟩

theorem errT_00 (V : Ev) : errT V 0 0 = errV V := by
  unfold errT errV
  by_cases ok : VOk V
  · have h1 := ok.c1
    have h2 := ok.n1
    rw [if_pos ok, if_pos ok, if_pos ⟨⟨by omega, by omega⟩, ⟨by omega, by omega⟩⟩]
  · rw [if_neg ok, if_neg ok]
set_option maxRecDepth 100000 in
set_option maxHeartbeats 8000000 in

theorem checkTruth_r (V : Ev) (m : Ea) (w : World) (hV : EvM w V m) (hs : Sz V) (hmb : V.qs.length ≤ m.b) :
    Calls Try.prog 42 #[hv V m] w fun e w' => e = .returned (.int .i64 (errV V)) ∧ Below w.heap.size w w' := by
  have hu3 := Try.underlying3
  have hu25 := Try.underlying25
  refine E.enter (N := 13) Try.func42 rfl Try.ntmps42 (args := [hv V m]) (by simp) ?_
  have L := Below.refl w.heap.size w
  refine E.CG.seq ?_
  refine E.CG.list ?_
  refine E.GL.st rfl rfl rfl (E.ST.box rfl rfl fun g1 w1 e1 b1 l1 => ?_)
  have h1_L : w.heap.size ≤ g1 := by rw [e1]; exact L.size
  replace L := below_step L l1
  refine E.GL.run rfl rfl rfl (E.Runs.assign rfl rfl) ?_
  refine E.GL.done ?_
  refine E.QG.code ?_
  refine E.CG.seq ?_
  refine E.CG.list ?_
  refine E.GL.run rfl rfl rfl (E.Runs.loads (cs := [.slice m.A V.ps.length m.a, .slice m.B V.qs.length m.b, .slice m.C V.ts.length m.c, .slice m.D V.cs.length m.d]) rfl rfl hu25 rfl info25s (blk_cells b1)) ?_
  refine E.GL.st rfl rfl rfl (E.ST.call rfl ent60 (E.evc rfl (E.evc rfl (E.evc rfl E.evn))) ((known_r V m 0 0 _ (hV.below L) hs hmb).mono ?_))
  rintro e w8 ⟨v8, L0, n, rfl, r8, hL, l8⟩
  refine ⟨_, rfl, ?_⟩
  replace b1 := blk_below b1 l8
  replace L := below_step L l8
  refine E.GL.run rfl rfl rfl (E.Runs.move rfl rfl) ?_
  refine E.GL.run rfl rfl rfl (E.Runs.extract rfl rfl rfl) ?_
  refine E.GL.run rfl rfl rfl (E.Runs.extract rfl rfl rfl) ?_
  refine E.GL.run rfl rfl rfl (E.Runs.extract rfl rfl rfl) ?_
  refine E.GL.run rfl rfl rfl (E.Runs.assign rfl rfl) ?_
  refine E.GL.run rfl rfl rfl (E.Runs.assign rfl rfl) ?_
  refine E.GL.run rfl rfl rfl (E.Runs.assign rfl rfl) ?_
  refine E.GL.done ?_
  refine E.QG.code ?_
  refine E.CG.seq ?_
  refine E.CG.list ?_
  refine E.GL.run rfl rfl rfl (E.Runs.move rfl rfl) ?_
  refine E.GL.run rfl rfl rfl (E.Runs.assign rfl rfl) ?_
  refine E.GL.done ?_
  refine E.QG.code ?_
  refine E.CG.ret ?_
  exact E.QG.result rfl rfl ⟨by rw [← errT_00] <;> rfl, L⟩

set_option maxRecDepth 100000 in
set_option maxHeartbeats 8000000 in

theorem fewest_r (V : Ev) (m : Ea) (w : World) (hV : EvM w V m) (hs : Sz V) (hmb : V.qs.length ≤ m.b) :
    Calls Try.prog 22 #[hv V m] w fun e w' => e = .returned (.tuple #[.int .i64 (fewA V), .int .i64 (errV V)]) ∧ Below w.heap.size w w' := by
  have hu3 := Try.underlying3
  have hu25 := Try.underlying25
  refine E.enter (N := 15) Try.func22 rfl Try.ntmps22 (args := [hv V m]) (by simp) ?_
  have L := Below.refl w.heap.size w
  refine E.CG.seq ?_
  refine E.CG.list ?_
  refine E.GL.st rfl rfl rfl (E.ST.box rfl rfl fun g1 w1 e1 b1 l1 => ?_)
  have h1_L : w.heap.size ≤ g1 := by rw [e1]; exact L.size
  replace L := below_step L l1
  refine E.GL.run rfl rfl rfl (E.Runs.assign rfl rfl) ?_
  refine E.GL.run rfl rfl rfl (E.Runs.assign rfl rfl) ?_
  refine E.GL.done ?_
  refine E.QG.code ?_
  refine E.CG.seq ?_
  refine E.CG.list ?_
  refine E.GL.run rfl rfl rfl (E.Runs.loads (cs := [.slice m.A V.ps.length m.a, .slice m.B V.qs.length m.b, .slice m.C V.ts.length m.c, .slice m.D V.cs.length m.d]) rfl rfl hu25 rfl info25s (blk_cells b1)) ?_
  refine E.GL.st rfl rfl rfl (E.ST.call rfl ent60 (E.evc rfl (E.evc rfl (E.evc rfl E.evn))) ((known_r V m 0 0 _ (hV.below L) hs hmb).mono ?_))
  rintro e w9 ⟨v9, L0, n, rfl, r9, hL, l9⟩
  refine ⟨_, rfl, ?_⟩
  replace b1 := blk_below b1 l9
  replace L := below_step L l9
  refine E.GL.run rfl rfl rfl (E.Runs.move rfl rfl) ?_
  refine E.GL.run rfl rfl rfl (E.Runs.extract rfl rfl rfl) ?_
  refine E.GL.run rfl rfl rfl (E.Runs.extract rfl rfl rfl) ?_
  refine E.GL.run rfl rfl rfl (E.Runs.extract rfl rfl rfl) ?_
  refine E.GL.run rfl rfl rfl (E.Runs.assign rfl rfl) ?_
  refine E.GL.run rfl rfl rfl (E.Runs.assign rfl rfl) ?_
  refine E.GL.run rfl rfl rfl (E.Runs.assign rfl rfl) ?_
  refine E.GL.done ?_
  refine E.QG.code ?_
  refine E.CG.seq ?_
  refine E.CG.list ?_
  refine E.GL.run rfl rfl rfl (E.Runs.move rfl rfl) ?_
  refine E.GL.run rfl rfl rfl (E.Runs.move rfl rfl) ?_
  refine E.GL.run rfl rfl rfl (E.Runs.assign rfl rfl) ?_
  refine E.GL.run rfl rfl rfl (E.Runs.assign rfl rfl) ?_
  refine E.GL.done ?_
  refine E.QG.code ?_
  refine E.CG.ret ?_
  have hfew : n = fewA V := by
    unfold fewA
    rw [← errT_00]
    rcases hL with ⟨h1, _, h2⟩ | ⟨h1, _, _, _, h2, _⟩
    · rw [if_neg h1, h2]
    · rw [if_pos h1, h2]
  exact E.QG.result2 rfl rfl rfl ⟨by rw [← hfew, ← errT_00] <;> rfl, L⟩

end Go.Proofs.Ytiplichdhcmjdaa.T
namespace Go.Proofs.Ytiplichdhcmjdaa.T
open Go.RowKit Go.Proofs.YtiplichdhcmjdaaW.PrintWords Go.Proofs.YtiplichdhcmjdaaW.PrintMore
open Go.Proofs.Ytiplichdhcmjdaa.P
set_option linter.unusedVariables false
set_option linter.unusedSimpArgs false

theorem rowK_at {α : Type} {d : Kd α} {e : Nat} {w : World} {A : Option Addr} {n : Nat} {ts : List (List α)} (h : Kd.C (Kd.slice e d) w A n ts) {i : Nat} {l : List α} (hi : ts[i]? = some l) : ∃ ad a0 k0, A = some ad ∧ w.cell? (ad.add (i * 1)) = some (.slice a0 l.length k0) ∧ Kd.C d w a0 l.length l := by
  have hil : i < ts.length := (List.getElem?_eq_some_iff.1 hi).1
  have hn := Kd.C_len h
  obtain ⟨ad, c, e, _, hK, hc0⟩ := Kd.C_get h l (i : Int) (by omega) (by omega)
  have hx : ts.getD i l = l := by simp [List.getD_eq_getElem?_getD, hi]
  rw [Int.toNat_natCast, hx] at hK
  rw [Int.toNat_natCast] at hc0
  obtain ⟨a0, k0, rfl, _, hl⟩ := hK
  exact ⟨ad, a0, k0, e, hc0 0 _ rfl, hl⟩
/-- A till's row in a likely truth. -/
theorem lk_row {V : Ev} (ok : VOk V) {L : List (List (List Int))} (hS : LkS V L) {ts : List (List Int)} (h : ts ∈ L) {i : Nat} (hi : i < V.cs.length) : ∃ t b, Lkly V t ∧ ts = t.map (tb V.ps.length) ∧ t[i]? = some b ∧ ts[i]? = some (tb V.ps.length b) ∧ Way V.ps.length (rl (ct V i)) b ∧ ts.length = V.cs.length := by
  obtain ⟨t, ht, rfl⟩ := (hS ts).mp h
  obtain ⟨b, hb⟩ := get_ex (show i < t.length by rw [ht.1.1]; exact hi)
  have hw := Ws_get ht.1.2.1 hb
  rw [Nat.zero_add] at hw
  exact ⟨t, b, ht, rfl, hb, by rw [List.getElem?_map, hb]; rfl, hw, by rw [List.length_map]; exact ht.1.1⟩
def flR (V : Ev) (i : Nat) (ts : List (List Int)) : Int := fl V (ct V i) (bl (ts.getD i []))
theorem flR_eq {V : Ev} (ok : VOk V) {i : Nat} {t : List Bl} {b : Bl} (hb : t[i]? = some b) (hw : Way V.ps.length (rl (ct V i)) b) : flR V i (t.map (tb V.ps.length)) = fl V (ct V i) b := by
  unfold flR
  rw [List.getD_eq_getElem?_getD, List.getElem?_map, hb]
  show fl V (ct V i) (bl (tb V.ps.length b)) = _
  rw [tb_bl ok.n1 ok.n3 hw]
def cntF (V : Ev) (i : Nat) (L : List (List (List Int))) : Nat := (L.filter (fun ts => decide (0 < flR V i ts))).length
theorem cnt_susp {V : Ev} (ok : VOk V) {L : List (List (List Int))} (hS : LkS V L) {i : Nat} (hi : i < V.cs.length) : 0 < cntF V i L ↔ suspP V i := by
  constructor
  · intro h
    obtain ⟨ts, hts⟩ := List.exists_mem_of_length_pos h
    obtain ⟨hm, hp⟩ := List.mem_filter.mp hts
    obtain ⟨t, b, h1, rfl, h3, _, h5, _⟩ := lk_row ok hS hm hi
    rw [decide_eq_true_eq, flR_eq ok h3 h5] at hp
    exact ⟨t, b, h1, h3, hp⟩
  · rintro ⟨t, b, h1, h3, hp⟩
    have hw := Ws_get h1.1.2.1 h3
    rw [Nat.zero_add] at hw
    refine List.length_pos_of_mem (List.mem_filter.mpr ⟨(hS _).mpr ⟨t, h1, rfl⟩, ?_⟩)
    rw [decide_eq_true_eq, flR_eq ok h3 hw]
    exact hp
def mnG {α : Type} (f : α → Int) (x : Int) (l : List α) : Int := l.foldl (fun a o => mn a (f o)) x
def mxG {α : Type} (f : α → Int) (x : Int) (l : List α) : Int := l.foldl (fun a o => mx a (f o)) x
theorem mnG_step {α : Type} {q : α → Int} {x : Int} {l : List α} {i : Nat} {o : α} (ho : l[i]? = some o) : mnG q x (l.take (i + 1)) = mn (mnG q x (l.take i)) (q o) := by
  unfold mnG
  rw [List.take_add_one, ho, Option.toList_some, List.foldl_append]
  rfl
theorem mxG_step {α : Type} {q : α → Int} {x : Int} {l : List α} {i : Nat} {o : α} (ho : l[i]? = some o) : mxG q x (l.take (i + 1)) = mx (mxG q x (l.take i)) (q o) := by
  unfold mxG
  rw [List.take_add_one, ho, Option.toList_some, List.foldl_append]
  rfl
theorem mnG_is {α : Type} {q : α → Int} : ∀ (l : List α) (x : Int), (mnG q x l = x ∨ ∃ o ∈ l, q o = mnG q x l) ∧ mnG q x l ≤ x ∧ ∀ o ∈ l, mnG q x l ≤ q o
  | [], x => ⟨.inl rfl, Int.le_refl _, fun o h => by cases h⟩
  | o :: l, x => by
    obtain ⟨h1, h2, h3⟩ := mnG_is (q := q) l (mn x (q o))
    have e : mnG q x (o :: l) = mnG q (mn x (q o)) l := rfl
    have hm : mn x (q o) = x ∨ mn x (q o) = q o := by unfold mn; split <;> simp
    have hle : mn x (q o) ≤ x ∧ mn x (q o) ≤ q o := by unfold mn; split <;> omega
    rw [e]
    refine ⟨?_, by omega, fun o' ho' => ?_⟩
    · rcases h1 with h1 | ⟨o', ho', h1⟩
      · rcases hm with hm | hm
        · exact .inl (h1.trans hm)
        · exact .inr ⟨o, List.mem_cons_self, by rw [h1, hm]⟩
      · exact .inr ⟨o', List.mem_cons_of_mem _ ho', h1⟩
    · rcases List.mem_cons.mp ho' with rfl | ho'
      · omega
      · exact h3 o' ho'
theorem mxG_is {α : Type} {q : α → Int} : ∀ (l : List α) (x : Int), (mxG q x l = x ∨ ∃ o ∈ l, q o = mxG q x l) ∧ x ≤ mxG q x l ∧ ∀ o ∈ l, q o ≤ mxG q x l
  | [], x => ⟨.inl rfl, Int.le_refl _, fun o h => by cases h⟩
  | o :: l, x => by
    obtain ⟨h1, h2, h3⟩ := mxG_is (q := q) l (mx x (q o))
    have e : mxG q x (o :: l) = mxG q (mx x (q o)) l := rfl
    have hm : mx x (q o) = x ∨ mx x (q o) = q o := by unfold mx; split <;> simp
    have hle : x ≤ mx x (q o) ∧ q o ≤ mx x (q o) := by unfold mx; split <;> omega
    rw [e]
    refine ⟨?_, by omega, fun o' ho' => ?_⟩
    · rcases h1 with h1 | ⟨o', ho', h1⟩
      · rcases hm with hm | hm
        · exact .inl (h1.trans hm)
        · exact .inr ⟨o, List.mem_cons_self, by rw [h1, hm]⟩
      · exact .inr ⟨o', List.mem_cons_of_mem _ ho', h1⟩
    · rcases List.mem_cons.mp ho' with rfl | ho'
      · omega
      · exact h3 o' ho'
theorem span_r {V : Ev} (ok : VOk V) {till sh : Int} {q : Bl → Int} {L : List (List (List Int))} (hS : LkS V L) (hi : till.toNat < V.cs.length) (h : errT V till sh = 0) {f : List (List Int) → Int} (hf : ∀ t b, Lkly V t → t[till.toNat]? = some b → Way V.ps.length (rl (ct V till.toNat)) b → f (t.map (tb V.ps.length)) = q b) {o0 : List (List Int)} (h0 : o0 ∈ L) : loV V till sh q = mnG f (f o0) L ∧ hiV V till sh q = mxG f (f o0) L := by
  have hval : ∀ n, valP V till.toNat q n ↔ ∃ ts ∈ L, f ts = n := fun n => by
    constructor
    · rintro ⟨t, b, h1, h2, rfl⟩
      have hw := Ws_get h1.1.2.1 h2
      rw [Nat.zero_add] at hw
      exact ⟨_, (hS _).mpr ⟨t, h1, rfl⟩, hf t b h1 h2 hw⟩
    · rintro ⟨ts, hm, rfl⟩
      obtain ⟨t, b, h1, rfl, h3, _, h5, _⟩ := lk_row ok hS hm hi
      exact ⟨t, b, h1, h3, (hf t b h1 h3 h5).symm⟩
  obtain ⟨a1, a2, a3⟩ := mnG_is (q := f) L (f o0)
  obtain ⟨b1, b2, b3⟩ := mxG_is (q := f) L (f o0)
  constructor
  · refine loV_ok h ((hval _).mpr ?_) fun n hn => ?_
    · rcases a1 with a1 | a1
      · exact ⟨o0, h0, a1.symm⟩
      · exact a1
    · obtain ⟨o, ho, rfl⟩ := (hval _).mp hn
      exact a3 o ho
  · refine hiV_ok h ((hval _).mpr ?_) fun n hn => ?_
    · rcases b1 with b1 | b1
      · exact ⟨o0, h0, b1.symm⟩
      · exact b1
    · obtain ⟨o, ho, rfl⟩ := (hval _).mp hn
      exact b3 o ho
theorem big441 : 441 ^ 4 = 37822859361 := by decide

end Go.Proofs.Ytiplichdhcmjdaa.T
namespace Go.Proofs.Ytiplichdhcmjdaa.T
open Go.RowKit Go.Proofs.YtiplichdhcmjdaaW.PrintWords Go.Proofs.YtiplichdhcmjdaaW.PrintMore
open Go.Proofs.Ytiplichdhcmjdaa.P
set_option linter.unusedVariables false
set_option linter.unusedSimpArgs false

def fRe (i s : Nat) (ts : List (List Int)) : Int := (ts.getD i []).getD s 0
def fMi (V : Ev) (i : Nat) (ts : List (List Int)) : Int := due V (ct V i) (bl (ts.getD i [])) - (ct V i).f5
theorem fRe_at {ts : List (List Int)} {i s : Nat} {l : List Int} {x : Int} (h : ts[i]? = some l) (k : l[s]? = some x) : fRe i s ts = x := by
  unfold fRe
  rw [List.getD_eq_getElem?_getD, List.getD_eq_getElem?_getD, h]
  show (l[s]?).getD 0 = x
  rw [k]
  rfl
theorem fRe_q {V : Ev} {i s : Nat} (hs : s < V.ps.length) (h3 : V.ps.length ≤ 3) {t : List Bl} {b : Bl} (hb : t[i]? = some b) : fRe i s (t.map (tb V.ps.length)) = b.get s := fRe_at (l := tb V.ps.length b) (by rw [List.getElem?_map, hb]; rfl) (tb_at hs h3)
theorem fMi_q {V : Ev} (ok : VOk V) {i : Nat} {t : List Bl} {b : Bl} (hb : t[i]? = some b) (hw : Way V.ps.length (rl (ct V i)) b) : fMi V i (t.map (tb V.ps.length)) = due V (ct V i) b - (ct V i).f5 := by
  unfold fMi
  rw [List.getD_eq_getElem?_getD, List.getElem?_map, hb]
  show due V (ct V i) (bl (tb V.ps.length b)) - _ = _
  rw [tb_bl ok.n1 ok.n3 hw]
theorem errT_in {V : Ev} {till sh : Int} (h : errT V till sh = 0) : (0 ≤ till ∧ till ≤ (V.cs.length : Int) - 1) ∧ (0 ≤ sh ∧ sh ≤ (V.ps.length : Int) - 1) := by
  unfold errT at h
  split at h
  · split at h
    · next k => exact k
    · cases h
  · cases h

set_option maxRecDepth 100000 in
set_option maxHeartbeats 8000000 in

theorem really_r (V : Ev) (m : Ea) (till sh : Int) (w : World) (hV : EvM w V m) (hs : Sz V) (hmb : V.qs.length ≤ m.b) :
    Calls Try.prog 40 #[hv V m, .int .i64 till, .int .i64 sh] w fun e w' => e = .returned (.tuple #[.agg #[.int .i64 (loV V till sh (fun b => b.get sh.toNat)), .int .i64 (hiV V till sh (fun b => b.get sh.toNat))], .int .i64 (errT V till sh)]) ∧ Below w.heap.size w w' := by
  have hu3 := Try.underlying3
  have hu22 := Try.underlying22
  have hu25 := Try.underlying25
  have hu28 := Try.underlying28
  have hu34 := Try.underlying34
  have hu42 := Try.underlying42
  have hu77 := Try.underlying77
  obtain ⟨z3, o3⟩ := info_some info3s (by decide)
  obtain ⟨z22, o22⟩ := info_some info22s (by decide)
  obtain ⟨z42, o42⟩ := info_some info42s (by decide)
  refine E.enter (N := 71) Try.func40 rfl Try.ntmps40 (args := [hv V m, .int .i64 till, .int .i64 sh]) (by simp) ?_
  have L := Below.refl w.heap.size w
  refine E.CG.seq ?_
  refine E.CG.list ?_
  refine E.GL.st rfl rfl rfl (E.ST.box rfl rfl fun g3 w3 e3 b3 l3 => ?_)
  have h3_L : w.heap.size ≤ g3 := by rw [e3]; exact L.size
  replace L := below_step L l3
  refine E.GL.st rfl rfl rfl (E.ST.alloc rfl info34z fun g6 w6 e6 b6 l6 => ?_)
  have h6_L : w.heap.size ≤ g6 := by rw [e6]; exact L.size
  have n6_b3 : g3 ≠ g6 := by have := blk_lt b3; omega
  replace b3 := blk_below b3 l6
  replace L := below_step L l6
  refine E.GL.run rfl rfl rfl (E.Runs.assign rfl rfl) ?_
  refine E.GL.done ?_
  refine E.QG.code ?_
  refine E.CG.seq ?_
  refine E.CG.list ?_
  refine E.GL.run rfl rfl rfl (E.Runs.loads (cs := [.slice m.A V.ps.length m.a, .slice m.B V.qs.length m.b, .slice m.C V.ts.length m.c, .slice m.D V.cs.length m.d]) rfl rfl hu25 rfl info25s (blk_cells b3)) ?_
  refine E.GL.run rfl rfl rfl (E.Runs.move rfl rfl) ?_
  refine E.GL.run rfl rfl rfl (E.Runs.move rfl rfl) ?_
  refine E.GL.st rfl rfl rfl (E.ST.call rfl ent60 (E.evc rfl (E.evc rfl (E.evc rfl E.evn))) ((known_r V m till sh _ (hV.below L) hs hmb).mono ?_))
  rintro e w18 ⟨v18, L0, n, rfl, r18, hL, l18⟩
  refine ⟨_, rfl, ?_⟩
  replace b3 := blk_below b3 l18
  replace b6 := blk_below b6 l18
  replace L := below_step L l18
  obtain ⟨A18, c18, hv18⟩ := Kd.R_slice r18
  subst hv18
  refine E.GL.run rfl rfl rfl (E.Runs.move rfl rfl) ?_
  refine E.GL.run rfl rfl rfl (E.Runs.extract rfl rfl rfl) ?_
  refine E.GL.run rfl rfl rfl (E.Runs.extract rfl rfl rfl) ?_
  refine E.GL.run rfl rfl rfl (E.Runs.extract rfl rfl rfl) ?_
  refine E.GL.run rfl rfl rfl (E.Runs.assign rfl rfl) ?_
  refine E.GL.run rfl rfl rfl (E.Runs.assign rfl rfl) ?_
  refine E.GL.run rfl rfl rfl (E.Runs.assign rfl rfl) ?_
  refine E.GL.done ?_
  refine E.QG.code ?_
  refine E.CG.seq ?_
  refine E.CG.seq ?_
  refine E.CG.list ?_
  refine E.GL.run rfl rfl rfl (E.Runs.move rfl rfl) ?_
  rcases hL with ⟨hE, hnil, hn0⟩ | ⟨hE, hok, ⟨t0, ht0⟩, hne, hn, hLk, hlen⟩
  · have hne0 : (!decide (errT V till sh = 0)) = true := by rw [decide_eq_false hE]; rfl
    refine E.GL.run rfl rfl rfl (E.Runs.neq rfl rfl rfl hne0) ?_
    refine E.GL.done ?_
    refine E.QG.code ?_
    refine E.CG.cond_t rfl ?_
    refine E.CG.seq ?_
    refine E.CG.list ?_
    refine E.GL.run rfl rfl rfl (E.Runs.build rfl E.epn build34z) ?_
    refine E.GL.run rfl rfl rfl (E.Runs.move rfl rfl) ?_
    refine E.GL.store_whole rfl rfl rfl rfl rfl b6 rfl info34s (two_one _ _) fun wS3_2 c6 lS3_2 => ?_
    replace b3 := blk_grown b3 lS3_2 (E.nes (by first | assumption | exact Ne.symm (by assumption)))
    replace L := E.below_own L h6_L lS3_2
    replace b6 := c6
    clear c6
    refine E.GL.run rfl rfl rfl (E.Runs.assign rfl rfl) ?_
    refine E.GL.done ?_
    refine E.QG.code ?_
    refine E.CG.ret ?_
    refine E.QG.pass_ret ?_
    exact E.QG.result_ct rfl rfl b6 hu34 rfl info34c rfl ⟨by rw [loV_no hE, hiV_no hE] <;> rfl, L⟩
  · have hne0 : (!decide (errT V till sh = 0)) = false := by rw [hE]; rfl
    have hpos : 0 < L0.length := List.length_pos_iff.mpr hne
    have hT := errT_in hE
    obtain ⟨i, hti⟩ : ∃ i : Nat, till = i := ⟨till.toNat, by omega⟩
    obtain ⟨s, hts⟩ : ∃ s : Nat, sh = (s : Int) := ⟨(sh).toNat, by omega⟩
    have hi : i < V.cs.length := by omega
    have hs_ : s < V.ps.length := by omega
    have htn : till.toNat = i := by omega
    obtain ⟨o0, ho0⟩ := get_ex hpos
    have hm0 := List.mem_of_getElem? ho0
    obtain ⟨t', b, hL1, hteq, htb, htr, hway, htl⟩ := lk_row hok hLk hm0 hi
    have hC := (Kd.R_reads' r18).2.2
    obtain ⟨ad1, a1, k1, eL, XL, hC1⟩ := rowK_at hC ho0
    obtain ⟨ad2, a2, k2, eR, XR, hC2⟩ := rowK_at hC1 htr
    have hp3 := hok.n3
    have hlq := hlen
    rw [big441] at hlq
    have K := Below.refl w18.heap.size w18
    obtain ⟨ad3, eX, XX⟩ := int_at hC2 (tb_at (b := b) hs_ hp3)
    refine E.GL.run rfl rfl rfl (E.Runs.neq rfl rfl rfl hne0) ?_
    refine E.GL.done ?_
    refine E.QG.code ?_
    refine E.CG.cond_f rfl ?_
    refine E.CG.skip ?_
    refine E.QG.code ?_
    refine E.CG.seq ?_
    refine E.CG.cut1 (fun (g11 : Nat) => [(1, .int .i64 till), (2, .int .i64 sh), (6, .pointer (some ⟨g6, 0, none⟩)), (8, .slice A18 L0.length c18), (11, .pointer (some ⟨g11, 0, none⟩))]) (fun g11 w' => w'.heap[g6]? = some (.cells #[.int .i64 0, .int .i64 0] 34 (0, 0)) ∧ w'.heap[g11]? = some (.cells #[.int .i64 (fRe i s o0), .int .i64 (fRe i s o0)] 34 (0, 0)) ∧ g6 ≠ g11 ∧ w18.heap.size ≤ g11 ∧ Below w18.heap.size w18 w') ?_ ?_
    · refine E.CG.heldH (none) (by kernel_rfl) fun v4 lD hh => ?_
      replace b3 := blk_below b3 lD
      replace b6 := blk_below b6 lD
      replace L := below_step L lD
      replace K := below_step K lD
      clear lD
      have s_b3 := b3
      have s_b6 := b6
      have s_L := L
      have s_K := K
      refine E.GH.take (i := 0) rfl (by kernel_rfl) (by kernel_rfl) (by kernel_rfl) E.calm_cut1 rfl rfl rfl (fun w' hS => (E.Runs.move rfl rfl)) ?_
      refine E.GH.take (i := 1) rfl (by kernel_rfl) (by kernel_rfl) (by kernel_rfl) E.calm_cut1 rfl rfl rfl (fun w' hS => (E.Runs.indexAddrA (i := 0) rfl rfl rfl hu77 z42 o42 (by omega) eL rfl)) ?_
      refine E.GH.take (i := 2) rfl (by kernel_rfl) (by kernel_rfl) (by kernel_rfl) E.calm_cut1 rfl rfl rfl (fun w' hS => (E.Runs.load1 rfl rfl hu42 rfl (pw_cell_below (below_step s_K (E.belowG hS)) XL))) ?_
      refine E.GH.take (i := 3) rfl (by kernel_rfl) (by kernel_rfl) (by kernel_rfl) E.calm_cut1 rfl rfl rfl (fun w' hS => (E.Runs.move rfl rfl)) ?_
      refine E.GH.take (i := 4) rfl (by kernel_rfl) (by kernel_rfl) (by kernel_rfl) E.calm_cut1 rfl rfl rfl (fun w' hS => (E.Runs.indexAddrA (i := i) rfl rfl (congrArg (fun t => some (Value.int .i64 t)) hti) hu42 z22 o22 (by omega) eR rfl)) ?_
      refine E.GH.take (i := 5) rfl (by kernel_rfl) (by kernel_rfl) (by kernel_rfl) E.calm_cut1 rfl rfl rfl (fun w' hS => (E.Runs.load1 rfl rfl hu22 rfl (pw_cell_below (below_step s_K (E.belowG hS)) XR))) ?_
      refine E.GH.take (i := 6) rfl (by kernel_rfl) (by kernel_rfl) (by kernel_rfl) E.calm_cut1 rfl rfl rfl (fun w' hS => (E.Runs.move rfl rfl)) ?_
      refine E.GH.take (i := 7) rfl (by kernel_rfl) (by kernel_rfl) (by kernel_rfl) E.calm_cut1 rfl rfl rfl (fun w' hS => (E.Runs.indexAddrA (i := s) rfl rfl (congrArg (fun t => some (Value.int .i64 t)) hts) hu22 z3 o3 (by rw [tb_len hp3]; omega) eX rfl)) ?_
      refine E.GH.take (i := 8) rfl (by kernel_rfl) (by kernel_rfl) (by kernel_rfl) E.calm_cut1 rfl rfl rfl (fun w' hS => (E.Runs.load rfl rfl hu3 (pw_cell_below (below_step s_K (E.belowG hS)) XX))) ?_
      refine E.GH.take (i := 9) rfl (by kernel_rfl) (by kernel_rfl) (by kernel_rfl) E.calm_cut1 rfl rfl rfl (fun w' hS => (E.Runs.move rfl rfl)) ?_
      refine E.GH.take (i := 10) rfl (by kernel_rfl) (by kernel_rfl) (by kernel_rfl) E.calm_cut1 rfl rfl rfl (fun w' hS => (E.Runs.indexAddrA (i := 0) rfl rfl rfl hu77 z42 o42 (by omega) eL rfl)) ?_
      refine E.GH.take (i := 11) rfl (by kernel_rfl) (by kernel_rfl) (by kernel_rfl) E.calm_cut1 rfl rfl rfl (fun w' hS => (E.Runs.load1 rfl rfl hu42 rfl (pw_cell_below (below_step s_K (E.belowG hS)) XL))) ?_
      refine E.GH.take (i := 12) rfl (by kernel_rfl) (by kernel_rfl) (by kernel_rfl) E.calm_cut1 rfl rfl rfl (fun w' hS => (E.Runs.move rfl rfl)) ?_
      refine E.GH.take (i := 13) rfl (by kernel_rfl) (by kernel_rfl) (by kernel_rfl) E.calm_cut1 rfl rfl rfl (fun w' hS => (E.Runs.indexAddrA (i := i) rfl rfl (congrArg (fun t => some (Value.int .i64 t)) hti) hu42 z22 o22 (by omega) eR rfl)) ?_
      refine E.GH.take (i := 14) rfl (by kernel_rfl) (by kernel_rfl) (by kernel_rfl) E.calm_cut1 rfl rfl rfl (fun w' hS => (E.Runs.load1 rfl rfl hu22 rfl (pw_cell_below (below_step s_K (E.belowG hS)) XR))) ?_
      refine E.GH.take (i := 15) rfl (by kernel_rfl) (by kernel_rfl) (by kernel_rfl) E.calm_cut1 rfl rfl rfl (fun w' hS => (E.Runs.move rfl rfl)) ?_
      refine E.GH.take (i := 16) rfl (by kernel_rfl) (by kernel_rfl) (by kernel_rfl) E.calm_cut1 rfl rfl rfl (fun w' hS => (E.Runs.indexAddrA (i := s) rfl rfl (congrArg (fun t => some (Value.int .i64 t)) hts) hu22 z3 o3 (by rw [tb_len hp3]; omega) eX rfl)) ?_
      refine E.GH.take (i := 17) rfl (by kernel_rfl) (by kernel_rfl) (by kernel_rfl) E.calm_cut1 rfl rfl rfl (fun w' hS => (E.Runs.load rfl rfl hu3 (pw_cell_below (below_step s_K (E.belowG hS)) XX))) ?_
      refine E.GH.take (i := 18) rfl (by kernel_rfl) (by kernel_rfl) (by kernel_rfl) E.calm_cut1 rfl rfl rfl (fun w' hS => (E.Runs.build rfl (E.epc rfl (E.epc rfl E.epn)) (build34 _ _))) ?_
      refine E.GH.one (i := 19) (by kernel_rfl) rfl ?_
      refine E.GO.st rfl rfl rfl (E.ST.alloc rfl info34z fun g11 w11 e11 b11 l11 => ⟨hh.trans (E.gbB l11), ?_⟩)
      have hh0 := hh
      replace hh := hh.trans (E.gbB l11)
      have h11_hh : v4.heap.size ≤ g11 := by rw [e11]; exact hh0.size
      have h11_L : w.heap.size ≤ g11 := by rw [e11]; exact L.size
      have h11_K : w18.heap.size ≤ g11 := by rw [e11]; exact K.size
      have n11_b3 : g3 ≠ g11 := by have := blk_lt b3; omega
      have n11_b6 : g6 ≠ g11 := by have := blk_lt b6; omega
      clear hh0
      replace b3 := blk_below b3 l11
      replace b6 := blk_below b6 l11
      replace L := below_step L l11
      replace K := below_step K l11
      refine E.GH.one (i := 20) (by kernel_rfl) rfl ?_
      refine E.GO.sn rfl rfl (E.ST.storeS (off := 0) (cells := [.int .i64 (b.get s), .int .i64 (b.get s)]) rfl rfl rfl b11 rfl info34s (two_one _ _) rfl fun wS4_20 c11 lS4_20 => ⟨E.gb_own hh h11_hh lS4_20, ?_⟩)
      replace hh := E.gb_own hh h11_hh lS4_20
      replace b3 := blk_grown b3 lS4_20 (E.nes (by first | assumption | exact Ne.symm (by assumption)))
      replace b6 := blk_grown b6 lS4_20 (E.nes (by first | assumption | exact Ne.symm (by assumption)))
      replace L := E.below_own L h11_L lS4_20
      replace K := E.below_own K h11_K lS4_20
      replace b11 := c11
      clear c11
      refine E.GH.done (by kernel_rfl) ?_
      exact E.QG.meet1 _ (E.subc rfl (E.subc rfl (E.subc rfl (E.subc rfl (E.subc rfl (E.subn)))))) ⟨b6, by rw [fRe_at htr (tb_at hs_ hp3)]; exact b11, n11_b6, h11_K, K⟩
    clear b3
    intro g11 w4 ⟨b6, b11, n11_b6, h11_K, K⟩
    refine E.QG.code ?_
    refine E.CG.seq ?_
    refine E.CG.seq ?_
    refine E.CG.list ?_
    refine E.GL.run rfl rfl rfl (E.Runs.assign rfl rfl) ?_
    refine E.GL.done ?_
    refine E.QG.code ?_
    refine E.CG.block ?_
    have s6_b6 := b6
    have s6_b11 := b11
    have s6_K := K
    refine E.CG.loop (fun (k : Nat) => [(1, .int .i64 till), (2, .int .i64 sh), (6, .pointer (some ⟨g6, 0, none⟩)), (8, .slice A18 L0.length c18), (11, .pointer (some ⟨g11, 0, none⟩)), (12, .int .i64 (k : Int))]) (fun k w' => k ≤ L0.length ∧ w'.heap[g6]? = some (.cells #[.int .i64 0, .int .i64 0] 34 (0, 0)) ∧ w'.heap[g11]? = some (.cells #[.int .i64 (mnG (fRe i s) (fRe i s o0) (L0.take k)), .int .i64 (mxG (fRe i s) (fRe i s o0) (L0.take k))] 34 (0, 0)) ∧ Below w18.heap.size w18 w') (fun k => L0.length - k) 0 (E.subc rfl (E.subc rfl (E.subc rfl (E.subc rfl (E.subc rfl (E.subc rfl E.subn)))))) ⟨Nat.zero_le _, b6, b11, K⟩ ?_
    rintro k w6 ⟨hk, b6, b11, K⟩
    refine E.CG.seq ?_
    refine E.CG.seq ?_
    refine E.CG.list ?_
    refine E.GL.run rfl rfl rfl (E.Runs.move rfl rfl) ?_
    refine E.GL.run rfl rfl rfl (E.Runs.move rfl rfl) ?_
    refine E.GL.run rfl rfl rfl (E.Runs.len rfl rfl hu77) ?_
    refine E.GL.cmp rfl rfl rfl (fun _ h => (E.Runs.lss rfl rfl rfl h)) (fun h48 => ?_) (fun h48 => ?_)
    · obtain ⟨o, ho⟩ := get_ex (show k < L0.length by omega)
      obtain ⟨t1, b1, hK1, hkeq, hkb, hkr, hkway, hkl⟩ := lk_row hok hLk (List.mem_of_getElem? ho) hi
      obtain ⟨ae1, c1, d1, fL, YL, hD1⟩ := rowK_at hC ho
      obtain ⟨ae2, c2, d2, fR, YR, hD2⟩ := rowK_at hD1 hkr
      obtain ⟨ae3, fX, YX⟩ := int_at hD2 (tb_at (b := b1) hs_ hp3)
      have hval : b1.get s = fRe i s o := (fRe_at hkr (tb_at hs_ hp3)).symm
      refine E.GL.done ?_
      refine E.QG.code ?_
      refine E.CG.cond_t rfl ?_
      refine E.CG.skip ?_
      refine E.QG.code ?_
      refine E.CG.seq ?_
      refine E.CG.block ?_
      refine E.CG.seq ?_
      refine E.CG.list ?_
      refine E.GL.run rfl rfl rfl (E.Runs.move rfl rfl) ?_
      refine E.GL.run rfl rfl rfl (E.Runs.move rfl rfl) ?_
      refine E.GL.run rfl rfl rfl (E.Runs.indexAddrA (i := k) rfl rfl rfl hu77 z42 o42 (by omega) fL rfl) ?_
      refine E.GL.run rfl rfl rfl (E.Runs.load1 rfl rfl hu42 rfl (pw_cell_below K YL)) ?_
      refine E.GL.run rfl rfl rfl (E.Runs.move rfl rfl) ?_
      refine E.GL.run rfl rfl rfl (E.Runs.indexAddrA (i := i) rfl rfl (congrArg (fun t => some (Value.int .i64 t)) hti) hu42 z22 o22 (by omega) fR rfl) ?_
      refine E.GL.run rfl rfl rfl (E.Runs.load1 rfl rfl hu22 rfl (pw_cell_below K YR)) ?_
      refine E.GL.run rfl rfl rfl (E.Runs.move rfl rfl) ?_
      refine E.GL.run rfl rfl rfl (E.Runs.indexAddrA (i := s) rfl rfl (congrArg (fun t => some (Value.int .i64 t)) hts) hu22 z3 o3 (by rw [tb_len hp3]; omega) fX rfl) ?_
      refine E.GL.run rfl rfl rfl (E.Runs.load rfl rfl hu3 (pw_cell_below K YX)) ?_
      refine E.GL.run rfl rfl rfl (E.Runs.assign rfl rfl) ?_
      refine E.GL.done ?_
      refine E.QG.code ?_
      refine E.CG.list ?_
      refine E.GL.run rfl rfl rfl (E.Runs.fieldAddr rfl rfl hu34 rfl (by assumption) rfl) ?_
      refine E.GL.run rfl rfl rfl (E.Runs.load rfl rfl hu3 (by first | assumption | exact E.blkc (by assumption) rfl | exact pw_cell_below K (by assumption))) ?_
      refine E.GL.run rfl rfl rfl (E.Runs.move rfl rfl) ?_
      refine E.GL.run rfl rfl rfl (E.Runs.min rfl rfl rfl rfl) ?_
      refine E.GL.run rfl rfl rfl (E.Runs.fieldAddr rfl rfl hu34 rfl (by assumption) rfl) ?_
      refine E.GL.run rfl rfl rfl (E.Runs.load rfl rfl hu3 (by first | assumption | exact E.blkc (by assumption) rfl | exact pw_cell_below K (by assumption))) ?_
      refine E.GL.run rfl rfl rfl (E.Runs.move rfl rfl) ?_
      refine E.GL.run rfl rfl rfl (E.Runs.max rfl rfl rfl rfl) ?_
      refine E.GL.run rfl rfl rfl (E.Runs.build rfl (E.epc rfl (E.epc rfl E.epn)) (build34 _ _)) ?_
      refine E.GL.store_whole rfl rfl rfl rfl rfl b11 rfl info34s (two_one _ _) fun wS9_9 c11 lS9_9 => ?_
      replace b6 := blk_grown b6 lS9_9 (E.nes (by first | assumption | exact Ne.symm (by assumption)))
      replace K := E.below_own K h11_K lS9_9
      replace b11 := c11
      clear c11
      refine E.GL.done ?_
      refine E.QG.block_normal ?_
      refine E.QG.code ?_
      refine E.CG.list ?_
      refine E.GL.run rfl rfl rfl (E.Runs.move rfl rfl) ?_
      refine E.GL.run rfl rfl rfl (E.Runs.add rfl rfl rfl (IntWalk.i64_in _ (by omega))) ?_
      refine E.GL.run rfl rfl rfl (E.Runs.assign rfl rfl) ?_
      refine E.GL.done ?_
      exact E.QG.round (k + 1) (E.subc rfl (E.subc rfl (E.subc rfl (E.subc rfl (E.subc rfl (E.subc rfl E.subn)))))) ⟨by omega, b6, by rw [mnG_step ho, mxG_step ho, ← hval]; exact b11, K⟩ (by omega)
    · obtain rfl : k = L0.length := by omega
      refine E.GL.done ?_
      refine E.QG.code ?_
      refine E.CG.cond_f rfl ?_
      refine E.CG.exit ?_
      refine E.QG.pass_exit ?_
      refine E.QG.pass_exit ?_
      refine E.QG.block_here ?_
      refine E.QG.code ?_
      refine E.CG.seq ?_
      refine E.CG.list ?_
      refine E.GL.run rfl rfl rfl (E.Runs.loads (cs := [.int .i64 (mnG (fRe i s) (fRe i s o0) (L0.take L0.length)), .int .i64 (mxG (fRe i s) (fRe i s o0) (L0.take L0.length))]) rfl rfl hu34 rfl info34s (blk_cells b11)) ?_
      refine E.GL.store_whole rfl rfl rfl rfl rfl b6 rfl info34s (two_one _ _) fun wS10_1 c6 lS10_1 => ?_
      replace b11 := blk_grown b11 lS10_1 (E.nes (by first | assumption | exact Ne.symm (by assumption)))
      replace b6 := c6
      clear c6
      refine E.GL.run rfl rfl rfl (E.Runs.assign rfl rfl) ?_
      refine E.GL.done ?_
      refine E.QG.code ?_
      refine E.CG.ret ?_
      have hsp := span_r (q := fun b => b.get sh.toNat) hok hLk (show till.toNat < V.cs.length by omega) hE (f := fRe i s) (fun t b _ k1 _ => by rw [htn] at k1; rw [fRe_q hs_ hp3 k1, show sh.toNat = s by omega]) hm0
      exact E.QG.result_ct rfl rfl b6 hu34 rfl info34c rfl ⟨by rw [List.take_length, hsp.1, hsp.2, hE], E.below_own (below_step L K) h6_L lS10_1⟩

set_option maxRecDepth 100000 in
set_option maxHeartbeats 8000000 in

theorem missing_r (V : Ev) (m : Ea) (till : Int) (w : World) (hV : EvM w V m) (hs : Sz V) (hmb : V.qs.length ≤ m.b) :
    Calls Try.prog 41 #[hv V m, .int .i64 till] w fun e w' => e = .returned (.tuple #[.agg #[.int .i64 (loV V till 0 (lackQ V till)), .int .i64 (hiV V till 0 (lackQ V till))], .int .i64 (errT V till 0)]) ∧ Below w.heap.size w w' := by
  have hu3 := Try.underlying3
  have hu22 := Try.underlying22
  have hu23 := Try.underlying23
  have hu25 := Try.underlying25
  have hu28 := Try.underlying28
  have hu34 := Try.underlying34
  have hu40 := Try.underlying40
  have hu42 := Try.underlying42
  have hu77 := Try.underlying77
  obtain ⟨z3, o3⟩ := info_some info3s (by decide)
  obtain ⟨z22, o22⟩ := info_some info22s (by decide)
  obtain ⟨z23, o23⟩ := info_some info23s (by decide)
  obtain ⟨z40, o40⟩ := info_some info40s (by decide)
  obtain ⟨z42, o42⟩ := info_some info42s (by decide)
  refine E.enter (N := 76) Try.func41 rfl Try.ntmps41 (args := [hv V m, .int .i64 till]) (by simp) ?_
  have L := Below.refl w.heap.size w
  refine E.CG.seq ?_
  refine E.CG.list ?_
  refine E.GL.st rfl rfl rfl (E.ST.box rfl rfl fun g2 w2 e2 b2 l2 => ?_)
  have h2_L : w.heap.size ≤ g2 := by rw [e2]; exact L.size
  replace L := below_step L l2
  refine E.GL.st rfl rfl rfl (E.ST.alloc rfl info34z fun g4 w4 e4 b4 l4 => ?_)
  have h4_L : w.heap.size ≤ g4 := by rw [e4]; exact L.size
  have n4_b2 : g2 ≠ g4 := by have := blk_lt b2; omega
  replace b2 := blk_below b2 l4
  replace L := below_step L l4
  refine E.GL.run rfl rfl rfl (E.Runs.assign rfl rfl) ?_
  refine E.GL.done ?_
  refine E.QG.code ?_
  refine E.CG.seq ?_
  refine E.CG.list ?_
  refine E.GL.run rfl rfl rfl (E.Runs.loads (cs := [.slice m.A V.ps.length m.a, .slice m.B V.qs.length m.b, .slice m.C V.ts.length m.c, .slice m.D V.cs.length m.d]) rfl rfl hu25 rfl info25s (blk_cells b2)) ?_
  refine E.GL.run rfl rfl rfl (E.Runs.move rfl rfl) ?_
  refine E.GL.st rfl rfl rfl (E.ST.call rfl ent60 (E.evc rfl (E.evc rfl (E.evc rfl E.evn))) ((known_r V m till 0 _ (hV.below L) hs hmb).mono ?_))
  rintro e w16 ⟨v16, L0, n, rfl, r16, hL, l16⟩
  refine ⟨_, rfl, ?_⟩
  replace b2 := blk_below b2 l16
  replace b4 := blk_below b4 l16
  replace L := below_step L l16
  obtain ⟨A18, c18, hv18⟩ := Kd.R_slice r16
  subst hv18
  refine E.GL.run rfl rfl rfl (E.Runs.move rfl rfl) ?_
  refine E.GL.run rfl rfl rfl (E.Runs.extract rfl rfl rfl) ?_
  refine E.GL.run rfl rfl rfl (E.Runs.extract rfl rfl rfl) ?_
  refine E.GL.run rfl rfl rfl (E.Runs.extract rfl rfl rfl) ?_
  refine E.GL.run rfl rfl rfl (E.Runs.assign rfl rfl) ?_
  refine E.GL.run rfl rfl rfl (E.Runs.assign rfl rfl) ?_
  refine E.GL.run rfl rfl rfl (E.Runs.assign rfl rfl) ?_
  refine E.GL.done ?_
  refine E.QG.code ?_
  refine E.CG.seq ?_
  refine E.CG.seq ?_
  refine E.CG.list ?_
  refine E.GL.run rfl rfl rfl (E.Runs.move rfl rfl) ?_
  rcases hL with ⟨hE, hnil, hn0⟩ | ⟨hE, hok, ⟨t0, ht0⟩, hne, hn, hLk, hlen⟩
  · have hne0 : (!decide (errT V till (0 : Int) = 0)) = true := by rw [decide_eq_false hE]; rfl
    refine E.GL.run rfl rfl rfl (E.Runs.neq rfl rfl rfl hne0) ?_
    refine E.GL.done ?_
    refine E.QG.code ?_
    refine E.CG.cond_t rfl ?_
    refine E.CG.seq ?_
    refine E.CG.list ?_
    refine E.GL.run rfl rfl rfl (E.Runs.build rfl E.epn build34z) ?_
    refine E.GL.run rfl rfl rfl (E.Runs.move rfl rfl) ?_
    refine E.GL.store_whole rfl rfl rfl rfl rfl b4 rfl info34s (two_one _ _) fun wS3_2 c4 lS3_2 => ?_
    replace b2 := blk_grown b2 lS3_2 (E.nes (by first | assumption | exact Ne.symm (by assumption)))
    replace L := E.below_own L h4_L lS3_2
    replace b4 := c4
    clear c4
    refine E.GL.run rfl rfl rfl (E.Runs.assign rfl rfl) ?_
    refine E.GL.done ?_
    refine E.QG.code ?_
    refine E.CG.ret ?_
    refine E.QG.pass_ret ?_
    exact E.QG.result_ct rfl rfl b4 hu34 rfl info34c rfl ⟨by rw [loV_no hE, hiV_no hE] <;> rfl, L⟩
  · have hne0 : (!decide (errT V till (0 : Int) = 0)) = false := by rw [hE]; rfl
    have hpos : 0 < L0.length := List.length_pos_iff.mpr hne
    have hT := errT_in hE
    obtain ⟨i, hti⟩ : ∃ i : Nat, till = i := ⟨till.toNat, by omega⟩
    obtain ⟨s, hts⟩ : ∃ s : Nat, (0 : Int) = (s : Int) := ⟨((0 : Int)).toNat, by omega⟩
    have hi : i < V.cs.length := by omega
    have hs_ : s < V.ps.length := by omega
    have htn : till.toNat = i := by omega
    obtain ⟨o0, ho0⟩ := get_ex hpos
    have hm0 := List.mem_of_getElem? ho0
    obtain ⟨t', b, hL1, hteq, htb, htr, hway, htl⟩ := lk_row hok hLk hm0 hi
    have hC := (Kd.R_reads' r16).2.2
    obtain ⟨ad1, a1, k1, eL, XL, hC1⟩ := rowK_at hC ho0
    obtain ⟨ad2, a2, k2, eR, XR, hC2⟩ := rowK_at hC1 htr
    have hp3 := hok.n3
    have hlq := hlen
    rw [big441] at hlq
    have K := Below.refl w16.heap.size w16
    obtain ⟨c0, hc0⟩ := get_ex hi
    have hct := ct_of hc0
    obtain ⟨ad, aS, kS, eA, _, hx0, XT⟩ := till_at hV.cs hc0
    have hcok := hok.c c0 (List.mem_of_getElem? hc0)
    have hsc := hok.sz.c
    have hf4 := hcok.2.2.2.2.1
    have hf5 := hcok.2.2.2.2.2.1
    have hrow : OkRow V i (tb V.ps.length b) := (okRow_iff hok hi).mpr ⟨b, hway, rfl⟩
    have hwv := worth_small (way_small hway (rl_20 hok hi)) hok.p
    have hdue : due V c0 (bl (tb V.ps.length b)) = c0.f4 + b.worth V.ps := by rw [tb_bl hok.n1 hok.n3 hway]; rfl
    have hfm : fMi V i o0 = due V c0 (bl (tb V.ps.length b)) - c0.f5 := by rw [hteq, fMi_q hok htb hway, tb_bl hok.n1 hok.n3 hway, hct]
    have KL : Below w.heap.size w w16 := L
    refine E.GL.run rfl rfl rfl (E.Runs.neq rfl rfl rfl hne0) ?_
    refine E.GL.done ?_
    refine E.QG.code ?_
    refine E.CG.cond_f rfl ?_
    refine E.CG.skip ?_
    refine E.QG.code ?_
    refine E.CG.seq ?_
    refine E.CG.heldH (none) (by kernel_rfl) fun v4 lD hh => ?_
    replace b2 := blk_below b2 lD
    replace b4 := blk_below b4 lD
    replace L := below_step L lD
    replace K := below_step K lD
    clear lD
    have s_b2 := b2
    have s_b4 := b4
    have s_L := L
    have s_K := K
    refine E.GH.take (i := 0) rfl (by kernel_rfl) (by kernel_rfl) (by kernel_rfl) (by intro c a d v w h; first | (cases d <;> exact h) | exact nomatch (show _ ∧ _ from h).1) rfl rfl rfl (fun w' hS => (E.Runs.loads (cs := [.slice m.A V.ps.length m.a, .slice m.B V.qs.length m.b, .slice m.C V.ts.length m.c, .slice m.D V.cs.length m.d]) rfl rfl hu25 rfl info25s (blk_cells (blk_grown s_b2 hS E.nen)))) ?_
    refine E.GH.take (i := 1) rfl (by kernel_rfl) (by kernel_rfl) (by kernel_rfl) (by intro c a d v w h; first | (cases d <;> exact h) | exact nomatch (show _ ∧ _ from h).1) rfl rfl rfl (fun w' hS => (E.Runs.move rfl rfl)) ?_
    refine E.GH.take (i := 2) rfl (by kernel_rfl) (by kernel_rfl) (by kernel_rfl) (by intro c a d v w h; first | (cases d <;> exact h) | exact nomatch (show _ ∧ _ from h).1) rfl rfl rfl (fun w' hS => (E.Runs.move rfl rfl)) ?_
    refine E.GH.take (i := 3) rfl (by kernel_rfl) (by kernel_rfl) (by kernel_rfl) (by intro c a d v w h; first | (cases d <;> exact h) | exact nomatch (show _ ∧ _ from h).1) rfl rfl rfl (fun w' hS => (E.Runs.indexAddrA (i := 0) rfl rfl rfl hu77 z42 o42 (by omega) eL rfl)) ?_
    refine E.GH.take (i := 4) rfl (by kernel_rfl) (by kernel_rfl) (by kernel_rfl) (by intro c a d v w h; first | (cases d <;> exact h) | exact nomatch (show _ ∧ _ from h).1) rfl rfl rfl (fun w' hS => (E.Runs.load1 rfl rfl hu42 rfl (pw_cell_below (below_step s_K (E.belowG hS)) XL))) ?_
    refine E.GH.take (i := 5) rfl (by kernel_rfl) (by kernel_rfl) (by kernel_rfl) (by intro c a d v w h; first | (cases d <;> exact h) | exact nomatch (show _ ∧ _ from h).1) rfl rfl rfl (fun w' hS => (E.Runs.move rfl rfl)) ?_
    refine E.GH.take (i := 6) rfl (by kernel_rfl) (by kernel_rfl) (by kernel_rfl) (by intro c a d v w h; first | (cases d <;> exact h) | exact nomatch (show _ ∧ _ from h).1) rfl rfl rfl (fun w' hS => (E.Runs.indexAddrA (i := i) rfl rfl (congrArg (fun t => some (Value.int .i64 t)) hti) hu42 z22 o22 (by omega) eR rfl)) ?_
    refine E.GH.take (i := 7) rfl (by kernel_rfl) (by kernel_rfl) (by kernel_rfl) (by intro c a d v w h; first | (cases d <;> exact h) | exact nomatch (show _ ∧ _ from h).1) rfl rfl rfl (fun w' hS => (E.Runs.load1 rfl rfl hu22 rfl (pw_cell_below (below_step s_K (E.belowG hS)) XR))) ?_
    refine E.GH.take (i := 9) rfl (by kernel_rfl) (by kernel_rfl) (by kernel_rfl) (by intro c a d v w h; first | (cases d <;> exact h) | exact nomatch (show _ ∧ _ from h).1) rfl rfl rfl (fun w' hS => (E.Runs.fieldAddr rfl rfl hu25 rfl (by assumption) rfl)) ?_
    refine E.GH.take (i := 10) rfl (by kernel_rfl) (by kernel_rfl) (by kernel_rfl) (by intro c a d v w h; first | (cases d <;> exact h) | exact nomatch (show _ ∧ _ from h).1) rfl rfl rfl (fun w' hS => (E.Runs.load1 rfl rfl hu23 rfl (by first | exact E.keeps hS (E.blkc (by assumption) rfl) (by first | exact E.nen | exact E.nes (by assumption) | exact E.nes (Ne.symm (by assumption))) | exact pw_cell_below (below_step s_L (E.belowG hS)) (by assumption) | exact pw_cell_below (below_step s_K (E.belowG hS)) (by assumption)))) ?_
    refine E.GH.take (i := 11) rfl (by kernel_rfl) (by kernel_rfl) (by kernel_rfl) (by intro c a d v w h; first | (cases d <;> exact h) | exact nomatch (show _ ∧ _ from h).1) rfl rfl rfl (fun w' hS => (E.Runs.move rfl rfl)) ?_
    refine E.GH.take (i := 12) rfl (by kernel_rfl) (by kernel_rfl) (by kernel_rfl) (by intro c a d v w h; first | (cases d <;> exact h) | exact nomatch (show _ ∧ _ from h).1) rfl rfl rfl (fun w' hS => (E.Runs.indexAddrA (i := i) rfl rfl (congrArg (fun t => some (Value.int .i64 t)) hti) hu23 z40 o40 (by omega) eA rfl)) ?_
    refine E.GH.take (i := 13) rfl (by kernel_rfl) (by kernel_rfl) (by kernel_rfl) (by intro c a d v w h; first | (cases d <;> exact h) | exact nomatch (show _ ∧ _ from h).1) rfl rfl rfl (fun w' hS => (E.Runs.fieldAddr rfl rfl hu40 rfl (by assumption) rfl)) ?_
    refine E.GH.take (i := 14) rfl (by kernel_rfl) (by kernel_rfl) (by kernel_rfl) (by intro c a d v w h; first | (cases d <;> exact h) | exact nomatch (show _ ∧ _ from h).1) rfl rfl rfl (fun w' hS => (E.Runs.load rfl rfl hu3 (show _ = some (Value.int .i64 c0.f5) from pw_cell_below (below_step KL (below_step s_K (E.belowG hS))) (XT 5 _ rfl)))) ?_
    refine E.GH.one (i := 8) (by kernel_rfl) rfl ?_
    refine E.GO.st rfl rfl rfl (E.ST.call rfl ent32 (E.evc rfl (E.evc (show _ = some (Value.int .i64 (i : Int)) from (congrArg (fun t => some (Value.int .i64 t)) hti)) (E.evc rfl E.evn))) ((due_r V m _ (hV.below (below_step KL K)) hok i c0 hc0 (tb V.ps.length b) a2 k2 (Kd.C_below hC2 K) hrow.1 hrow.2.1).mono ?_))
    rintro e w32 ⟨rfl, l32⟩
    refine ⟨_, rfl, hh.trans (E.gbB l32), ?_⟩
    replace hh := hh.trans (E.gbB l32)
    replace b2 := blk_below b2 l32
    replace b4 := blk_below b4 l32
    replace L := below_step L l32
    replace K := below_step K l32
    refine E.GH.take (i := 15) rfl (by kernel_rfl) (by kernel_rfl) (by kernel_rfl) (by intro c a d v w h; first | (cases d <;> exact h) | exact nomatch (show _ ∧ _ from h).1) rfl rfl rfl (fun w' hS => (E.Runs.sub rfl rfl rfl (IntWalk.i64_in _ (by rw [hdue]; omega)))) ?_
    refine E.GH.take (i := 16) rfl (by kernel_rfl) (by kernel_rfl) (by kernel_rfl) (by intro c a d v w h; first | (cases d <;> exact h) | exact nomatch (show _ ∧ _ from h).1) rfl rfl rfl (fun w' hS => (E.Runs.assign rfl rfl)) ?_
    refine E.GH.done (by kernel_rfl) ?_
    refine E.QG.code ?_
    refine E.CG.seq ?_
    refine E.CG.list ?_
    refine E.GL.run rfl rfl rfl (E.Runs.move rfl rfl) ?_
    refine E.GL.run rfl rfl rfl (E.Runs.move rfl rfl) ?_
    refine E.GL.run rfl rfl rfl (E.Runs.build rfl (E.epc rfl (E.epc rfl E.epn)) (build34 _ _)) ?_
    refine E.GL.st rfl rfl rfl (E.ST.alloc rfl info34z fun g10 w10 e10 b10 l10 => ?_)
    have h10_L : w.heap.size ≤ g10 := by rw [e10]; exact L.size
    have h10_K : w16.heap.size ≤ g10 := by rw [e10]; exact K.size
    have n10_b2 : g2 ≠ g10 := by have := blk_lt b2; omega
    have n10_b4 : g4 ≠ g10 := by have := blk_lt b4; omega
    replace b2 := blk_below b2 l10
    replace b4 := blk_below b4 l10
    replace L := below_step L l10
    replace K := below_step K l10
    refine E.GL.store_whole rfl rfl rfl rfl rfl b10 rfl info34s (two_one _ _) fun wS5_4 c10 lS5_4 => ?_
    replace b2 := blk_grown b2 lS5_4 (E.nes (by first | assumption | exact Ne.symm (by assumption)))
    replace b4 := blk_grown b4 lS5_4 (E.nes (by first | assumption | exact Ne.symm (by assumption)))
    replace L := E.below_own L h10_L lS5_4
    replace K := E.below_own K h10_K lS5_4
    replace b10 := c10
    clear c10
    refine E.GL.done ?_
    refine E.QG.code ?_
    refine E.CG.seq ?_
    refine E.CG.seq ?_
    refine E.CG.list ?_
    refine E.GL.run rfl rfl rfl (E.Runs.assign rfl rfl) ?_
    refine E.GL.done ?_
    refine E.QG.code ?_
    refine E.CG.block ?_
    have s7_b2 := b2
    have s7_b4 := b4
    have s7_b10 := b10
    have s7_L := L
    have s7_K := K
    refine E.CG.loop (fun (k : Nat) => [(1, .int .i64 till), (2, .pointer (some ⟨g2, 0, none⟩)), (4, .pointer (some ⟨g4, 0, none⟩)), (6, .slice A18 L0.length c18), (10, .pointer (some ⟨g10, 0, none⟩)), (11, .int .i64 (k : Int))]) (fun k w' => k ≤ L0.length ∧ w'.heap[g2]? = some (.cells #[.slice m.A V.ps.length m.a, .slice m.B V.qs.length m.b, .slice m.C V.ts.length m.c, .slice m.D V.cs.length m.d] 25 (0, 0)) ∧ w'.heap[g4]? = some (.cells #[.int .i64 0, .int .i64 0] 34 (0, 0)) ∧ w'.heap[g10]? = some (.cells #[.int .i64 (mnG (fMi V i) (fMi V i o0) (L0.take k)), .int .i64 (mxG (fMi V i) (fMi V i o0) (L0.take k))] 34 (0, 0)) ∧ Below w16.heap.size w16 w') (fun k => L0.length - k) 0 (E.subc rfl (E.subc rfl (E.subc rfl (E.subc rfl (E.subc rfl (E.subc rfl E.subn)))))) ⟨Nat.zero_le _, b2, b4, by rw [hfm]; exact b10, K⟩ ?_
    rintro k w7 ⟨hk, b2, b4, b10, K⟩
    refine E.CG.seq ?_
    refine E.CG.seq ?_
    refine E.CG.list ?_
    refine E.GL.run rfl rfl rfl (E.Runs.move rfl rfl) ?_
    refine E.GL.run rfl rfl rfl (E.Runs.move rfl rfl) ?_
    refine E.GL.run rfl rfl rfl (E.Runs.len rfl rfl hu77) ?_
    refine E.GL.cmp rfl rfl rfl (fun _ h => (E.Runs.lss rfl rfl rfl h)) (fun h46 => ?_) (fun h46 => ?_)
    · obtain ⟨o, ho⟩ := get_ex (show k < L0.length by omega)
      obtain ⟨t1, b1, hK1, hkeq, hkb, hkr, hkway, hkl⟩ := lk_row hok hLk (List.mem_of_getElem? ho) hi
      obtain ⟨ae1, c1, d1, fL, YL, hD1⟩ := rowK_at hC ho
      obtain ⟨ae2, c2, d2, fR, YR, hD2⟩ := rowK_at hD1 hkr
      have hrow1 : OkRow V i (tb V.ps.length b1) := (okRow_iff hok hi).mpr ⟨b1, hkway, rfl⟩
      have hwv1 := worth_small (way_small hkway (rl_20 hok hi)) hok.p
      have hdue1 : due V c0 (bl (tb V.ps.length b1)) = c0.f4 + b1.worth V.ps := by rw [tb_bl hok.n1 hok.n3 hkway]; rfl
      have hval : due V c0 (bl (tb V.ps.length b1)) - c0.f5 = fMi V i o := by rw [hkeq, fMi_q hok hkb hkway, tb_bl hok.n1 hok.n3 hkway, hct]
      refine E.GL.done ?_
      refine E.QG.code ?_
      refine E.CG.cond_t rfl ?_
      refine E.CG.skip ?_
      refine E.QG.code ?_
      refine E.CG.seq ?_
      refine E.CG.block ?_
      refine E.CG.seq ?_
      refine E.CG.heldH (none) (by kernel_rfl) fun v9 lD hh => ?_
      replace b2 := blk_below b2 lD
      replace b4 := blk_below b4 lD
      replace b10 := blk_below b10 lD
      replace K := below_step K lD
      clear lD
      have s_b2 := b2
      have s_b4 := b4
      have s_b10 := b10
      have s_K := K
      refine E.GH.take (i := 0) rfl (by kernel_rfl) (by kernel_rfl) (by kernel_rfl) (by intro c a d v w h; first | (cases d <;> exact h) | exact nomatch (show _ ∧ _ from h).1) rfl rfl rfl (fun w' hS => (E.Runs.loads (cs := [.slice m.A V.ps.length m.a, .slice m.B V.qs.length m.b, .slice m.C V.ts.length m.c, .slice m.D V.cs.length m.d]) rfl rfl hu25 rfl info25s (blk_cells (blk_grown s_b2 hS E.nen)))) ?_
      refine E.GH.take (i := 1) rfl (by kernel_rfl) (by kernel_rfl) (by kernel_rfl) (by intro c a d v w h; first | (cases d <;> exact h) | exact nomatch (show _ ∧ _ from h).1) rfl rfl rfl (fun w' hS => (E.Runs.move rfl rfl)) ?_
      refine E.GH.take (i := 2) rfl (by kernel_rfl) (by kernel_rfl) (by kernel_rfl) (by intro c a d v w h; first | (cases d <;> exact h) | exact nomatch (show _ ∧ _ from h).1) rfl rfl rfl (fun w' hS => (E.Runs.move rfl rfl)) ?_
      refine E.GH.take (i := 3) rfl (by kernel_rfl) (by kernel_rfl) (by kernel_rfl) (by intro c a d v w h; first | (cases d <;> exact h) | exact nomatch (show _ ∧ _ from h).1) rfl rfl rfl (fun w' hS => (E.Runs.move rfl rfl)) ?_
      refine E.GH.take (i := 4) rfl (by kernel_rfl) (by kernel_rfl) (by kernel_rfl) (by intro c a d v w h; first | (cases d <;> exact h) | exact nomatch (show _ ∧ _ from h).1) rfl rfl rfl (fun w' hS => (E.Runs.indexAddrA (i := k) rfl rfl rfl hu77 z42 o42 (by omega) fL rfl)) ?_
      refine E.GH.take (i := 5) rfl (by kernel_rfl) (by kernel_rfl) (by kernel_rfl) (by intro c a d v w h; first | (cases d <;> exact h) | exact nomatch (show _ ∧ _ from h).1) rfl rfl rfl (fun w' hS => (E.Runs.load1 rfl rfl hu42 rfl (pw_cell_below (below_step s_K (E.belowG hS)) YL))) ?_
      refine E.GH.take (i := 6) rfl (by kernel_rfl) (by kernel_rfl) (by kernel_rfl) (by intro c a d v w h; first | (cases d <;> exact h) | exact nomatch (show _ ∧ _ from h).1) rfl rfl rfl (fun w' hS => (E.Runs.move rfl rfl)) ?_
      refine E.GH.take (i := 7) rfl (by kernel_rfl) (by kernel_rfl) (by kernel_rfl) (by intro c a d v w h; first | (cases d <;> exact h) | exact nomatch (show _ ∧ _ from h).1) rfl rfl rfl (fun w' hS => (E.Runs.indexAddrA (i := i) rfl rfl (congrArg (fun t => some (Value.int .i64 t)) hti) hu42 z22 o22 (by omega) fR rfl)) ?_
      refine E.GH.take (i := 8) rfl (by kernel_rfl) (by kernel_rfl) (by kernel_rfl) (by intro c a d v w h; first | (cases d <;> exact h) | exact nomatch (show _ ∧ _ from h).1) rfl rfl rfl (fun w' hS => (E.Runs.load1 rfl rfl hu22 rfl (pw_cell_below (below_step s_K (E.belowG hS)) YR))) ?_
      refine E.GH.take (i := 10) rfl (by kernel_rfl) (by kernel_rfl) (by kernel_rfl) (by intro c a d v w h; first | (cases d <;> exact h) | exact nomatch (show _ ∧ _ from h).1) rfl rfl rfl (fun w' hS => (E.Runs.fieldAddr rfl rfl hu25 rfl (by assumption) rfl)) ?_
      refine E.GH.take (i := 11) rfl (by kernel_rfl) (by kernel_rfl) (by kernel_rfl) (by intro c a d v w h; first | (cases d <;> exact h) | exact nomatch (show _ ∧ _ from h).1) rfl rfl rfl (fun w' hS => (E.Runs.load1 rfl rfl hu23 rfl (by first | exact E.keeps hS (E.blkc (by assumption) rfl) (by first | exact E.nen | exact E.nes (by assumption) | exact E.nes (Ne.symm (by assumption))) | exact pw_cell_below (below_step s_K (E.belowG hS)) (by assumption)))) ?_
      refine E.GH.take (i := 12) rfl (by kernel_rfl) (by kernel_rfl) (by kernel_rfl) (by intro c a d v w h; first | (cases d <;> exact h) | exact nomatch (show _ ∧ _ from h).1) rfl rfl rfl (fun w' hS => (E.Runs.move rfl rfl)) ?_
      refine E.GH.take (i := 13) rfl (by kernel_rfl) (by kernel_rfl) (by kernel_rfl) (by intro c a d v w h; first | (cases d <;> exact h) | exact nomatch (show _ ∧ _ from h).1) rfl rfl rfl (fun w' hS => (E.Runs.indexAddrA (i := i) rfl rfl (congrArg (fun t => some (Value.int .i64 t)) hti) hu23 z40 o40 (by omega) eA rfl)) ?_
      refine E.GH.take (i := 14) rfl (by kernel_rfl) (by kernel_rfl) (by kernel_rfl) (by intro c a d v w h; first | (cases d <;> exact h) | exact nomatch (show _ ∧ _ from h).1) rfl rfl rfl (fun w' hS => (E.Runs.fieldAddr rfl rfl hu40 rfl (by assumption) rfl)) ?_
      refine E.GH.take (i := 15) rfl (by kernel_rfl) (by kernel_rfl) (by kernel_rfl) (by intro c a d v w h; first | (cases d <;> exact h) | exact nomatch (show _ ∧ _ from h).1) rfl rfl rfl (fun w' hS => (E.Runs.load rfl rfl hu3 (show _ = some (Value.int .i64 c0.f5) from pw_cell_below (below_step KL (below_step s_K (E.belowG hS))) (XT 5 _ rfl)))) ?_
      refine E.GH.one (i := 9) (by kernel_rfl) rfl ?_
      refine E.GO.st rfl rfl rfl (E.ST.call rfl ent32 (E.evc rfl (E.evc (show _ = some (Value.int .i64 (i : Int)) from (congrArg (fun t => some (Value.int .i64 t)) hti)) (E.evc rfl E.evn))) ((due_r V m _ (hV.below (below_step KL K)) hok i c0 hc0 (tb V.ps.length b1) c2 d2 (Kd.C_below hD2 K) hrow1.1 hrow1.2.1).mono ?_))
      rintro e w58 ⟨rfl, l58⟩
      refine ⟨_, rfl, hh.trans (E.gbB l58), ?_⟩
      replace hh := hh.trans (E.gbB l58)
      replace b2 := blk_below b2 l58
      replace b4 := blk_below b4 l58
      replace b10 := blk_below b10 l58
      replace K := below_step K l58
      refine E.GH.take (i := 16) rfl (by kernel_rfl) (by kernel_rfl) (by kernel_rfl) (by intro c a d v w h; first | (cases d <;> exact h) | exact nomatch (show _ ∧ _ from h).1) rfl rfl rfl (fun w' hS => (E.Runs.sub rfl rfl rfl (IntWalk.i64_in _ (by rw [hdue1]; omega)))) ?_
      refine E.GH.take (i := 17) rfl (by kernel_rfl) (by kernel_rfl) (by kernel_rfl) (by intro c a d v w h; first | (cases d <;> exact h) | exact nomatch (show _ ∧ _ from h).1) rfl rfl rfl (fun w' hS => (E.Runs.assign rfl rfl)) ?_
      refine E.GH.done (by kernel_rfl) ?_
      refine E.QG.code ?_
      refine E.CG.list ?_
      refine E.GL.run rfl rfl rfl (E.Runs.fieldAddr rfl rfl hu34 rfl (by assumption) rfl) ?_
      refine E.GL.run rfl rfl rfl (E.Runs.load rfl rfl hu3 (by first | assumption | exact E.blkc (by assumption) rfl | exact pw_cell_below K (by assumption))) ?_
      refine E.GL.run rfl rfl rfl (E.Runs.move rfl rfl) ?_
      refine E.GL.run rfl rfl rfl (E.Runs.min rfl rfl rfl rfl) ?_
      refine E.GL.run rfl rfl rfl (E.Runs.fieldAddr rfl rfl hu34 rfl (by assumption) rfl) ?_
      refine E.GL.run rfl rfl rfl (E.Runs.load rfl rfl hu3 (by first | assumption | exact E.blkc (by assumption) rfl | exact pw_cell_below K (by assumption))) ?_
      refine E.GL.run rfl rfl rfl (E.Runs.move rfl rfl) ?_
      refine E.GL.run rfl rfl rfl (E.Runs.max rfl rfl rfl rfl) ?_
      refine E.GL.run rfl rfl rfl (E.Runs.build rfl (E.epc rfl (E.epc rfl E.epn)) (build34 _ _)) ?_
      refine E.GL.store_whole rfl rfl rfl rfl rfl b10 rfl info34s (two_one _ _) fun wS10_9 c10 lS10_9 => ?_
      replace b2 := blk_grown b2 lS10_9 (E.nes (by first | assumption | exact Ne.symm (by assumption)))
      replace b4 := blk_grown b4 lS10_9 (E.nes (by first | assumption | exact Ne.symm (by assumption)))
      replace K := E.below_own K h10_K lS10_9
      replace b10 := c10
      clear c10
      refine E.GL.done ?_
      refine E.QG.block_normal ?_
      refine E.QG.code ?_
      refine E.CG.list ?_
      refine E.GL.run rfl rfl rfl (E.Runs.move rfl rfl) ?_
      refine E.GL.run rfl rfl rfl (E.Runs.add rfl rfl rfl (IntWalk.i64_in _ (by omega))) ?_
      refine E.GL.run rfl rfl rfl (E.Runs.assign rfl rfl) ?_
      refine E.GL.done ?_
      exact E.QG.round (k + 1) (E.subc rfl (E.subc rfl (E.subc rfl (E.subc rfl (E.subc rfl (E.subc rfl E.subn)))))) ⟨by omega, b2, b4, by rw [mnG_step ho, mxG_step ho, ← hval]; exact b10, K⟩ (by omega)
    · obtain rfl : k = L0.length := by omega
      refine E.GL.done ?_
      refine E.QG.code ?_
      refine E.CG.cond_f rfl ?_
      refine E.CG.exit ?_
      refine E.QG.pass_exit ?_
      refine E.QG.pass_exit ?_
      refine E.QG.block_here ?_
      refine E.QG.code ?_
      refine E.CG.seq ?_
      refine E.CG.list ?_
      refine E.GL.run rfl rfl rfl (E.Runs.loads (cs := [.int .i64 (mnG (fMi V i) (fMi V i o0) (L0.take L0.length)), .int .i64 (mxG (fMi V i) (fMi V i o0) (L0.take L0.length))]) rfl rfl hu34 rfl info34s (blk_cells b10)) ?_
      refine E.GL.store_whole rfl rfl rfl rfl rfl b4 rfl info34s (two_one _ _) fun wS11_1 c4 lS11_1 => ?_
      replace b2 := blk_grown b2 lS11_1 (E.nes (by first | assumption | exact Ne.symm (by assumption)))
      replace b10 := blk_grown b10 lS11_1 (E.nes (by first | assumption | exact Ne.symm (by assumption)))
      replace b4 := c4
      clear c4
      refine E.GL.run rfl rfl rfl (E.Runs.assign rfl rfl) ?_
      refine E.GL.done ?_
      refine E.QG.code ?_
      refine E.CG.ret ?_
      have hsp := span_r (q := lackQ V till) hok hLk (show till.toNat < V.cs.length by omega) hE (f := fMi V i) (fun t b _ k1 k2 => by rw [htn] at k1 k2; rw [fMi_q hok k1 k2]; unfold lackQ; rw [htn]) hm0
      exact E.QG.result_ct rfl rfl b4 hu34 rfl info34c rfl ⟨by rw [List.take_length, hsp.1, hsp.2, hE], E.below_own (below_step KL K) h4_L lS11_1⟩

end Go.Proofs.Ytiplichdhcmjdaa.T
namespace Go.Proofs.Ytiplichdhcmjdaa.E
open Go.RowKit Go.Proofs.YtiplichdhcmjdaaW.PrintWords Go.Proofs.YtiplichdhcmjdaaW.PrintMore
open Go.Proofs.Ytiplichdhcmjdaa.T
set_option linter.unusedVariables false
set_option linter.unusedSimpArgs false
section
variable {P : Program} {w : World} {N fuel : Nat} {env : Env} {ops : Array Oper} {Q : Exit → Act → World → Prop} {S : World → Prop} {L : Array Bool}
/-- The operations by a name. -/
theorem GH.named (h : ∀ os R, os = ops → R = Q → GH P os R N S fuel L env w) : GH P ops Q N S fuel L env w := h _ _ rfl rfl
/-- A state that is told elsewhere. -/
theorem GH.meet {L' : Array Bool} {env' : Env} (h : GH P ops Q N S fuel L' env' w) (hL : L' = L) (hs : Sub env' env) : GH P ops Q N S fuel L env w := fun a ha hS => hL ▸ h a (ha.sub hs) hS
end
/-- Two rows are not the same block. -/
def Ap (u v : Value) : Prop := ∀ k, u.ownBlock = some k → v.ownBlock ≠ some k
theorem Ap.symm {u v : Value} (h : Ap u v) : Ap v u := fun k hk e => h k e hk
abbrev kJ : Kd Int := Kd.int .i64
/-- Three rows of numbers, each by itself. -/
structure Cb (bs : Nat) (W : World) (va vb vc : Value) (la lb lc : List Int) : Prop where
  a : Kd.R kJ 3 W bs (fun _ => True) va la
  b : Kd.R kJ 3 W bs (fun _ => True) vb lb
  c : Kd.R kJ 3 W bs (fun _ => True) vc lc
  ab : Ap va vb
  ac : Ap va vc
  bc : Ap vb vc
section
variable {b : Nat} {W w1 : World} {va vb vc u : Value} {la lb lc l : List Int}
theorem Cb.start (W : World) (b : Nat) : Cb b W (.slice none 0 0) (.slice none 0 0) (.slice none 0 0) [] [] [] := ⟨Kd.R_nil _ _ _ _ _, Kd.R_nil _ _ _ _ _, Kd.R_nil _ _ _ _ _, (fun k hk => by cases hk), (fun k hk => by cases hk), (fun k hk => by cases hk)⟩
theorem Cb.lower {b' : Nat} (h : Cb b W va vb vc la lb lc) (hb : b' ≤ b) : Cb b' W va vb vc la lb lc := ⟨Kd.R_lower h.a hb, Kd.R_lower h.b hb, Kd.R_lower h.c hb, h.ab, h.ac, h.bc⟩
theorem Cb.below (h : Cb b W va vb vc la lb lc) (l : Below W.heap.size W w1) : Cb b w1 va vb vc la lb lc := ⟨Kd.R_below h.a l, Kd.R_below h.b l, Kd.R_below h.c l, h.ab, h.ac, h.bc⟩
theorem Cb.s12 (h : Cb b W va vb vc la lb lc) : Cb b W vb va vc lb la lc := ⟨h.b, h.a, h.c, h.ab.symm, h.bc, h.ac⟩
theorem Cb.s13 (h : Cb b W va vb vc la lb lc) : Cb b W vc vb va lc lb la := ⟨h.c, h.b, h.a, h.bc.symm, h.ac.symm, h.ab.symm⟩
theorem ap_fresh {xs : List Int} (h : Kd.R kJ 3 W b (fun _ => True) vb xs) (n : ∃ k, u.ownBlock = some k ∧ W.heap.size ≤ k) : Ap u vb := fun k hk e => by
  obtain ⟨k', e', hle⟩ := n
  rw [e'] at hk
  cases hk
  have := Kd.R_lt h k e
  omega
theorem Cb.make (h : Cb b W va vb vc la lb lc) (r : Kd.R kJ 3 w1 b (fun _ => True) u l) (hl : Below W.heap.size W w1) (n : ∃ k, u.ownBlock = some k ∧ W.heap.size ≤ k) : Cb b w1 u vb vc l lb lc := ⟨r, Kd.R_below h.b hl, Kd.R_below h.c hl, ap_fresh h.b n, ap_fresh h.c n, h.bc⟩
theorem r_apart {xs : List Int} (h : Kd.R kJ 3 W b (fun _ => True) vb xs) (ha : Ap va vb) (g : W.grownBy w1 va.ownBlock) : Kd.R kJ 3 w1 b (fun _ => True) vb xs := by
  cases hv : va.ownBlock with
  | none => rw [hv] at g; exact Kd.R_below h (belowG g)
  | some k => rw [hv] at g; exact Kd.R_grown1 h rfl g (fun e => ha k hv e.symm)
theorem Cb.grow (h : Cb b W va vb vc la lb lc) (r : Kd.R kJ 3 w1 b (fun _ => True) u l) (g : W.grownBy w1 va.ownBlock) (n : u.ownBlock = va.ownBlock ∨ ∃ k, u.ownBlock = some k ∧ W.heap.size ≤ k) : Cb b w1 u vb vc l lb lc := by
  refine ⟨r, r_apart h.b h.ab g, r_apart h.c h.ac g, ?_, ?_, h.bc⟩
  · rcases n with n | n
    · exact fun k hk => h.ab k (n ▸ hk)
    · exact ap_fresh h.b n
  · rcases n with n | n
    · exact fun k hk => h.ac k (n ▸ hk)
    · exact ap_fresh h.c n
/-- A block of another type is written. -/
theorem Cb.over {g t : Nat} {cs : Array Value} (h : Cb b W va vb vc la lb lc) (hb : W.heap[g]? = some (.cells cs t (0, 0))) (ht : 3 ≠ t) (hg : W.grownBy w1 (some g)) : Cb b w1 va vb vc la lb lc :=
  ⟨Kd.R_grown1 h.a rfl hg (Kd.R_ne h.a hb ht), Kd.R_grown1 h.b rfl hg (Kd.R_ne h.b hb ht), Kd.R_grown1 h.c rfl hg (Kd.R_ne h.c hb ht), h.ab, h.ac, h.bc⟩
theorem Cb.rowed {α : Type} {d : Kd α} {e b' : Nat} {v : Value} {xs : List α} (h : Cb b W va vb vc la lb lc) (hv : d.R e W b' (fun _ => True) v xs) (ht : 3 ≠ e) (hg : W.grownBy w1 v.ownBlock) : Cb b w1 va vb vc la lb lc := by
  cases ho : v.ownBlock with
  | none => rw [ho] at hg; exact h.below (belowG hg)
  | some g =>
    obtain ⟨_, _, hh, _⟩ := hv
    obtain ⟨cs, hc⟩ := own_typed hh g ho
    rw [ho] at hg
    exact h.over hc ht hg
end
theorem apart_R {α β : Type} {d : Kd α} {d' : Kd β} {e e' base base' : Nat} {w : World} {v u : Value} {xs : List α} {ys : List β} (h : d.R e w base (fun _ => True) v xs) (hu : d'.R e' w base' (fun _ => True) u ys) (ht : ∀ q, q ∈ e :: d.E → q ≠ e') : d.R e w base (fun k => some k ≠ u.ownBlock) v xs := by
  obtain ⟨v', he, hr⟩ := M_row' h hu ht
  obtain rfl : v = v' := by simpa using he
  exact hr
theorem take_snoc {α : Type} {l : List α} {i : Nat} {c : α} (h : l[i]? = some c) : l.take i ++ [c] = l.take (i + 1) := by rw [List.take_add_one, h]; rfl
end Go.Proofs.Ytiplichdhcmjdaa.E
namespace Go.Proofs.Ytiplichdhcmjdaa.T
open Go.RowKit Go.Proofs.YtiplichdhcmjdaaW.PrintWords Go.Proofs.YtiplichdhcmjdaaW.PrintMore
open Go.Proofs.Ytiplichdhcmjdaa.P
set_option linter.unusedVariables false
set_option linter.unusedSimpArgs false

set_option maxRecDepth 100000 in
theorem build25 (A B C : Option Addr) (n c m d k e : Nat) (W : World) : (Instr.build 25 #[(0, .slice A n c), (1, .slice B m d), (2, .slice C k e)]).run Try.prog W = .ok (.agg #[.slice A n c, .slice B m d, .slice C k e, .slice none 0 0]) W := by
  have hu22 := Try.underlying22
  have hu23 := Try.underlying23
  have hu25 := Try.underlying25
  go_simp
set_option maxRecDepth 100000 in
theorem lit23 (A : Option Addr) (n c : Nat) (f1 f2 f3 f4 f5 : Int) (W : World) : (Instr.buildSlice 23 1 #[(0, .agg #[.slice A n c, .int .i64 f1, .int .i64 f2, .int .i64 f3, .int .i64 f4, .int .i64 f5])]).run Try.prog W = .ok (.slice (some ⟨W.heap.size, 0, none⟩) 1 1) (W.alloc (.cells #[.slice A n c, .int .i64 f1, .int .i64 f2, .int .i64 f3, .int .i64 f4, .int .i64 f5] 40 (0, 0))) := by
  have hu23 := Try.underlying23
  go_simp
theorem info40b : (Try.prog.info? 40).map (fun i => (i.zero, i.size, i.bytes)) = some (some (.agg #[.slice none 0 0, .int .i64 0, .int .i64 0, .int .i64 0, .int .i64 0, .int .i64 0]), 6, 64) := by kernel_rfl
/-- An evening in rows of our own. -/
structure EvR (bs : Nat) (w : World) (V : Ev) (m : Ea) : Prop where
  r : E.Cb bs w (.slice m.A V.ps.length m.a) (.slice m.B V.qs.length m.b) (.slice m.C V.ts.length m.c) V.ps V.qs V.ts
  cs : Kd.R k40 40 w bs (fun _ => True) (.slice m.D V.cs.length m.d) V.cs
theorem EvR.ev {bs : Nat} {w : World} {V : Ev} {m : Ea} (h : EvR bs w V m) : EvM w V m := ⟨(Kd.R_reads' h.r.a).2.2, (Kd.R_reads' h.r.b).2.2, (Kd.R_reads' h.r.c).2.2, (Kd.R_reads' h.cs).2.2⟩
theorem EvR.cap {bs : Nat} {w : World} {V : Ev} {m : Ea} (h : EvR bs w V m) : V.qs.length ≤ m.b := (Kd.R_reads' h.r.b).2.1
set_option maxRecDepth 100000 in
set_option maxHeartbeats 8000000 in

theorem copy_calls (V : Ev) (m : Ea) (w : World) (hV : EvM w V m) (hs : Sz V) :
    Calls Try.prog 21 #[hv V m] w fun e w' => ∃ m', e = .returned (hv V m') ∧ EvR w.heap.size w' V m' ∧ Below w.heap.size w w' := by
  have hsc := hs.c
  have hu3 := Try.underlying3
  have hu22 := Try.underlying22
  have hu23 := Try.underlying23
  have hu25 := Try.underlying25
  have hu40 := Try.underlying40
  obtain ⟨z3, o3⟩ := info_some info3s (by decide)
  obtain ⟨z22, o22⟩ := info_some info22s (by decide)
  obtain ⟨z23, o23⟩ := info_some info23s (by decide)
  obtain ⟨z25, o25⟩ := info_some info25s (by decide)
  obtain ⟨z40, o40⟩ := info_some info40s (by decide)
  refine E.enter (N := 43) Try.func21 rfl Try.ntmps21 (args := [hv V m]) (by simp) ?_
  have L := Below.refl w.heap.size w
  refine E.CG.seq ?_
  refine E.CG.list ?_
  refine E.GL.st rfl rfl rfl (E.ST.box rfl rfl fun g1 w1 e1 b1 l1 => ?_)
  have h1_L : w.heap.size ≤ g1 := by rw [e1]; exact L.size
  replace L := below_step L l1
  refine E.GL.st rfl rfl rfl (E.ST.alloc rfl info25z fun g2 w2 e2 b2 l2 => ?_)
  have h2_L : w.heap.size ≤ g2 := by rw [e2]; exact L.size
  have n2_b1 : g1 ≠ g2 := by have := blk_lt b1; omega
  replace b1 := blk_below b1 l2
  replace L := below_step L l2
  refine E.GL.done ?_
  refine E.QG.code ?_
  refine E.CG.seq ?_
  have s1b1 := b1
  have s1b2 := b2
  have hwv0 := L.size
  refine E.CG.cut1 (fun (g3 : Nat) => [(1, .pointer (some ⟨g1, 0, none⟩)), (2, .pointer (some ⟨g2, 0, none⟩)), (3, .pointer (some ⟨g3, 0, none⟩))]) (fun g3 w' => ∃ m' : Ea, E.Cb w.heap.size w' (.slice m'.A V.ps.length m'.a) (.slice m'.B V.qs.length m'.b) (.slice m'.C V.ts.length m'.c) V.ps V.qs V.ts ∧ w'.heap[g3]? = some (.cells #[.slice m'.A V.ps.length m'.a, .slice m'.B V.qs.length m'.b, .slice m'.C V.ts.length m'.c, .slice none 0 0] 25 (0, 0)) ∧ w2.heap.size ≤ g3 ∧ Below w2.heap.size w2 w') ?_ ?_
  · refine E.CG.heldH none (by kernel_rfl) fun v1 lD hh0 => ?_
    refine E.GH.named fun cops cQ hops hQ => ?_
    have hcalm : E.Calm cQ := by rw [hQ]; exact E.calm_cut1
    clear hh0
    have b1 := blk_below b1 lD
    have hwv := Nat.le_trans hwv0 lD.size
    have hVv := hV.below (below_step L lD)
    have SF : ∀ (g3 : Nat) (A' : Option Addr) (a' : Nat) (B' : Option Addr) (b' : Nat) (C' : Option Addr) (c' : Nat) (W : World), v1.grownBy W none → Below v1.heap.size v1 W → E.Cb v1.heap.size W (.slice A' V.ps.length a') (.slice B' V.qs.length b') (.slice C' V.ts.length c') V.ps V.qs V.ts → W.heap[g3]? = some (.cells #[.slice none 0 0, .slice none 0 0, .slice none 0 0, .slice none 0 0] 25 (0, 0)) → v1.heap.size ≤ g3 → E.GH Try.prog cops cQ 43 (fun W => v1.grownBy W none) 1 #[true, true, true, true, true, true, true, true, true, true, true, true, true, true, false] [(1, .pointer (some ⟨g1, 0, none⟩)), (2, .pointer (some ⟨g2, 0, none⟩)), (3, .pointer (some ⟨g3, 0, none⟩)), (18, .agg #[.slice A' V.ps.length a', .slice B' V.qs.length b', .slice C' V.ts.length c', .slice none 0 0])] W := by
      intro g3 A' a' B' b' C' c' W hh K hC b3 h3
      refine E.GH.one (i := 14) (by rw [hops]; kernel_rfl) ((congrArg (fun (o : Array Oper) => o[14]?) hops).trans rfl) ?_
      refine E.GO.sn rfl rfl (E.ST.storeS (off := 0) (cells := [.slice A' V.ps.length a', .slice B' V.qs.length b', .slice C' V.ts.length c', .slice none 0 0]) rfl rfl rfl b3 rfl info25s (slices4_one _ _ _ _ _ _ _ _ _ _ _ _) rfl fun wS c3 lS => ⟨E.gb_row hh lS (fun i hi => by cases hi; exact h3), ?_⟩)
      refine E.GH.done (by rw [hops]; kernel_rfl) ?_
      rw [hQ]
      exact E.QG.meet1 g3 (E.subc rfl (E.subc rfl (E.subc rfl E.subn))) ⟨⟨A', a', B', b', C', c', none, 0⟩, (hC.over b3 (by decide) lS).lower hwv, c3, Nat.le_trans lD.size h3, below_step' lD lD.size (E.below_own K h3 lS)⟩
    have S1111110 : ∀ (g3 : Nat) (va vb vc : Value) (W : World), v1.grownBy W none → Below v1.heap.size v1 W → E.Cb v1.heap.size W va vb vc V.ps V.qs V.ts → E.GH Try.prog cops cQ 43 (fun W => v1.grownBy W none) 3 #[true, true, true, true, true, true, true, true, true, true, true, true, false, false, false] [(1, .pointer (some ⟨g1, 0, none⟩)), (2, .pointer (some ⟨g2, 0, none⟩)), (8, .slice m.A V.ps.length m.a), (12, .slice m.B V.qs.length m.b), (16, .slice m.C V.ts.length m.c), (9, va), (13, vb), (17, vc)] W := by
      intro g3 va vb vc W hh K hC
      obtain ⟨A', a', hva⟩ := Kd.R_slice hC.a
      obtain ⟨B', b', hvb⟩ := Kd.R_slice hC.b
      obtain ⟨C', c', hvc⟩ := Kd.R_slice hC.c
      subst hva hvb hvc
      refine E.GH.take (i := 12) ((congrArg (fun (o : Array Oper) => o[12]?) hops).trans rfl) (by rw [hops]; kernel_rfl) (by rw [hops]; kernel_rfl) (by rw [hops]; kernel_rfl) hcalm rfl rfl rfl (fun w' hS => E.Runs.build rfl (E.epc rfl (E.epc rfl (E.epc rfl E.epn))) (build25 _ _ _ _ _ _ _ _ _)) ?_
      refine E.GH.all (rs := [13]) (by rw [hops]; kernel_rfl) (by simp) (E.GHs.cons ((congrArg (fun (o : Array Oper) => o[13]?) hops).trans rfl) ?_ (E.GHs.nil))
      · refine E.GO.st rfl rfl rfl (E.ST.alloc rfl info25z fun g3 w3 e3 b3 l3 => ⟨hh.trans (E.gbB l3), ?_⟩)
        exact E.GH.meet (SF g3 A' a' B' b' C' c' w3 (hh.trans (E.gbB l3)) (below_step K l3) (hC.below l3) b3 (by rw [e3]; exact K.size)) (by kernel_rfl) (E.subc rfl (E.subc rfl (E.subc rfl (E.subc rfl E.subn))))
    have S1111101 : ∀ (g3 : Nat) (va vb vc : Value) (W : World), v1.grownBy W none → Below v1.heap.size v1 W → E.Cb v1.heap.size W va vb vc V.ps V.qs [] → W.heap[g3]? = some (.cells #[.slice none 0 0, .slice none 0 0, .slice none 0 0, .slice none 0 0] 25 (0, 0)) → v1.heap.size ≤ g3 → E.GH Try.prog cops cQ 43 (fun W => v1.grownBy W none) 3 #[true, true, true, true, true, true, true, true, true, true, true, false, false, true, false] [(1, .pointer (some ⟨g1, 0, none⟩)), (2, .pointer (some ⟨g2, 0, none⟩)), (8, .slice m.A V.ps.length m.a), (12, .slice m.B V.qs.length m.b), (16, .slice m.C V.ts.length m.c), (3, .pointer (some ⟨g3, 0, none⟩)), (9, va), (13, vb), (14, vc)] W := by
      intro g3 va vb vc W hh K hC b3 h3
      refine E.GH.all (rs := [11]) (by rw [hops]; kernel_rfl) (by simp) (E.GHs.cons ((congrArg (fun (o : Array Oper) => o[11]?) hops).trans rfl) ?_ (E.GHs.nil))
      · refine E.GO.st rfl rfl rfl (E.ST.appendAt kI v1.heap.size (w0 := v1) (s := .tmp 14) (x := .tmp 16) rfl hu22 info3 rfl (by decide) (by decide) rfl rfl hC.c (Kd.C_below hVv.ts K) made22 K K.size (by have := hs.t; simp only [List.length_nil]; omega) fun u w3 r k gr n => ⟨E.gb_row hh gr (fun i hi => Kd.R_base hC.c i hi), ?_⟩)
        rw [List.nil_append] at r
        have b3' := blk_grown b3 gr (Kd.R_ne hC.c b3 (by decide))
        have hh2 := (E.gb_row hh gr (fun i hi => Kd.R_base hC.c i hi))
        have hC2 := (hC.s13.grow r gr n).s13
        clear hh hC r gr n
        obtain ⟨A', a', hva⟩ := Kd.R_slice hC2.a
        obtain ⟨B', b', hvb⟩ := Kd.R_slice hC2.b
        obtain ⟨C', c', hvc⟩ := Kd.R_slice hC2.c
        subst hva hvb hvc
        refine E.GH.take (i := 12) ((congrArg (fun (o : Array Oper) => o[12]?) hops).trans rfl) (by rw [hops]; kernel_rfl) (by rw [hops]; kernel_rfl) (by rw [hops]; kernel_rfl) hcalm rfl rfl rfl (fun w' hS => E.Runs.build rfl (E.epc rfl (E.epc rfl (E.epc rfl E.epn))) (build25 _ _ _ _ _ _ _ _ _)) ?_
        exact E.GH.meet (SF g3 A' a' B' b' C' c' w3 hh2 k hC2 b3' h3) (by kernel_rfl) (E.subc rfl (E.subc rfl (E.subc rfl (E.subc rfl E.subn))))
    have S1111100 : ∀ (g3 : Nat) (va vb vc : Value) (W : World), v1.grownBy W none → Below v1.heap.size v1 W → E.Cb v1.heap.size W va vb vc V.ps V.qs [] → E.GH Try.prog cops cQ 43 (fun W => v1.grownBy W none) 4 #[true, true, true, true, true, true, true, true, true, true, true, false, false, false, false] [(1, .pointer (some ⟨g1, 0, none⟩)), (2, .pointer (some ⟨g2, 0, none⟩)), (8, .slice m.A V.ps.length m.a), (12, .slice m.B V.qs.length m.b), (16, .slice m.C V.ts.length m.c), (9, va), (13, vb), (14, vc)] W := by
      intro g3 va vb vc W hh K hC
      refine E.GH.all (rs := [11, 13]) (by rw [hops]; kernel_rfl) (by simp) (E.GHs.cons ((congrArg (fun (o : Array Oper) => o[11]?) hops).trans rfl) ?_ (E.GHs.cons ((congrArg (fun (o : Array Oper) => o[13]?) hops).trans rfl) ?_ (E.GHs.nil)))
      · refine E.GO.st rfl rfl rfl (E.ST.appendAt kI v1.heap.size (w0 := v1) (s := .tmp 14) (x := .tmp 16) rfl hu22 info3 rfl (by decide) (by decide) rfl rfl hC.c (Kd.C_below hVv.ts K) made22 K K.size (by have := hs.t; simp only [List.length_nil]; omega) fun u w3 r k gr n => ⟨E.gb_row hh gr (fun i hi => Kd.R_base hC.c i hi), ?_⟩)
        rw [List.nil_append] at r
        exact E.GH.meet (S1111110 0 va vb u w3 (E.gb_row hh gr (fun i hi => Kd.R_base hC.c i hi)) k ((hC.s13.grow r gr n).s13)) (by kernel_rfl) (E.subc rfl (E.subc rfl (E.subc rfl (E.subc rfl (E.subc rfl (E.subc rfl (E.subc rfl (E.subc rfl (E.subn)))))))))
      · refine E.GO.st rfl rfl rfl (E.ST.alloc rfl info25z fun g3 w3 e3 b3 l3 => ⟨hh.trans (E.gbB l3), ?_⟩)
        exact E.GH.meet (S1111101 g3 va vb vc w3 (hh.trans (E.gbB l3)) (below_step K l3) (hC.below l3) b3 (by rw [e3]; exact K.size)) (by kernel_rfl) (E.subc rfl (E.subc rfl (E.subc rfl (E.subc rfl (E.subc rfl (E.subc rfl (E.subc rfl (E.subc rfl (E.subc rfl (E.subn))))))))))
    have S1111001 : ∀ (g3 : Nat) (va vb vc : Value) (W : World), v1.grownBy W none → Below v1.heap.size v1 W → E.Cb v1.heap.size W va vb vc V.ps [] [] → W.heap[g3]? = some (.cells #[.slice none 0 0, .slice none 0 0, .slice none 0 0, .slice none 0 0] 25 (0, 0)) → v1.heap.size ≤ g3 → E.GH Try.prog cops cQ 43 (fun W => v1.grownBy W none) 4 #[true, true, true, true, true, true, true, false, true, true, true, false, false, true, false] [(1, .pointer (some ⟨g1, 0, none⟩)), (2, .pointer (some ⟨g2, 0, none⟩)), (8, .slice m.A V.ps.length m.a), (12, .slice m.B V.qs.length m.b), (16, .slice m.C V.ts.length m.c), (3, .pointer (some ⟨g3, 0, none⟩)), (9, va), (10, vb), (14, vc)] W := by
      intro g3 va vb vc W hh K hC b3 h3
      refine E.GH.all (rs := [7]) (by rw [hops]; kernel_rfl) (by simp) (E.GHs.cons ((congrArg (fun (o : Array Oper) => o[7]?) hops).trans rfl) ?_ (E.GHs.nil))
      · refine E.GO.st rfl rfl rfl (E.ST.appendAt kI v1.heap.size (w0 := v1) (s := .tmp 10) (x := .tmp 12) rfl hu22 info3 rfl (by decide) (by decide) rfl rfl hC.b (Kd.C_below hVv.qs K) made22 K K.size (by have := hs.q; simp only [List.length_nil]; omega) fun u w3 r k gr n => ⟨E.gb_row hh gr (fun i hi => Kd.R_base hC.b i hi), ?_⟩)
        rw [List.nil_append] at r
        exact E.GH.meet (S1111101 g3 va u vc w3 (E.gb_row hh gr (fun i hi => Kd.R_base hC.b i hi)) k ((hC.s12.grow r gr n).s12) (blk_grown b3 gr (Kd.R_ne hC.b b3 (by decide))) h3) (by kernel_rfl) (E.subc rfl (E.subc rfl (E.subc rfl (E.subc rfl (E.subc rfl (E.subc rfl (E.subc rfl (E.subc rfl (E.subc rfl (E.subn))))))))))
    have S1101101 : ∀ (g3 : Nat) (va vb vc : Value) (W : World), v1.grownBy W none → Below v1.heap.size v1 W → E.Cb v1.heap.size W va vb (.slice none 0 0) V.ps V.qs [] → W.heap[g3]? = some (.cells #[.slice none 0 0, .slice none 0 0, .slice none 0 0, .slice none 0 0] 25 (0, 0)) → v1.heap.size ≤ g3 → E.GH Try.prog cops cQ 43 (fun W => v1.grownBy W none) 4 #[true, true, true, true, true, true, true, true, false, true, true, false, false, true, false] [(1, .pointer (some ⟨g1, 0, none⟩)), (2, .pointer (some ⟨g2, 0, none⟩)), (8, .slice m.A V.ps.length m.a), (12, .slice m.B V.qs.length m.b), (16, .slice m.C V.ts.length m.c), (3, .pointer (some ⟨g3, 0, none⟩)), (9, va), (13, vb)] W := by
      intro g3 va vb vc W hh K hC b3 h3
      refine E.GH.all (rs := [8]) (by rw [hops]; kernel_rfl) (by simp) (E.GHs.cons ((congrArg (fun (o : Array Oper) => o[8]?) hops).trans rfl) ?_ (E.GHs.nil))
      · refine E.GO.st rfl rfl rfl (E.ST.litAt kI v1.heap.size (w0 := v1) (ys := ([] : List Int)) (inner := []) rfl rfl E.epn lit22n (Reps.none _ _) K K.size (by simp) fun u w3 r k l n => ⟨hh.trans (E.gbB l), ?_⟩)
        exact E.GH.meet (S1111101 g3 va vb u w3 (hh.trans (E.gbB l)) k ((hC.s13.make r l n).s13) (blk_below b3 l) h3) (by kernel_rfl) (E.subc rfl (E.subc rfl (E.subc rfl (E.subc rfl (E.subc rfl (E.subc rfl (E.subc rfl (E.subc rfl (E.subc rfl (E.subn))))))))))
    have S1111000 : ∀ (g3 : Nat) (va vb vc : Value) (W : World), v1.grownBy W none → Below v1.heap.size v1 W → E.Cb v1.heap.size W va vb vc V.ps [] [] → E.GH Try.prog cops cQ 43 (fun W => v1.grownBy W none) 5 #[true, true, true, true, true, true, true, false, true, true, true, false, false, false, false] [(1, .pointer (some ⟨g1, 0, none⟩)), (2, .pointer (some ⟨g2, 0, none⟩)), (8, .slice m.A V.ps.length m.a), (12, .slice m.B V.qs.length m.b), (16, .slice m.C V.ts.length m.c), (9, va), (10, vb), (14, vc)] W := by
      intro g3 va vb vc W hh K hC
      refine E.GH.all (rs := [7, 13]) (by rw [hops]; kernel_rfl) (by simp) (E.GHs.cons ((congrArg (fun (o : Array Oper) => o[7]?) hops).trans rfl) ?_ (E.GHs.cons ((congrArg (fun (o : Array Oper) => o[13]?) hops).trans rfl) ?_ (E.GHs.nil)))
      · refine E.GO.st rfl rfl rfl (E.ST.appendAt kI v1.heap.size (w0 := v1) (s := .tmp 10) (x := .tmp 12) rfl hu22 info3 rfl (by decide) (by decide) rfl rfl hC.b (Kd.C_below hVv.qs K) made22 K K.size (by have := hs.q; simp only [List.length_nil]; omega) fun u w3 r k gr n => ⟨E.gb_row hh gr (fun i hi => Kd.R_base hC.b i hi), ?_⟩)
        rw [List.nil_append] at r
        exact E.GH.meet (S1111100 0 va u vc w3 (E.gb_row hh gr (fun i hi => Kd.R_base hC.b i hi)) k ((hC.s12.grow r gr n).s12)) (by kernel_rfl) (E.subc rfl (E.subc rfl (E.subc rfl (E.subc rfl (E.subc rfl (E.subc rfl (E.subc rfl (E.subc rfl (E.subn)))))))))
      · refine E.GO.st rfl rfl rfl (E.ST.alloc rfl info25z fun g3 w3 e3 b3 l3 => ⟨hh.trans (E.gbB l3), ?_⟩)
        exact E.GH.meet (S1111001 g3 va vb vc w3 (hh.trans (E.gbB l3)) (below_step K l3) (hC.below l3) b3 (by rw [e3]; exact K.size)) (by kernel_rfl) (E.subc rfl (E.subc rfl (E.subc rfl (E.subc rfl (E.subc rfl (E.subc rfl (E.subc rfl (E.subc rfl (E.subc rfl (E.subn))))))))))
    have S1110001 : ∀ (g3 : Nat) (va vb vc : Value) (W : World), v1.grownBy W none → Below v1.heap.size v1 W → E.Cb v1.heap.size W va vb vc [] [] [] → W.heap[g3]? = some (.cells #[.slice none 0 0, .slice none 0 0, .slice none 0 0, .slice none 0 0] 25 (0, 0)) → v1.heap.size ≤ g3 → E.GH Try.prog cops cQ 43 (fun W => v1.grownBy W none) 5 #[true, true, true, false, true, true, true, false, true, true, true, false, false, true, false] [(1, .pointer (some ⟨g1, 0, none⟩)), (2, .pointer (some ⟨g2, 0, none⟩)), (8, .slice m.A V.ps.length m.a), (12, .slice m.B V.qs.length m.b), (16, .slice m.C V.ts.length m.c), (3, .pointer (some ⟨g3, 0, none⟩)), (6, va), (10, vb), (14, vc)] W := by
      intro g3 va vb vc W hh K hC b3 h3
      refine E.GH.all (rs := [3]) (by rw [hops]; kernel_rfl) (by simp) (E.GHs.cons ((congrArg (fun (o : Array Oper) => o[3]?) hops).trans rfl) ?_ (E.GHs.nil))
      · refine E.GO.st rfl rfl rfl (E.ST.appendAt kI v1.heap.size (w0 := v1) (s := .tmp 6) (x := .tmp 8) rfl hu22 info3 rfl (by decide) (by decide) rfl rfl hC.a (Kd.C_below hVv.ps K) made22 K K.size (by have := hs.p; simp only [List.length_nil]; omega) fun u w3 r k gr n => ⟨E.gb_row hh gr (fun i hi => Kd.R_base hC.a i hi), ?_⟩)
        rw [List.nil_append] at r
        exact E.GH.meet (S1111001 g3 u vb vc w3 (E.gb_row hh gr (fun i hi => Kd.R_base hC.a i hi)) k ((hC.grow r gr n)) (blk_grown b3 gr (Kd.R_ne hC.a b3 (by decide))) h3) (by kernel_rfl) (E.subc rfl (E.subc rfl (E.subc rfl (E.subc rfl (E.subc rfl (E.subc rfl (E.subc rfl (E.subc rfl (E.subc rfl (E.subn))))))))))
    have S1101100 : ∀ (g3 : Nat) (va vb vc : Value) (W : World), v1.grownBy W none → Below v1.heap.size v1 W → E.Cb v1.heap.size W va vb (.slice none 0 0) V.ps V.qs [] → E.GH Try.prog cops cQ 43 (fun W => v1.grownBy W none) 5 #[true, true, true, true, true, true, true, true, false, true, true, false, false, false, false] [(1, .pointer (some ⟨g1, 0, none⟩)), (2, .pointer (some ⟨g2, 0, none⟩)), (8, .slice m.A V.ps.length m.a), (12, .slice m.B V.qs.length m.b), (16, .slice m.C V.ts.length m.c), (9, va), (13, vb)] W := by
      intro g3 va vb vc W hh K hC
      refine E.GH.all (rs := [8, 13]) (by rw [hops]; kernel_rfl) (by simp) (E.GHs.cons ((congrArg (fun (o : Array Oper) => o[8]?) hops).trans rfl) ?_ (E.GHs.cons ((congrArg (fun (o : Array Oper) => o[13]?) hops).trans rfl) ?_ (E.GHs.nil)))
      · refine E.GO.st rfl rfl rfl (E.ST.litAt kI v1.heap.size (w0 := v1) (ys := ([] : List Int)) (inner := []) rfl rfl E.epn lit22n (Reps.none _ _) K K.size (by simp) fun u w3 r k l n => ⟨hh.trans (E.gbB l), ?_⟩)
        exact E.GH.meet (S1111100 0 va vb u w3 (hh.trans (E.gbB l)) k ((hC.s13.make r l n).s13)) (by kernel_rfl) (E.subc rfl (E.subc rfl (E.subc rfl (E.subc rfl (E.subc rfl (E.subc rfl (E.subc rfl (E.subc rfl (E.subn)))))))))
      · refine E.GO.st rfl rfl rfl (E.ST.alloc rfl info25z fun g3 w3 e3 b3 l3 => ⟨hh.trans (E.gbB l3), ?_⟩)
        exact E.GH.meet (S1101101 g3 va vb vc w3 (hh.trans (E.gbB l3)) (below_step K l3) (hC.below l3) b3 (by rw [e3]; exact K.size)) (by kernel_rfl) (E.subc rfl (E.subc rfl (E.subc rfl (E.subc rfl (E.subc rfl (E.subc rfl (E.subc rfl (E.subc rfl (E.subn)))))))))
    have S1101001 : ∀ (g3 : Nat) (va vb vc : Value) (W : World), v1.grownBy W none → Below v1.heap.size v1 W → E.Cb v1.heap.size W va vb (.slice none 0 0) V.ps [] [] → W.heap[g3]? = some (.cells #[.slice none 0 0, .slice none 0 0, .slice none 0 0, .slice none 0 0] 25 (0, 0)) → v1.heap.size ≤ g3 → E.GH Try.prog cops cQ 43 (fun W => v1.grownBy W none) 5 #[true, true, true, true, true, true, true, false, false, true, true, false, false, true, false] [(1, .pointer (some ⟨g1, 0, none⟩)), (2, .pointer (some ⟨g2, 0, none⟩)), (8, .slice m.A V.ps.length m.a), (12, .slice m.B V.qs.length m.b), (16, .slice m.C V.ts.length m.c), (3, .pointer (some ⟨g3, 0, none⟩)), (9, va), (10, vb)] W := by
      intro g3 va vb vc W hh K hC b3 h3
      refine E.GH.all (rs := [7, 8]) (by rw [hops]; kernel_rfl) (by simp) (E.GHs.cons ((congrArg (fun (o : Array Oper) => o[7]?) hops).trans rfl) ?_ (E.GHs.cons ((congrArg (fun (o : Array Oper) => o[8]?) hops).trans rfl) ?_ (E.GHs.nil)))
      · refine E.GO.st rfl rfl rfl (E.ST.appendAt kI v1.heap.size (w0 := v1) (s := .tmp 10) (x := .tmp 12) rfl hu22 info3 rfl (by decide) (by decide) rfl rfl hC.b (Kd.C_below hVv.qs K) made22 K K.size (by have := hs.q; simp only [List.length_nil]; omega) fun u w3 r k gr n => ⟨E.gb_row hh gr (fun i hi => Kd.R_base hC.b i hi), ?_⟩)
        rw [List.nil_append] at r
        exact E.GH.meet (S1101101 g3 va u vc w3 (E.gb_row hh gr (fun i hi => Kd.R_base hC.b i hi)) k ((hC.s12.grow r gr n).s12) (blk_grown b3 gr (Kd.R_ne hC.b b3 (by decide))) h3) (by kernel_rfl) (E.subc rfl (E.subc rfl (E.subc rfl (E.subc rfl (E.subc rfl (E.subc rfl (E.subc rfl (E.subc rfl (E.subn)))))))))
      · refine E.GO.st rfl rfl rfl (E.ST.litAt kI v1.heap.size (w0 := v1) (ys := ([] : List Int)) (inner := []) rfl rfl E.epn lit22n (Reps.none _ _) K K.size (by simp) fun u w3 r k l n => ⟨hh.trans (E.gbB l), ?_⟩)
        exact E.GH.meet (S1111001 g3 va vb u w3 (hh.trans (E.gbB l)) k ((hC.s13.make r l n).s13) (blk_below b3 l) h3) (by kernel_rfl) (E.subc rfl (E.subc rfl (E.subc rfl (E.subc rfl (E.subc rfl (E.subc rfl (E.subc rfl (E.subc rfl (E.subc rfl (E.subn))))))))))
    have S1011001 : ∀ (g3 : Nat) (va vb vc : Value) (W : World), v1.grownBy W none → Below v1.heap.size v1 W → E.Cb v1.heap.size W va (.slice none 0 0) vc V.ps [] [] → W.heap[g3]? = some (.cells #[.slice none 0 0, .slice none 0 0, .slice none 0 0, .slice none 0 0] 25 (0, 0)) → v1.heap.size ≤ g3 → E.GH Try.prog cops cQ 43 (fun W => v1.grownBy W none) 5 #[true, true, true, true, false, true, true, false, true, true, true, false, false, true, false] [(1, .pointer (some ⟨g1, 0, none⟩)), (2, .pointer (some ⟨g2, 0, none⟩)), (8, .slice m.A V.ps.length m.a), (12, .slice m.B V.qs.length m.b), (16, .slice m.C V.ts.length m.c), (3, .pointer (some ⟨g3, 0, none⟩)), (9, va), (14, vc)] W := by
      intro g3 va vb vc W hh K hC b3 h3
      refine E.GH.all (rs := [4]) (by rw [hops]; kernel_rfl) (by simp) (E.GHs.cons ((congrArg (fun (o : Array Oper) => o[4]?) hops).trans rfl) ?_ (E.GHs.nil))
      · refine E.GO.st rfl rfl rfl (E.ST.litAt kI v1.heap.size (w0 := v1) (ys := ([] : List Int)) (inner := []) rfl rfl E.epn lit22n (Reps.none _ _) K K.size (by simp) fun u w3 r k l n => ⟨hh.trans (E.gbB l), ?_⟩)
        exact E.GH.meet (S1111001 g3 va u vc w3 (hh.trans (E.gbB l)) k ((hC.s12.make r l n).s12) (blk_below b3 l) h3) (by kernel_rfl) (E.subc rfl (E.subc rfl (E.subc rfl (E.subc rfl (E.subc rfl (E.subc rfl (E.subc rfl (E.subc rfl (E.subc rfl (E.subn))))))))))
    have S1110000 : ∀ (g3 : Nat) (va vb vc : Value) (W : World), v1.grownBy W none → Below v1.heap.size v1 W → E.Cb v1.heap.size W va vb vc [] [] [] → E.GH Try.prog cops cQ 43 (fun W => v1.grownBy W none) 6 #[true, true, true, false, true, true, true, false, true, true, true, false, false, false, false] [(1, .pointer (some ⟨g1, 0, none⟩)), (2, .pointer (some ⟨g2, 0, none⟩)), (8, .slice m.A V.ps.length m.a), (12, .slice m.B V.qs.length m.b), (16, .slice m.C V.ts.length m.c), (6, va), (10, vb), (14, vc)] W := by
      intro g3 va vb vc W hh K hC
      refine E.GH.all (rs := [3, 13]) (by rw [hops]; kernel_rfl) (by simp) (E.GHs.cons ((congrArg (fun (o : Array Oper) => o[3]?) hops).trans rfl) ?_ (E.GHs.cons ((congrArg (fun (o : Array Oper) => o[13]?) hops).trans rfl) ?_ (E.GHs.nil)))
      · refine E.GO.st rfl rfl rfl (E.ST.appendAt kI v1.heap.size (w0 := v1) (s := .tmp 6) (x := .tmp 8) rfl hu22 info3 rfl (by decide) (by decide) rfl rfl hC.a (Kd.C_below hVv.ps K) made22 K K.size (by have := hs.p; simp only [List.length_nil]; omega) fun u w3 r k gr n => ⟨E.gb_row hh gr (fun i hi => Kd.R_base hC.a i hi), ?_⟩)
        rw [List.nil_append] at r
        exact E.GH.meet (S1111000 0 u vb vc w3 (E.gb_row hh gr (fun i hi => Kd.R_base hC.a i hi)) k ((hC.grow r gr n))) (by kernel_rfl) (E.subc rfl (E.subc rfl (E.subc rfl (E.subc rfl (E.subc rfl (E.subc rfl (E.subc rfl (E.subc rfl (E.subn)))))))))
      · refine E.GO.st rfl rfl rfl (E.ST.alloc rfl info25z fun g3 w3 e3 b3 l3 => ⟨hh.trans (E.gbB l3), ?_⟩)
        exact E.GH.meet (S1110001 g3 va vb vc w3 (hh.trans (E.gbB l3)) (below_step K l3) (hC.below l3) b3 (by rw [e3]; exact K.size)) (by kernel_rfl) (E.subc rfl (E.subc rfl (E.subc rfl (E.subc rfl (E.subc rfl (E.subc rfl (E.subc rfl (E.subc rfl (E.subc rfl (E.subn))))))))))
    have S1101000 : ∀ (g3 : Nat) (va vb vc : Value) (W : World), v1.grownBy W none → Below v1.heap.size v1 W → E.Cb v1.heap.size W va vb (.slice none 0 0) V.ps [] [] → E.GH Try.prog cops cQ 43 (fun W => v1.grownBy W none) 6 #[true, true, true, true, true, true, true, false, false, true, true, false, false, false, false] [(1, .pointer (some ⟨g1, 0, none⟩)), (2, .pointer (some ⟨g2, 0, none⟩)), (8, .slice m.A V.ps.length m.a), (12, .slice m.B V.qs.length m.b), (16, .slice m.C V.ts.length m.c), (9, va), (10, vb)] W := by
      intro g3 va vb vc W hh K hC
      refine E.GH.all (rs := [7, 8, 13]) (by rw [hops]; kernel_rfl) (by simp) (E.GHs.cons ((congrArg (fun (o : Array Oper) => o[7]?) hops).trans rfl) ?_ (E.GHs.cons ((congrArg (fun (o : Array Oper) => o[8]?) hops).trans rfl) ?_ (E.GHs.cons ((congrArg (fun (o : Array Oper) => o[13]?) hops).trans rfl) ?_ (E.GHs.nil))))
      · refine E.GO.st rfl rfl rfl (E.ST.appendAt kI v1.heap.size (w0 := v1) (s := .tmp 10) (x := .tmp 12) rfl hu22 info3 rfl (by decide) (by decide) rfl rfl hC.b (Kd.C_below hVv.qs K) made22 K K.size (by have := hs.q; simp only [List.length_nil]; omega) fun u w3 r k gr n => ⟨E.gb_row hh gr (fun i hi => Kd.R_base hC.b i hi), ?_⟩)
        rw [List.nil_append] at r
        exact E.GH.meet (S1101100 0 va u vc w3 (E.gb_row hh gr (fun i hi => Kd.R_base hC.b i hi)) k ((hC.s12.grow r gr n).s12)) (by kernel_rfl) (E.subc rfl (E.subc rfl (E.subc rfl (E.subc rfl (E.subc rfl (E.subc rfl (E.subc rfl (E.subn))))))))
      · refine E.GO.st rfl rfl rfl (E.ST.litAt kI v1.heap.size (w0 := v1) (ys := ([] : List Int)) (inner := []) rfl rfl E.epn lit22n (Reps.none _ _) K K.size (by simp) fun u w3 r k l n => ⟨hh.trans (E.gbB l), ?_⟩)
        exact E.GH.meet (S1111000 0 va vb u w3 (hh.trans (E.gbB l)) k ((hC.s13.make r l n).s13)) (by kernel_rfl) (E.subc rfl (E.subc rfl (E.subc rfl (E.subc rfl (E.subc rfl (E.subc rfl (E.subc rfl (E.subc rfl (E.subn)))))))))
      · refine E.GO.st rfl rfl rfl (E.ST.alloc rfl info25z fun g3 w3 e3 b3 l3 => ⟨hh.trans (E.gbB l3), ?_⟩)
        exact E.GH.meet (S1101001 g3 va vb vc w3 (hh.trans (E.gbB l3)) (below_step K l3) (hC.below l3) b3 (by rw [e3]; exact K.size)) (by kernel_rfl) (E.subc rfl (E.subc rfl (E.subc rfl (E.subc rfl (E.subc rfl (E.subc rfl (E.subc rfl (E.subc rfl (E.subn)))))))))
    have S1100001 : ∀ (g3 : Nat) (va vb vc : Value) (W : World), v1.grownBy W none → Below v1.heap.size v1 W → E.Cb v1.heap.size W va vb (.slice none 0 0) [] [] [] → W.heap[g3]? = some (.cells #[.slice none 0 0, .slice none 0 0, .slice none 0 0, .slice none 0 0] 25 (0, 0)) → v1.heap.size ≤ g3 → E.GH Try.prog cops cQ 43 (fun W => v1.grownBy W none) 6 #[true, true, true, false, true, true, true, false, false, true, true, false, false, true, false] [(1, .pointer (some ⟨g1, 0, none⟩)), (2, .pointer (some ⟨g2, 0, none⟩)), (8, .slice m.A V.ps.length m.a), (12, .slice m.B V.qs.length m.b), (16, .slice m.C V.ts.length m.c), (3, .pointer (some ⟨g3, 0, none⟩)), (6, va), (10, vb)] W := by
      intro g3 va vb vc W hh K hC b3 h3
      refine E.GH.all (rs := [3, 8]) (by rw [hops]; kernel_rfl) (by simp) (E.GHs.cons ((congrArg (fun (o : Array Oper) => o[3]?) hops).trans rfl) ?_ (E.GHs.cons ((congrArg (fun (o : Array Oper) => o[8]?) hops).trans rfl) ?_ (E.GHs.nil)))
      · refine E.GO.st rfl rfl rfl (E.ST.appendAt kI v1.heap.size (w0 := v1) (s := .tmp 6) (x := .tmp 8) rfl hu22 info3 rfl (by decide) (by decide) rfl rfl hC.a (Kd.C_below hVv.ps K) made22 K K.size (by have := hs.p; simp only [List.length_nil]; omega) fun u w3 r k gr n => ⟨E.gb_row hh gr (fun i hi => Kd.R_base hC.a i hi), ?_⟩)
        rw [List.nil_append] at r
        exact E.GH.meet (S1101001 g3 u vb vc w3 (E.gb_row hh gr (fun i hi => Kd.R_base hC.a i hi)) k ((hC.grow r gr n)) (blk_grown b3 gr (Kd.R_ne hC.a b3 (by decide))) h3) (by kernel_rfl) (E.subc rfl (E.subc rfl (E.subc rfl (E.subc rfl (E.subc rfl (E.subc rfl (E.subc rfl (E.subc rfl (E.subn)))))))))
      · refine E.GO.st rfl rfl rfl (E.ST.litAt kI v1.heap.size (w0 := v1) (ys := ([] : List Int)) (inner := []) rfl rfl E.epn lit22n (Reps.none _ _) K K.size (by simp) fun u w3 r k l n => ⟨hh.trans (E.gbB l), ?_⟩)
        exact E.GH.meet (S1110001 g3 va vb u w3 (hh.trans (E.gbB l)) k ((hC.s13.make r l n).s13) (blk_below b3 l) h3) (by kernel_rfl) (E.subc rfl (E.subc rfl (E.subc rfl (E.subc rfl (E.subc rfl (E.subc rfl (E.subc rfl (E.subc rfl (E.subc rfl (E.subn))))))))))
    have S1011000 : ∀ (g3 : Nat) (va vb vc : Value) (W : World), v1.grownBy W none → Below v1.heap.size v1 W → E.Cb v1.heap.size W va (.slice none 0 0) vc V.ps [] [] → E.GH Try.prog cops cQ 43 (fun W => v1.grownBy W none) 6 #[true, true, true, true, false, true, true, false, true, true, true, false, false, false, false] [(1, .pointer (some ⟨g1, 0, none⟩)), (2, .pointer (some ⟨g2, 0, none⟩)), (8, .slice m.A V.ps.length m.a), (12, .slice m.B V.qs.length m.b), (16, .slice m.C V.ts.length m.c), (9, va), (14, vc)] W := by
      intro g3 va vb vc W hh K hC
      refine E.GH.all (rs := [4, 13]) (by rw [hops]; kernel_rfl) (by simp) (E.GHs.cons ((congrArg (fun (o : Array Oper) => o[4]?) hops).trans rfl) ?_ (E.GHs.cons ((congrArg (fun (o : Array Oper) => o[13]?) hops).trans rfl) ?_ (E.GHs.nil)))
      · refine E.GO.st rfl rfl rfl (E.ST.litAt kI v1.heap.size (w0 := v1) (ys := ([] : List Int)) (inner := []) rfl rfl E.epn lit22n (Reps.none _ _) K K.size (by simp) fun u w3 r k l n => ⟨hh.trans (E.gbB l), ?_⟩)
        exact E.GH.meet (S1111000 0 va u vc w3 (hh.trans (E.gbB l)) k ((hC.s12.make r l n).s12)) (by kernel_rfl) (E.subc rfl (E.subc rfl (E.subc rfl (E.subc rfl (E.subc rfl (E.subc rfl (E.subc rfl (E.subc rfl (E.subn)))))))))
      · refine E.GO.st rfl rfl rfl (E.ST.alloc rfl info25z fun g3 w3 e3 b3 l3 => ⟨hh.trans (E.gbB l3), ?_⟩)
        exact E.GH.meet (S1011001 g3 va vb vc w3 (hh.trans (E.gbB l3)) (below_step K l3) (hC.below l3) b3 (by rw [e3]; exact K.size)) (by kernel_rfl) (E.subc rfl (E.subc rfl (E.subc rfl (E.subc rfl (E.subc rfl (E.subc rfl (E.subc rfl (E.subc rfl (E.subn)))))))))
    have S1010001 : ∀ (g3 : Nat) (va vb vc : Value) (W : World), v1.grownBy W none → Below v1.heap.size v1 W → E.Cb v1.heap.size W va (.slice none 0 0) vc [] [] [] → W.heap[g3]? = some (.cells #[.slice none 0 0, .slice none 0 0, .slice none 0 0, .slice none 0 0] 25 (0, 0)) → v1.heap.size ≤ g3 → E.GH Try.prog cops cQ 43 (fun W => v1.grownBy W none) 6 #[true, true, true, false, false, true, true, false, true, true, true, false, false, true, false] [(1, .pointer (some ⟨g1, 0, none⟩)), (2, .pointer (some ⟨g2, 0, none⟩)), (8, .slice m.A V.ps.length m.a), (12, .slice m.B V.qs.length m.b), (16, .slice m.C V.ts.length m.c), (3, .pointer (some ⟨g3, 0, none⟩)), (6, va), (14, vc)] W := by
      intro g3 va vb vc W hh K hC b3 h3
      refine E.GH.all (rs := [3, 4]) (by rw [hops]; kernel_rfl) (by simp) (E.GHs.cons ((congrArg (fun (o : Array Oper) => o[3]?) hops).trans rfl) ?_ (E.GHs.cons ((congrArg (fun (o : Array Oper) => o[4]?) hops).trans rfl) ?_ (E.GHs.nil)))
      · refine E.GO.st rfl rfl rfl (E.ST.appendAt kI v1.heap.size (w0 := v1) (s := .tmp 6) (x := .tmp 8) rfl hu22 info3 rfl (by decide) (by decide) rfl rfl hC.a (Kd.C_below hVv.ps K) made22 K K.size (by have := hs.p; simp only [List.length_nil]; omega) fun u w3 r k gr n => ⟨E.gb_row hh gr (fun i hi => Kd.R_base hC.a i hi), ?_⟩)
        rw [List.nil_append] at r
        exact E.GH.meet (S1011001 g3 u vb vc w3 (E.gb_row hh gr (fun i hi => Kd.R_base hC.a i hi)) k ((hC.grow r gr n)) (blk_grown b3 gr (Kd.R_ne hC.a b3 (by decide))) h3) (by kernel_rfl) (E.subc rfl (E.subc rfl (E.subc rfl (E.subc rfl (E.subc rfl (E.subc rfl (E.subc rfl (E.subc rfl (E.subn)))))))))
      · refine E.GO.st rfl rfl rfl (E.ST.litAt kI v1.heap.size (w0 := v1) (ys := ([] : List Int)) (inner := []) rfl rfl E.epn lit22n (Reps.none _ _) K K.size (by simp) fun u w3 r k l n => ⟨hh.trans (E.gbB l), ?_⟩)
        exact E.GH.meet (S1110001 g3 va u vc w3 (hh.trans (E.gbB l)) k ((hC.s12.make r l n).s12) (blk_below b3 l) h3) (by kernel_rfl) (E.subc rfl (E.subc rfl (E.subc rfl (E.subc rfl (E.subc rfl (E.subc rfl (E.subc rfl (E.subc rfl (E.subc rfl (E.subn))))))))))
    have S1001001 : ∀ (g3 : Nat) (va vb vc : Value) (W : World), v1.grownBy W none → Below v1.heap.size v1 W → E.Cb v1.heap.size W va (.slice none 0 0) (.slice none 0 0) V.ps [] [] → W.heap[g3]? = some (.cells #[.slice none 0 0, .slice none 0 0, .slice none 0 0, .slice none 0 0] 25 (0, 0)) → v1.heap.size ≤ g3 → E.GH Try.prog cops cQ 43 (fun W => v1.grownBy W none) 6 #[true, true, true, true, false, true, true, false, false, true, true, false, false, true, false] [(1, .pointer (some ⟨g1, 0, none⟩)), (2, .pointer (some ⟨g2, 0, none⟩)), (8, .slice m.A V.ps.length m.a), (12, .slice m.B V.qs.length m.b), (16, .slice m.C V.ts.length m.c), (3, .pointer (some ⟨g3, 0, none⟩)), (9, va)] W := by
      intro g3 va vb vc W hh K hC b3 h3
      refine E.GH.all (rs := [4, 8]) (by rw [hops]; kernel_rfl) (by simp) (E.GHs.cons ((congrArg (fun (o : Array Oper) => o[4]?) hops).trans rfl) ?_ (E.GHs.cons ((congrArg (fun (o : Array Oper) => o[8]?) hops).trans rfl) ?_ (E.GHs.nil)))
      · refine E.GO.st rfl rfl rfl (E.ST.litAt kI v1.heap.size (w0 := v1) (ys := ([] : List Int)) (inner := []) rfl rfl E.epn lit22n (Reps.none _ _) K K.size (by simp) fun u w3 r k l n => ⟨hh.trans (E.gbB l), ?_⟩)
        exact E.GH.meet (S1101001 g3 va u vc w3 (hh.trans (E.gbB l)) k ((hC.s12.make r l n).s12) (blk_below b3 l) h3) (by kernel_rfl) (E.subc rfl (E.subc rfl (E.subc rfl (E.subc rfl (E.subc rfl (E.subc rfl (E.subc rfl (E.subc rfl (E.subn)))))))))
      · refine E.GO.st rfl rfl rfl (E.ST.litAt kI v1.heap.size (w0 := v1) (ys := ([] : List Int)) (inner := []) rfl rfl E.epn lit22n (Reps.none _ _) K K.size (by simp) fun u w3 r k l n => ⟨hh.trans (E.gbB l), ?_⟩)
        exact E.GH.meet (S1011001 g3 va vb u w3 (hh.trans (E.gbB l)) k ((hC.s13.make r l n).s13) (blk_below b3 l) h3) (by kernel_rfl) (E.subc rfl (E.subc rfl (E.subc rfl (E.subc rfl (E.subc rfl (E.subc rfl (E.subc rfl (E.subc rfl (E.subn)))))))))
    have S0110001 : ∀ (g3 : Nat) (va vb vc : Value) (W : World), v1.grownBy W none → Below v1.heap.size v1 W → E.Cb v1.heap.size W (.slice none 0 0) vb vc [] [] [] → W.heap[g3]? = some (.cells #[.slice none 0 0, .slice none 0 0, .slice none 0 0, .slice none 0 0] 25 (0, 0)) → v1.heap.size ≤ g3 → E.GH Try.prog cops cQ 43 (fun W => v1.grownBy W none) 6 #[false, true, true, false, true, true, true, false, true, true, true, false, false, true, false] [(1, .pointer (some ⟨g1, 0, none⟩)), (2, .pointer (some ⟨g2, 0, none⟩)), (8, .slice m.A V.ps.length m.a), (12, .slice m.B V.qs.length m.b), (16, .slice m.C V.ts.length m.c), (3, .pointer (some ⟨g3, 0, none⟩)), (10, vb), (14, vc)] W := by
      intro g3 va vb vc W hh K hC b3 h3
      refine E.GH.all (rs := [0]) (by rw [hops]; kernel_rfl) (by simp) (E.GHs.cons ((congrArg (fun (o : Array Oper) => o[0]?) hops).trans rfl) ?_ (E.GHs.nil))
      · refine E.GO.st rfl rfl rfl (E.ST.litAt kI v1.heap.size (w0 := v1) (ys := ([] : List Int)) (inner := []) rfl rfl E.epn lit22n (Reps.none _ _) K K.size (by simp) fun u w3 r k l n => ⟨hh.trans (E.gbB l), ?_⟩)
        exact E.GH.meet (S1110001 g3 u vb vc w3 (hh.trans (E.gbB l)) k ((hC.make r l n)) (blk_below b3 l) h3) (by kernel_rfl) (E.subc rfl (E.subc rfl (E.subc rfl (E.subc rfl (E.subc rfl (E.subc rfl (E.subc rfl (E.subc rfl (E.subc rfl (E.subn))))))))))
    have S1100000 : ∀ (g3 : Nat) (va vb vc : Value) (W : World), v1.grownBy W none → Below v1.heap.size v1 W → E.Cb v1.heap.size W va vb (.slice none 0 0) [] [] [] → E.GH Try.prog cops cQ 43 (fun W => v1.grownBy W none) 7 #[true, true, true, false, true, true, true, false, false, true, true, false, false, false, false] [(1, .pointer (some ⟨g1, 0, none⟩)), (2, .pointer (some ⟨g2, 0, none⟩)), (8, .slice m.A V.ps.length m.a), (12, .slice m.B V.qs.length m.b), (16, .slice m.C V.ts.length m.c), (6, va), (10, vb)] W := by
      intro g3 va vb vc W hh K hC
      refine E.GH.all (rs := [3, 8, 13]) (by rw [hops]; kernel_rfl) (by simp) (E.GHs.cons ((congrArg (fun (o : Array Oper) => o[3]?) hops).trans rfl) ?_ (E.GHs.cons ((congrArg (fun (o : Array Oper) => o[8]?) hops).trans rfl) ?_ (E.GHs.cons ((congrArg (fun (o : Array Oper) => o[13]?) hops).trans rfl) ?_ (E.GHs.nil))))
      · refine E.GO.st rfl rfl rfl (E.ST.appendAt kI v1.heap.size (w0 := v1) (s := .tmp 6) (x := .tmp 8) rfl hu22 info3 rfl (by decide) (by decide) rfl rfl hC.a (Kd.C_below hVv.ps K) made22 K K.size (by have := hs.p; simp only [List.length_nil]; omega) fun u w3 r k gr n => ⟨E.gb_row hh gr (fun i hi => Kd.R_base hC.a i hi), ?_⟩)
        rw [List.nil_append] at r
        exact E.GH.meet (S1101000 0 u vb vc w3 (E.gb_row hh gr (fun i hi => Kd.R_base hC.a i hi)) k ((hC.grow r gr n))) (by kernel_rfl) (E.subc rfl (E.subc rfl (E.subc rfl (E.subc rfl (E.subc rfl (E.subc rfl (E.subc rfl (E.subn))))))))
      · refine E.GO.st rfl rfl rfl (E.ST.litAt kI v1.heap.size (w0 := v1) (ys := ([] : List Int)) (inner := []) rfl rfl E.epn lit22n (Reps.none _ _) K K.size (by simp) fun u w3 r k l n => ⟨hh.trans (E.gbB l), ?_⟩)
        exact E.GH.meet (S1110000 0 va vb u w3 (hh.trans (E.gbB l)) k ((hC.s13.make r l n).s13)) (by kernel_rfl) (E.subc rfl (E.subc rfl (E.subc rfl (E.subc rfl (E.subc rfl (E.subc rfl (E.subc rfl (E.subc rfl (E.subn)))))))))
      · refine E.GO.st rfl rfl rfl (E.ST.alloc rfl info25z fun g3 w3 e3 b3 l3 => ⟨hh.trans (E.gbB l3), ?_⟩)
        exact E.GH.meet (S1100001 g3 va vb vc w3 (hh.trans (E.gbB l3)) (below_step K l3) (hC.below l3) b3 (by rw [e3]; exact K.size)) (by kernel_rfl) (E.subc rfl (E.subc rfl (E.subc rfl (E.subc rfl (E.subc rfl (E.subc rfl (E.subc rfl (E.subc rfl (E.subn)))))))))
    have S1010000 : ∀ (g3 : Nat) (va vb vc : Value) (W : World), v1.grownBy W none → Below v1.heap.size v1 W → E.Cb v1.heap.size W va (.slice none 0 0) vc [] [] [] → E.GH Try.prog cops cQ 43 (fun W => v1.grownBy W none) 7 #[true, true, true, false, false, true, true, false, true, true, true, false, false, false, false] [(1, .pointer (some ⟨g1, 0, none⟩)), (2, .pointer (some ⟨g2, 0, none⟩)), (8, .slice m.A V.ps.length m.a), (12, .slice m.B V.qs.length m.b), (16, .slice m.C V.ts.length m.c), (6, va), (14, vc)] W := by
      intro g3 va vb vc W hh K hC
      refine E.GH.all (rs := [3, 4, 13]) (by rw [hops]; kernel_rfl) (by simp) (E.GHs.cons ((congrArg (fun (o : Array Oper) => o[3]?) hops).trans rfl) ?_ (E.GHs.cons ((congrArg (fun (o : Array Oper) => o[4]?) hops).trans rfl) ?_ (E.GHs.cons ((congrArg (fun (o : Array Oper) => o[13]?) hops).trans rfl) ?_ (E.GHs.nil))))
      · refine E.GO.st rfl rfl rfl (E.ST.appendAt kI v1.heap.size (w0 := v1) (s := .tmp 6) (x := .tmp 8) rfl hu22 info3 rfl (by decide) (by decide) rfl rfl hC.a (Kd.C_below hVv.ps K) made22 K K.size (by have := hs.p; simp only [List.length_nil]; omega) fun u w3 r k gr n => ⟨E.gb_row hh gr (fun i hi => Kd.R_base hC.a i hi), ?_⟩)
        rw [List.nil_append] at r
        exact E.GH.meet (S1011000 0 u vb vc w3 (E.gb_row hh gr (fun i hi => Kd.R_base hC.a i hi)) k ((hC.grow r gr n))) (by kernel_rfl) (E.subc rfl (E.subc rfl (E.subc rfl (E.subc rfl (E.subc rfl (E.subc rfl (E.subc rfl (E.subn))))))))
      · refine E.GO.st rfl rfl rfl (E.ST.litAt kI v1.heap.size (w0 := v1) (ys := ([] : List Int)) (inner := []) rfl rfl E.epn lit22n (Reps.none _ _) K K.size (by simp) fun u w3 r k l n => ⟨hh.trans (E.gbB l), ?_⟩)
        exact E.GH.meet (S1110000 0 va u vc w3 (hh.trans (E.gbB l)) k ((hC.s12.make r l n).s12)) (by kernel_rfl) (E.subc rfl (E.subc rfl (E.subc rfl (E.subc rfl (E.subc rfl (E.subc rfl (E.subc rfl (E.subc rfl (E.subn)))))))))
      · refine E.GO.st rfl rfl rfl (E.ST.alloc rfl info25z fun g3 w3 e3 b3 l3 => ⟨hh.trans (E.gbB l3), ?_⟩)
        exact E.GH.meet (S1010001 g3 va vb vc w3 (hh.trans (E.gbB l3)) (below_step K l3) (hC.below l3) b3 (by rw [e3]; exact K.size)) (by kernel_rfl) (E.subc rfl (E.subc rfl (E.subc rfl (E.subc rfl (E.subc rfl (E.subc rfl (E.subc rfl (E.subc rfl (E.subn)))))))))
    have S1001000 : ∀ (g3 : Nat) (va vb vc : Value) (W : World), v1.grownBy W none → Below v1.heap.size v1 W → E.Cb v1.heap.size W va (.slice none 0 0) (.slice none 0 0) V.ps [] [] → E.GH Try.prog cops cQ 43 (fun W => v1.grownBy W none) 7 #[true, true, true, true, false, true, true, false, false, true, true, false, false, false, false] [(1, .pointer (some ⟨g1, 0, none⟩)), (2, .pointer (some ⟨g2, 0, none⟩)), (8, .slice m.A V.ps.length m.a), (12, .slice m.B V.qs.length m.b), (16, .slice m.C V.ts.length m.c), (9, va)] W := by
      intro g3 va vb vc W hh K hC
      refine E.GH.all (rs := [4, 8, 13]) (by rw [hops]; kernel_rfl) (by simp) (E.GHs.cons ((congrArg (fun (o : Array Oper) => o[4]?) hops).trans rfl) ?_ (E.GHs.cons ((congrArg (fun (o : Array Oper) => o[8]?) hops).trans rfl) ?_ (E.GHs.cons ((congrArg (fun (o : Array Oper) => o[13]?) hops).trans rfl) ?_ (E.GHs.nil))))
      · refine E.GO.st rfl rfl rfl (E.ST.litAt kI v1.heap.size (w0 := v1) (ys := ([] : List Int)) (inner := []) rfl rfl E.epn lit22n (Reps.none _ _) K K.size (by simp) fun u w3 r k l n => ⟨hh.trans (E.gbB l), ?_⟩)
        exact E.GH.meet (S1101000 0 va u vc w3 (hh.trans (E.gbB l)) k ((hC.s12.make r l n).s12)) (by kernel_rfl) (E.subc rfl (E.subc rfl (E.subc rfl (E.subc rfl (E.subc rfl (E.subc rfl (E.subc rfl (E.subn))))))))
      · refine E.GO.st rfl rfl rfl (E.ST.litAt kI v1.heap.size (w0 := v1) (ys := ([] : List Int)) (inner := []) rfl rfl E.epn lit22n (Reps.none _ _) K K.size (by simp) fun u w3 r k l n => ⟨hh.trans (E.gbB l), ?_⟩)
        exact E.GH.meet (S1011000 0 va vb u w3 (hh.trans (E.gbB l)) k ((hC.s13.make r l n).s13)) (by kernel_rfl) (E.subc rfl (E.subc rfl (E.subc rfl (E.subc rfl (E.subc rfl (E.subc rfl (E.subc rfl (E.subn))))))))
      · refine E.GO.st rfl rfl rfl (E.ST.alloc rfl info25z fun g3 w3 e3 b3 l3 => ⟨hh.trans (E.gbB l3), ?_⟩)
        exact E.GH.meet (S1001001 g3 va vb vc w3 (hh.trans (E.gbB l3)) (below_step K l3) (hC.below l3) b3 (by rw [e3]; exact K.size)) (by kernel_rfl) (E.subc rfl (E.subc rfl (E.subc rfl (E.subc rfl (E.subc rfl (E.subc rfl (E.subc rfl (E.subn))))))))
    have S1000001 : ∀ (g3 : Nat) (va vb vc : Value) (W : World), v1.grownBy W none → Below v1.heap.size v1 W → E.Cb v1.heap.size W va (.slice none 0 0) (.slice none 0 0) [] [] [] → W.heap[g3]? = some (.cells #[.slice none 0 0, .slice none 0 0, .slice none 0 0, .slice none 0 0] 25 (0, 0)) → v1.heap.size ≤ g3 → E.GH Try.prog cops cQ 43 (fun W => v1.grownBy W none) 7 #[true, true, true, false, false, true, true, false, false, true, true, false, false, true, false] [(1, .pointer (some ⟨g1, 0, none⟩)), (2, .pointer (some ⟨g2, 0, none⟩)), (8, .slice m.A V.ps.length m.a), (12, .slice m.B V.qs.length m.b), (16, .slice m.C V.ts.length m.c), (3, .pointer (some ⟨g3, 0, none⟩)), (6, va)] W := by
      intro g3 va vb vc W hh K hC b3 h3
      refine E.GH.all (rs := [3, 4, 8]) (by rw [hops]; kernel_rfl) (by simp) (E.GHs.cons ((congrArg (fun (o : Array Oper) => o[3]?) hops).trans rfl) ?_ (E.GHs.cons ((congrArg (fun (o : Array Oper) => o[4]?) hops).trans rfl) ?_ (E.GHs.cons ((congrArg (fun (o : Array Oper) => o[8]?) hops).trans rfl) ?_ (E.GHs.nil))))
      · refine E.GO.st rfl rfl rfl (E.ST.appendAt kI v1.heap.size (w0 := v1) (s := .tmp 6) (x := .tmp 8) rfl hu22 info3 rfl (by decide) (by decide) rfl rfl hC.a (Kd.C_below hVv.ps K) made22 K K.size (by have := hs.p; simp only [List.length_nil]; omega) fun u w3 r k gr n => ⟨E.gb_row hh gr (fun i hi => Kd.R_base hC.a i hi), ?_⟩)
        rw [List.nil_append] at r
        exact E.GH.meet (S1001001 g3 u vb vc w3 (E.gb_row hh gr (fun i hi => Kd.R_base hC.a i hi)) k ((hC.grow r gr n)) (blk_grown b3 gr (Kd.R_ne hC.a b3 (by decide))) h3) (by kernel_rfl) (E.subc rfl (E.subc rfl (E.subc rfl (E.subc rfl (E.subc rfl (E.subc rfl (E.subc rfl (E.subn))))))))
      · refine E.GO.st rfl rfl rfl (E.ST.litAt kI v1.heap.size (w0 := v1) (ys := ([] : List Int)) (inner := []) rfl rfl E.epn lit22n (Reps.none _ _) K K.size (by simp) fun u w3 r k l n => ⟨hh.trans (E.gbB l), ?_⟩)
        exact E.GH.meet (S1100001 g3 va u vc w3 (hh.trans (E.gbB l)) k ((hC.s12.make r l n).s12) (blk_below b3 l) h3) (by kernel_rfl) (E.subc rfl (E.subc rfl (E.subc rfl (E.subc rfl (E.subc rfl (E.subc rfl (E.subc rfl (E.subc rfl (E.subn)))))))))
      · refine E.GO.st rfl rfl rfl (E.ST.litAt kI v1.heap.size (w0 := v1) (ys := ([] : List Int)) (inner := []) rfl rfl E.epn lit22n (Reps.none _ _) K K.size (by simp) fun u w3 r k l n => ⟨hh.trans (E.gbB l), ?_⟩)
        exact E.GH.meet (S1010001 g3 va vb u w3 (hh.trans (E.gbB l)) k ((hC.s13.make r l n).s13) (blk_below b3 l) h3) (by kernel_rfl) (E.subc rfl (E.subc rfl (E.subc rfl (E.subc rfl (E.subc rfl (E.subc rfl (E.subc rfl (E.subc rfl (E.subn)))))))))
    have S0110000 : ∀ (g3 : Nat) (va vb vc : Value) (W : World), v1.grownBy W none → Below v1.heap.size v1 W → E.Cb v1.heap.size W (.slice none 0 0) vb vc [] [] [] → E.GH Try.prog cops cQ 43 (fun W => v1.grownBy W none) 7 #[false, true, true, false, true, true, true, false, true, true, true, false, false, false, false] [(1, .pointer (some ⟨g1, 0, none⟩)), (2, .pointer (some ⟨g2, 0, none⟩)), (8, .slice m.A V.ps.length m.a), (12, .slice m.B V.qs.length m.b), (16, .slice m.C V.ts.length m.c), (10, vb), (14, vc)] W := by
      intro g3 va vb vc W hh K hC
      refine E.GH.all (rs := [0, 13]) (by rw [hops]; kernel_rfl) (by simp) (E.GHs.cons ((congrArg (fun (o : Array Oper) => o[0]?) hops).trans rfl) ?_ (E.GHs.cons ((congrArg (fun (o : Array Oper) => o[13]?) hops).trans rfl) ?_ (E.GHs.nil)))
      · refine E.GO.st rfl rfl rfl (E.ST.litAt kI v1.heap.size (w0 := v1) (ys := ([] : List Int)) (inner := []) rfl rfl E.epn lit22n (Reps.none _ _) K K.size (by simp) fun u w3 r k l n => ⟨hh.trans (E.gbB l), ?_⟩)
        exact E.GH.meet (S1110000 0 u vb vc w3 (hh.trans (E.gbB l)) k ((hC.make r l n))) (by kernel_rfl) (E.subc rfl (E.subc rfl (E.subc rfl (E.subc rfl (E.subc rfl (E.subc rfl (E.subc rfl (E.subc rfl (E.subn)))))))))
      · refine E.GO.st rfl rfl rfl (E.ST.alloc rfl info25z fun g3 w3 e3 b3 l3 => ⟨hh.trans (E.gbB l3), ?_⟩)
        exact E.GH.meet (S0110001 g3 va vb vc w3 (hh.trans (E.gbB l3)) (below_step K l3) (hC.below l3) b3 (by rw [e3]; exact K.size)) (by kernel_rfl) (E.subc rfl (E.subc rfl (E.subc rfl (E.subc rfl (E.subc rfl (E.subc rfl (E.subc rfl (E.subc rfl (E.subn)))))))))
    have S0100001 : ∀ (g3 : Nat) (va vb vc : Value) (W : World), v1.grownBy W none → Below v1.heap.size v1 W → E.Cb v1.heap.size W (.slice none 0 0) vb (.slice none 0 0) [] [] [] → W.heap[g3]? = some (.cells #[.slice none 0 0, .slice none 0 0, .slice none 0 0, .slice none 0 0] 25 (0, 0)) → v1.heap.size ≤ g3 → E.GH Try.prog cops cQ 43 (fun W => v1.grownBy W none) 7 #[false, true, true, false, true, true, true, false, false, true, true, false, false, true, false] [(1, .pointer (some ⟨g1, 0, none⟩)), (2, .pointer (some ⟨g2, 0, none⟩)), (8, .slice m.A V.ps.length m.a), (12, .slice m.B V.qs.length m.b), (16, .slice m.C V.ts.length m.c), (3, .pointer (some ⟨g3, 0, none⟩)), (10, vb)] W := by
      intro g3 va vb vc W hh K hC b3 h3
      refine E.GH.all (rs := [0, 8]) (by rw [hops]; kernel_rfl) (by simp) (E.GHs.cons ((congrArg (fun (o : Array Oper) => o[0]?) hops).trans rfl) ?_ (E.GHs.cons ((congrArg (fun (o : Array Oper) => o[8]?) hops).trans rfl) ?_ (E.GHs.nil)))
      · refine E.GO.st rfl rfl rfl (E.ST.litAt kI v1.heap.size (w0 := v1) (ys := ([] : List Int)) (inner := []) rfl rfl E.epn lit22n (Reps.none _ _) K K.size (by simp) fun u w3 r k l n => ⟨hh.trans (E.gbB l), ?_⟩)
        exact E.GH.meet (S1100001 g3 u vb vc w3 (hh.trans (E.gbB l)) k ((hC.make r l n)) (blk_below b3 l) h3) (by kernel_rfl) (E.subc rfl (E.subc rfl (E.subc rfl (E.subc rfl (E.subc rfl (E.subc rfl (E.subc rfl (E.subc rfl (E.subn)))))))))
      · refine E.GO.st rfl rfl rfl (E.ST.litAt kI v1.heap.size (w0 := v1) (ys := ([] : List Int)) (inner := []) rfl rfl E.epn lit22n (Reps.none _ _) K K.size (by simp) fun u w3 r k l n => ⟨hh.trans (E.gbB l), ?_⟩)
        exact E.GH.meet (S0110001 g3 va vb u w3 (hh.trans (E.gbB l)) k ((hC.s13.make r l n).s13) (blk_below b3 l) h3) (by kernel_rfl) (E.subc rfl (E.subc rfl (E.subc rfl (E.subc rfl (E.subc rfl (E.subc rfl (E.subc rfl (E.subc rfl (E.subn)))))))))
    have S0010001 : ∀ (g3 : Nat) (va vb vc : Value) (W : World), v1.grownBy W none → Below v1.heap.size v1 W → E.Cb v1.heap.size W (.slice none 0 0) (.slice none 0 0) vc [] [] [] → W.heap[g3]? = some (.cells #[.slice none 0 0, .slice none 0 0, .slice none 0 0, .slice none 0 0] 25 (0, 0)) → v1.heap.size ≤ g3 → E.GH Try.prog cops cQ 43 (fun W => v1.grownBy W none) 7 #[false, true, true, false, false, true, true, false, true, true, true, false, false, true, false] [(1, .pointer (some ⟨g1, 0, none⟩)), (2, .pointer (some ⟨g2, 0, none⟩)), (8, .slice m.A V.ps.length m.a), (12, .slice m.B V.qs.length m.b), (16, .slice m.C V.ts.length m.c), (3, .pointer (some ⟨g3, 0, none⟩)), (14, vc)] W := by
      intro g3 va vb vc W hh K hC b3 h3
      refine E.GH.all (rs := [0, 4]) (by rw [hops]; kernel_rfl) (by simp) (E.GHs.cons ((congrArg (fun (o : Array Oper) => o[0]?) hops).trans rfl) ?_ (E.GHs.cons ((congrArg (fun (o : Array Oper) => o[4]?) hops).trans rfl) ?_ (E.GHs.nil)))
      · refine E.GO.st rfl rfl rfl (E.ST.litAt kI v1.heap.size (w0 := v1) (ys := ([] : List Int)) (inner := []) rfl rfl E.epn lit22n (Reps.none _ _) K K.size (by simp) fun u w3 r k l n => ⟨hh.trans (E.gbB l), ?_⟩)
        exact E.GH.meet (S1010001 g3 u vb vc w3 (hh.trans (E.gbB l)) k ((hC.make r l n)) (blk_below b3 l) h3) (by kernel_rfl) (E.subc rfl (E.subc rfl (E.subc rfl (E.subc rfl (E.subc rfl (E.subc rfl (E.subc rfl (E.subc rfl (E.subn)))))))))
      · refine E.GO.st rfl rfl rfl (E.ST.litAt kI v1.heap.size (w0 := v1) (ys := ([] : List Int)) (inner := []) rfl rfl E.epn lit22n (Reps.none _ _) K K.size (by simp) fun u w3 r k l n => ⟨hh.trans (E.gbB l), ?_⟩)
        exact E.GH.meet (S0110001 g3 va u vc w3 (hh.trans (E.gbB l)) k ((hC.s12.make r l n).s12) (blk_below b3 l) h3) (by kernel_rfl) (E.subc rfl (E.subc rfl (E.subc rfl (E.subc rfl (E.subc rfl (E.subc rfl (E.subc rfl (E.subc rfl (E.subn)))))))))
    have S1000000 : ∀ (g3 : Nat) (va vb vc : Value) (W : World), v1.grownBy W none → Below v1.heap.size v1 W → E.Cb v1.heap.size W va (.slice none 0 0) (.slice none 0 0) [] [] [] → E.GH Try.prog cops cQ 43 (fun W => v1.grownBy W none) 8 #[true, true, true, false, false, true, true, false, false, true, true, false, false, false, false] [(1, .pointer (some ⟨g1, 0, none⟩)), (2, .pointer (some ⟨g2, 0, none⟩)), (8, .slice m.A V.ps.length m.a), (12, .slice m.B V.qs.length m.b), (16, .slice m.C V.ts.length m.c), (6, va)] W := by
      intro g3 va vb vc W hh K hC
      refine E.GH.all (rs := [3, 4, 8, 13]) (by rw [hops]; kernel_rfl) (by simp) (E.GHs.cons ((congrArg (fun (o : Array Oper) => o[3]?) hops).trans rfl) ?_ (E.GHs.cons ((congrArg (fun (o : Array Oper) => o[4]?) hops).trans rfl) ?_ (E.GHs.cons ((congrArg (fun (o : Array Oper) => o[8]?) hops).trans rfl) ?_ (E.GHs.cons ((congrArg (fun (o : Array Oper) => o[13]?) hops).trans rfl) ?_ (E.GHs.nil)))))
      · refine E.GO.st rfl rfl rfl (E.ST.appendAt kI v1.heap.size (w0 := v1) (s := .tmp 6) (x := .tmp 8) rfl hu22 info3 rfl (by decide) (by decide) rfl rfl hC.a (Kd.C_below hVv.ps K) made22 K K.size (by have := hs.p; simp only [List.length_nil]; omega) fun u w3 r k gr n => ⟨E.gb_row hh gr (fun i hi => Kd.R_base hC.a i hi), ?_⟩)
        rw [List.nil_append] at r
        exact E.GH.meet (S1001000 0 u vb vc w3 (E.gb_row hh gr (fun i hi => Kd.R_base hC.a i hi)) k ((hC.grow r gr n))) (by kernel_rfl) (E.subc rfl (E.subc rfl (E.subc rfl (E.subc rfl (E.subc rfl (E.subc rfl (E.subn)))))))
      · refine E.GO.st rfl rfl rfl (E.ST.litAt kI v1.heap.size (w0 := v1) (ys := ([] : List Int)) (inner := []) rfl rfl E.epn lit22n (Reps.none _ _) K K.size (by simp) fun u w3 r k l n => ⟨hh.trans (E.gbB l), ?_⟩)
        exact E.GH.meet (S1100000 0 va u vc w3 (hh.trans (E.gbB l)) k ((hC.s12.make r l n).s12)) (by kernel_rfl) (E.subc rfl (E.subc rfl (E.subc rfl (E.subc rfl (E.subc rfl (E.subc rfl (E.subc rfl (E.subn))))))))
      · refine E.GO.st rfl rfl rfl (E.ST.litAt kI v1.heap.size (w0 := v1) (ys := ([] : List Int)) (inner := []) rfl rfl E.epn lit22n (Reps.none _ _) K K.size (by simp) fun u w3 r k l n => ⟨hh.trans (E.gbB l), ?_⟩)
        exact E.GH.meet (S1010000 0 va vb u w3 (hh.trans (E.gbB l)) k ((hC.s13.make r l n).s13)) (by kernel_rfl) (E.subc rfl (E.subc rfl (E.subc rfl (E.subc rfl (E.subc rfl (E.subc rfl (E.subc rfl (E.subn))))))))
      · refine E.GO.st rfl rfl rfl (E.ST.alloc rfl info25z fun g3 w3 e3 b3 l3 => ⟨hh.trans (E.gbB l3), ?_⟩)
        exact E.GH.meet (S1000001 g3 va vb vc w3 (hh.trans (E.gbB l3)) (below_step K l3) (hC.below l3) b3 (by rw [e3]; exact K.size)) (by kernel_rfl) (E.subc rfl (E.subc rfl (E.subc rfl (E.subc rfl (E.subc rfl (E.subc rfl (E.subc rfl (E.subn))))))))
    have S0100000 : ∀ (g3 : Nat) (va vb vc : Value) (W : World), v1.grownBy W none → Below v1.heap.size v1 W → E.Cb v1.heap.size W (.slice none 0 0) vb (.slice none 0 0) [] [] [] → E.GH Try.prog cops cQ 43 (fun W => v1.grownBy W none) 8 #[false, true, true, false, true, true, true, false, false, true, true, false, false, false, false] [(1, .pointer (some ⟨g1, 0, none⟩)), (2, .pointer (some ⟨g2, 0, none⟩)), (8, .slice m.A V.ps.length m.a), (12, .slice m.B V.qs.length m.b), (16, .slice m.C V.ts.length m.c), (10, vb)] W := by
      intro g3 va vb vc W hh K hC
      refine E.GH.all (rs := [0, 8, 13]) (by rw [hops]; kernel_rfl) (by simp) (E.GHs.cons ((congrArg (fun (o : Array Oper) => o[0]?) hops).trans rfl) ?_ (E.GHs.cons ((congrArg (fun (o : Array Oper) => o[8]?) hops).trans rfl) ?_ (E.GHs.cons ((congrArg (fun (o : Array Oper) => o[13]?) hops).trans rfl) ?_ (E.GHs.nil))))
      · refine E.GO.st rfl rfl rfl (E.ST.litAt kI v1.heap.size (w0 := v1) (ys := ([] : List Int)) (inner := []) rfl rfl E.epn lit22n (Reps.none _ _) K K.size (by simp) fun u w3 r k l n => ⟨hh.trans (E.gbB l), ?_⟩)
        exact E.GH.meet (S1100000 0 u vb vc w3 (hh.trans (E.gbB l)) k ((hC.make r l n))) (by kernel_rfl) (E.subc rfl (E.subc rfl (E.subc rfl (E.subc rfl (E.subc rfl (E.subc rfl (E.subc rfl (E.subn))))))))
      · refine E.GO.st rfl rfl rfl (E.ST.litAt kI v1.heap.size (w0 := v1) (ys := ([] : List Int)) (inner := []) rfl rfl E.epn lit22n (Reps.none _ _) K K.size (by simp) fun u w3 r k l n => ⟨hh.trans (E.gbB l), ?_⟩)
        exact E.GH.meet (S0110000 0 va vb u w3 (hh.trans (E.gbB l)) k ((hC.s13.make r l n).s13)) (by kernel_rfl) (E.subc rfl (E.subc rfl (E.subc rfl (E.subc rfl (E.subc rfl (E.subc rfl (E.subc rfl (E.subn))))))))
      · refine E.GO.st rfl rfl rfl (E.ST.alloc rfl info25z fun g3 w3 e3 b3 l3 => ⟨hh.trans (E.gbB l3), ?_⟩)
        exact E.GH.meet (S0100001 g3 va vb vc w3 (hh.trans (E.gbB l3)) (below_step K l3) (hC.below l3) b3 (by rw [e3]; exact K.size)) (by kernel_rfl) (E.subc rfl (E.subc rfl (E.subc rfl (E.subc rfl (E.subc rfl (E.subc rfl (E.subc rfl (E.subn))))))))
    have S0010000 : ∀ (g3 : Nat) (va vb vc : Value) (W : World), v1.grownBy W none → Below v1.heap.size v1 W → E.Cb v1.heap.size W (.slice none 0 0) (.slice none 0 0) vc [] [] [] → E.GH Try.prog cops cQ 43 (fun W => v1.grownBy W none) 8 #[false, true, true, false, false, true, true, false, true, true, true, false, false, false, false] [(1, .pointer (some ⟨g1, 0, none⟩)), (2, .pointer (some ⟨g2, 0, none⟩)), (8, .slice m.A V.ps.length m.a), (12, .slice m.B V.qs.length m.b), (16, .slice m.C V.ts.length m.c), (14, vc)] W := by
      intro g3 va vb vc W hh K hC
      refine E.GH.all (rs := [0, 4, 13]) (by rw [hops]; kernel_rfl) (by simp) (E.GHs.cons ((congrArg (fun (o : Array Oper) => o[0]?) hops).trans rfl) ?_ (E.GHs.cons ((congrArg (fun (o : Array Oper) => o[4]?) hops).trans rfl) ?_ (E.GHs.cons ((congrArg (fun (o : Array Oper) => o[13]?) hops).trans rfl) ?_ (E.GHs.nil))))
      · refine E.GO.st rfl rfl rfl (E.ST.litAt kI v1.heap.size (w0 := v1) (ys := ([] : List Int)) (inner := []) rfl rfl E.epn lit22n (Reps.none _ _) K K.size (by simp) fun u w3 r k l n => ⟨hh.trans (E.gbB l), ?_⟩)
        exact E.GH.meet (S1010000 0 u vb vc w3 (hh.trans (E.gbB l)) k ((hC.make r l n))) (by kernel_rfl) (E.subc rfl (E.subc rfl (E.subc rfl (E.subc rfl (E.subc rfl (E.subc rfl (E.subc rfl (E.subn))))))))
      · refine E.GO.st rfl rfl rfl (E.ST.litAt kI v1.heap.size (w0 := v1) (ys := ([] : List Int)) (inner := []) rfl rfl E.epn lit22n (Reps.none _ _) K K.size (by simp) fun u w3 r k l n => ⟨hh.trans (E.gbB l), ?_⟩)
        exact E.GH.meet (S0110000 0 va u vc w3 (hh.trans (E.gbB l)) k ((hC.s12.make r l n).s12)) (by kernel_rfl) (E.subc rfl (E.subc rfl (E.subc rfl (E.subc rfl (E.subc rfl (E.subc rfl (E.subc rfl (E.subn))))))))
      · refine E.GO.st rfl rfl rfl (E.ST.alloc rfl info25z fun g3 w3 e3 b3 l3 => ⟨hh.trans (E.gbB l3), ?_⟩)
        exact E.GH.meet (S0010001 g3 va vb vc w3 (hh.trans (E.gbB l3)) (below_step K l3) (hC.below l3) b3 (by rw [e3]; exact K.size)) (by kernel_rfl) (E.subc rfl (E.subc rfl (E.subc rfl (E.subc rfl (E.subc rfl (E.subc rfl (E.subc rfl (E.subn))))))))
    have S0000001 : ∀ (g3 : Nat) (va vb vc : Value) (W : World), v1.grownBy W none → Below v1.heap.size v1 W → E.Cb v1.heap.size W (.slice none 0 0) (.slice none 0 0) (.slice none 0 0) [] [] [] → W.heap[g3]? = some (.cells #[.slice none 0 0, .slice none 0 0, .slice none 0 0, .slice none 0 0] 25 (0, 0)) → v1.heap.size ≤ g3 → E.GH Try.prog cops cQ 43 (fun W => v1.grownBy W none) 8 #[false, true, true, false, false, true, true, false, false, true, true, false, false, true, false] [(1, .pointer (some ⟨g1, 0, none⟩)), (2, .pointer (some ⟨g2, 0, none⟩)), (8, .slice m.A V.ps.length m.a), (12, .slice m.B V.qs.length m.b), (16, .slice m.C V.ts.length m.c), (3, .pointer (some ⟨g3, 0, none⟩))] W := by
      intro g3 va vb vc W hh K hC b3 h3
      refine E.GH.all (rs := [0, 4, 8]) (by rw [hops]; kernel_rfl) (by simp) (E.GHs.cons ((congrArg (fun (o : Array Oper) => o[0]?) hops).trans rfl) ?_ (E.GHs.cons ((congrArg (fun (o : Array Oper) => o[4]?) hops).trans rfl) ?_ (E.GHs.cons ((congrArg (fun (o : Array Oper) => o[8]?) hops).trans rfl) ?_ (E.GHs.nil))))
      · refine E.GO.st rfl rfl rfl (E.ST.litAt kI v1.heap.size (w0 := v1) (ys := ([] : List Int)) (inner := []) rfl rfl E.epn lit22n (Reps.none _ _) K K.size (by simp) fun u w3 r k l n => ⟨hh.trans (E.gbB l), ?_⟩)
        exact E.GH.meet (S1000001 g3 u vb vc w3 (hh.trans (E.gbB l)) k ((hC.make r l n)) (blk_below b3 l) h3) (by kernel_rfl) (E.subc rfl (E.subc rfl (E.subc rfl (E.subc rfl (E.subc rfl (E.subc rfl (E.subc rfl (E.subn))))))))
      · refine E.GO.st rfl rfl rfl (E.ST.litAt kI v1.heap.size (w0 := v1) (ys := ([] : List Int)) (inner := []) rfl rfl E.epn lit22n (Reps.none _ _) K K.size (by simp) fun u w3 r k l n => ⟨hh.trans (E.gbB l), ?_⟩)
        exact E.GH.meet (S0100001 g3 va u vc w3 (hh.trans (E.gbB l)) k ((hC.s12.make r l n).s12) (blk_below b3 l) h3) (by kernel_rfl) (E.subc rfl (E.subc rfl (E.subc rfl (E.subc rfl (E.subc rfl (E.subc rfl (E.subc rfl (E.subn))))))))
      · refine E.GO.st rfl rfl rfl (E.ST.litAt kI v1.heap.size (w0 := v1) (ys := ([] : List Int)) (inner := []) rfl rfl E.epn lit22n (Reps.none _ _) K K.size (by simp) fun u w3 r k l n => ⟨hh.trans (E.gbB l), ?_⟩)
        exact E.GH.meet (S0010001 g3 va vb u w3 (hh.trans (E.gbB l)) k ((hC.s13.make r l n).s13) (blk_below b3 l) h3) (by kernel_rfl) (E.subc rfl (E.subc rfl (E.subc rfl (E.subc rfl (E.subc rfl (E.subc rfl (E.subc rfl (E.subn))))))))
    have S0000000 : ∀ (g3 : Nat) (va vb vc : Value) (W : World), v1.grownBy W none → Below v1.heap.size v1 W → E.Cb v1.heap.size W (.slice none 0 0) (.slice none 0 0) (.slice none 0 0) [] [] [] → E.GH Try.prog cops cQ 43 (fun W => v1.grownBy W none) 9 #[false, true, true, false, false, true, true, false, false, true, true, false, false, false, false] [(1, .pointer (some ⟨g1, 0, none⟩)), (2, .pointer (some ⟨g2, 0, none⟩)), (8, .slice m.A V.ps.length m.a), (12, .slice m.B V.qs.length m.b), (16, .slice m.C V.ts.length m.c)] W := by
      intro g3 va vb vc W hh K hC
      refine E.GH.all (rs := [0, 4, 8, 13]) (by rw [hops]; kernel_rfl) (by simp) (E.GHs.cons ((congrArg (fun (o : Array Oper) => o[0]?) hops).trans rfl) ?_ (E.GHs.cons ((congrArg (fun (o : Array Oper) => o[4]?) hops).trans rfl) ?_ (E.GHs.cons ((congrArg (fun (o : Array Oper) => o[8]?) hops).trans rfl) ?_ (E.GHs.cons ((congrArg (fun (o : Array Oper) => o[13]?) hops).trans rfl) ?_ (E.GHs.nil)))))
      · refine E.GO.st rfl rfl rfl (E.ST.litAt kI v1.heap.size (w0 := v1) (ys := ([] : List Int)) (inner := []) rfl rfl E.epn lit22n (Reps.none _ _) K K.size (by simp) fun u w3 r k l n => ⟨hh.trans (E.gbB l), ?_⟩)
        exact E.GH.meet (S1000000 0 u vb vc w3 (hh.trans (E.gbB l)) k ((hC.make r l n))) (by kernel_rfl) (E.subc rfl (E.subc rfl (E.subc rfl (E.subc rfl (E.subc rfl (E.subc rfl (E.subn)))))))
      · refine E.GO.st rfl rfl rfl (E.ST.litAt kI v1.heap.size (w0 := v1) (ys := ([] : List Int)) (inner := []) rfl rfl E.epn lit22n (Reps.none _ _) K K.size (by simp) fun u w3 r k l n => ⟨hh.trans (E.gbB l), ?_⟩)
        exact E.GH.meet (S0100000 0 va u vc w3 (hh.trans (E.gbB l)) k ((hC.s12.make r l n).s12)) (by kernel_rfl) (E.subc rfl (E.subc rfl (E.subc rfl (E.subc rfl (E.subc rfl (E.subc rfl (E.subn)))))))
      · refine E.GO.st rfl rfl rfl (E.ST.litAt kI v1.heap.size (w0 := v1) (ys := ([] : List Int)) (inner := []) rfl rfl E.epn lit22n (Reps.none _ _) K K.size (by simp) fun u w3 r k l n => ⟨hh.trans (E.gbB l), ?_⟩)
        exact E.GH.meet (S0010000 0 va vb u w3 (hh.trans (E.gbB l)) k ((hC.s13.make r l n).s13)) (by kernel_rfl) (E.subc rfl (E.subc rfl (E.subc rfl (E.subc rfl (E.subc rfl (E.subc rfl (E.subn)))))))
      · refine E.GO.st rfl rfl rfl (E.ST.alloc rfl info25z fun g3 w3 e3 b3 l3 => ⟨hh.trans (E.gbB l3), ?_⟩)
        exact E.GH.meet (S0000001 g3 va vb vc w3 (hh.trans (E.gbB l3)) (below_step K l3) (hC.below l3) b3 (by rw [e3]; exact K.size)) (by kernel_rfl) (E.subc rfl (E.subc rfl (E.subc rfl (E.subc rfl (E.subc rfl (E.subc rfl (E.subn)))))))
    refine E.GH.take (i := 1) ((congrArg (fun (o : Array Oper) => o[1]?) hops).trans rfl) (by rw [hops]; kernel_rfl) (by rw [hops]; kernel_rfl) (by rw [hops]; kernel_rfl) hcalm rfl rfl rfl (fun w' hS => E.Runs.fieldAddr rfl rfl hu25 rfl (by assumption) rfl) ?_
    refine E.GH.take (i := 2) ((congrArg (fun (o : Array Oper) => o[2]?) hops).trans rfl) (by rw [hops]; kernel_rfl) (by rw [hops]; kernel_rfl) (by rw [hops]; kernel_rfl) hcalm rfl rfl rfl (fun w' hS => E.Runs.load1 rfl rfl hu22 rfl (E.blkc (blk_grown b1 hS E.nen) rfl)) ?_
    refine E.GH.take (i := 5) ((congrArg (fun (o : Array Oper) => o[5]?) hops).trans rfl) (by rw [hops]; kernel_rfl) (by rw [hops]; kernel_rfl) (by rw [hops]; kernel_rfl) hcalm rfl rfl rfl (fun w' hS => E.Runs.fieldAddr rfl rfl hu25 rfl (by assumption) rfl) ?_
    refine E.GH.take (i := 6) ((congrArg (fun (o : Array Oper) => o[6]?) hops).trans rfl) (by rw [hops]; kernel_rfl) (by rw [hops]; kernel_rfl) (by rw [hops]; kernel_rfl) hcalm rfl rfl rfl (fun w' hS => E.Runs.load1 rfl rfl hu22 rfl (E.blkc (blk_grown b1 hS E.nen) rfl)) ?_
    refine E.GH.take (i := 9) ((congrArg (fun (o : Array Oper) => o[9]?) hops).trans rfl) (by rw [hops]; kernel_rfl) (by rw [hops]; kernel_rfl) (by rw [hops]; kernel_rfl) hcalm rfl rfl rfl (fun w' hS => E.Runs.fieldAddr rfl rfl hu25 rfl (by assumption) rfl) ?_
    refine E.GH.take (i := 10) ((congrArg (fun (o : Array Oper) => o[10]?) hops).trans rfl) (by rw [hops]; kernel_rfl) (by rw [hops]; kernel_rfl) (by rw [hops]; kernel_rfl) hcalm rfl rfl rfl (fun w' hS => E.Runs.load1 rfl rfl hu22 rfl (E.blkc (blk_grown b1 hS E.nen) rfl)) ?_
    exact E.GH.meet (S0000000 0 (.slice none 0 0) (.slice none 0 0) (.slice none 0 0) v1 (World.grownBy.refl _ _) (Below.refl _ _) (E.Cb.start _ _)) (by kernel_rfl) (E.subc rfl (E.subc rfl (E.subc rfl (E.subc rfl (E.subc rfl (E.subn))))))
  rintro g3 w11 ⟨m', hCb, b3, h3K, K⟩
  replace b1 := blk_below b1 K
  replace b2 := blk_below b2 K
  have h3_b1 : g1 ≠ g3 := by have := blk_lt s1b1; omega
  have h3_b2 : g2 ≠ g3 := by have := blk_lt s1b2; omega
  have h3_L : w.heap.size ≤ g3 := Nat.le_trans hwv0 h3K
  replace L := below_step L K
  refine E.QG.code ?_
  refine E.CG.seq ?_
  refine E.CG.seq ?_
  refine E.CG.list ?_
  refine E.GL.run rfl rfl rfl (E.Runs.assign rfl rfl) ?_
  refine E.GL.done ?_
  refine E.QG.code ?_
  refine E.CG.block ?_
  have s3_b1 := b1
  have s3_b2 := b2
  have s3_b3 := b3
  have s3_L := L
  refine E.CG.loop2 (fun (i : Nat) (v3 : Value) => [(1, .pointer (some ⟨g1, 0, none⟩)), (2, .pointer (some ⟨g2, 0, none⟩)), (3, .pointer (some ⟨g3, 0, none⟩)), (4, .int .i64 (i : Int))]) (fun i v3 w' => i ≤ V.cs.length ∧ w'.heap[g1]? = some (.cells #[.slice m.A V.ps.length m.a, .slice m.B V.qs.length m.b, .slice m.C V.ts.length m.c, .slice m.D V.cs.length m.d] 25 (0, 0)) ∧ w'.heap[g2]? = some (.cells #[.slice none 0 0, .slice none 0 0, .slice none 0 0, .slice none 0 0] 25 (0, 0)) ∧ w'.heap[g3]? = some (.cells #[.slice m'.A V.ps.length m'.a, .slice m'.B V.qs.length m'.b, .slice m'.C V.ts.length m'.c, v3] 25 (0, 0)) ∧ Kd.R k40 40 w' w.heap.size (fun _ => True) (v3) (V.cs.take i) ∧ E.Cb w.heap.size w' (.slice m'.A V.ps.length m'.a) (.slice m'.B V.qs.length m'.b) (.slice m'.C V.ts.length m'.c) V.ps V.qs V.ts ∧ Below w.heap.size w w') (fun i v3 => V.cs.length - i) 0 (.slice none 0 0) (E.subc rfl (E.subc rfl (E.subc rfl (E.subc rfl E.subn)))) ⟨Nat.zero_le _, b1, b2, b3, Kd.R_nil _ _ _ _ _, hCb, L⟩ ?_
  rintro i v3 w3 ⟨hi, b1, b2, b3, hD, hCb, L⟩
  refine E.CG.seq ?_
  refine E.CG.seq ?_
  refine E.CG.list ?_
  refine E.GL.run rfl rfl rfl (E.Runs.move rfl rfl) ?_
  refine E.GL.run rfl rfl rfl (E.Runs.fieldAddr rfl rfl hu25 rfl (by assumption) rfl) ?_
  refine E.GL.run rfl rfl rfl (E.Runs.load1 rfl rfl hu23 rfl (by first | assumption | exact E.blkc (by assumption) rfl | exact pw_cell_below L (by assumption))) ?_
  refine E.GL.run rfl rfl rfl (E.Runs.len rfl rfl hu23) ?_
  refine E.GL.cmp rfl rfl rfl (fun _ h => (E.Runs.lss rfl rfl rfl h)) (fun h23 => ?_) (fun h23 => ?_)
  · obtain ⟨c, hc⟩ := get_ex (show i < V.cs.length by omega)
    obtain ⟨ad, a0, k0, eA, _, hx0, X⟩ := till_at hV.cs hc
    have hsz := hs.s c (List.mem_of_getElem? hc)
    have Kr := Below.refl w3.heap.size w3
    have hL3 := L.size
    have s5b1 := b1
    have s5b2 := b2
    have s5b3 := b3
    have s5hD := hD
    have s5hCb := hCb
    have s5L := L
    refine E.GL.done ?_
    refine E.QG.code ?_
    refine E.CG.cond_t rfl ?_
    refine E.CG.skip ?_
    refine E.QG.code ?_
    refine E.CG.seq ?_
    refine E.CG.block ?_
    refine E.CG.seq ?_
    refine E.CG.list ?_
    refine E.GL.run rfl rfl rfl (E.Runs.fieldAddr rfl rfl hu25 rfl (by assumption) rfl) ?_
    refine E.GL.run rfl rfl rfl (E.Runs.load1 rfl rfl hu23 rfl (by first | assumption | exact E.blkc (by assumption) rfl | exact pw_cell_below L (by assumption) | exact pw_cell_below Kr (by assumption))) ?_
    refine E.GL.run rfl rfl rfl (E.Runs.move rfl rfl) ?_
    refine E.GL.run rfl rfl rfl (E.Runs.indexAddrA (i := i) rfl rfl rfl hu23 z40 o40 (by omega) eA rfl) ?_
    refine E.GL.run rfl rfl rfl (E.Runs.loads (cs := [.slice a0 c.f0.length k0, .int .i64 c.f1, .int .i64 c.f2, .int .i64 c.f3, .int .i64 c.f4, .int .i64 c.f5]) rfl rfl hu40 rfl info40s (fun j v hv => pw_cell_below L (X j v hv))) ?_
    refine E.GL.st rfl rfl rfl (E.ST.alloc rfl info40z fun g5 w5 e5 b5 l5 => ?_)
    have h5_L : w.heap.size ≤ g5 := by rw [e5]; exact L.size
    have h5_Kr : w3.heap.size ≤ g5 := by rw [e5]; exact Kr.size
    have n5_b1 : g1 ≠ g5 := by have := blk_lt b1; omega
    have n5_b2 : g2 ≠ g5 := by have := blk_lt b2; omega
    have n5_b3 : g3 ≠ g5 := by have := blk_lt b3; omega
    replace b1 := blk_below b1 l5
    replace b2 := blk_below b2 l5
    replace b3 := blk_below b3 l5
    replace L := below_step L l5
    replace Kr := below_step Kr l5
    refine E.GL.store_whole rfl rfl rfl rfl rfl b5 rfl info40s (cells6_one _ _ _ _ _ _ _ _) fun wS5_6 c5 lS5_6 => ?_
    replace b1 := blk_grown b1 lS5_6 (E.nes (by first | assumption | exact Ne.symm (by assumption)))
    replace b2 := blk_grown b2 lS5_6 (E.nes (by first | assumption | exact Ne.symm (by assumption)))
    replace b3 := blk_grown b3 lS5_6 (E.nes (by first | assumption | exact Ne.symm (by assumption)))
    replace L := E.below_own L h5_L lS5_6
    replace Kr := E.below_own Kr h5_Kr lS5_6
    replace b5 := c5
    clear c5
    refine E.GL.done ?_
    refine E.QG.code ?_
    refine E.CG.seq ?_
    refine E.CG.list ?_
    refine E.GL.st rfl rfl rfl (E.ST.litAt kI w3.heap.size (w0 := w3) (ys := ([] : List Int)) (inner := []) rfl rfl E.epn lit22n (Reps.none _ _) Kr Kr.size (by simp) fun u31 w31 r31 k31 l31 n31 => ?_)
    replace b5 := blk_below b5 l31
    replace L := below_step L l31
    replace Kr := k31
    refine E.GL.run rfl rfl rfl (E.Runs.fieldAddr rfl rfl hu40 rfl (by assumption) rfl) ?_
    refine E.GL.run rfl rfl rfl (E.Runs.load1 rfl rfl hu22 rfl (by first | assumption | exact E.blkc (by assumption) rfl | exact pw_cell_below L (by assumption) | exact pw_cell_below Kr (by assumption))) ?_
    refine E.GL.st rfl rfl rfl (E.ST.appendRows kI w3.heap.size (w0 := w3) (s := .tmp 31) (x := .tmp 33) rfl hu22 info3 rfl (by decide) (by decide) rfl rfl r31 (Kd.C_below hx0 L) made22 Kr Kr.size (by simp only [List.length_nil]; omega) fun u34 w34 R34 k34 g34 => ?_)
    replace b5 := blk_grown b5 g34 (Kd.R_ne r31 b5 (by decide))
    replace Kr := k34
    rw [List.nil_append] at R34
    obtain ⟨A34, c34, hv34⟩ := Kd.R_slice R34
    subst hv34
    refine E.GL.run rfl rfl rfl (E.Runs.fieldAddr rfl rfl hu40 rfl (by assumption) rfl) ?_
    refine E.GL.sn rfl rfl (E.ST.storeSl (cs := [.slice a0 c.f0.length k0, .int .i64 c.f1, .int .i64 c.f2, .int .i64 c.f3, .int .i64 c.f4, .int .i64 c.f5]) rfl z22 o22 rfl rfl b5 rfl rfl fun wS6 c5 lS6 => ?_)
    replace Kr := E.below_own Kr h5_Kr lS6
    replace R34 := Kd.R_grown1 R34 rfl lS6 (Kd.R_ne R34 b5 (by decide))
    replace b5 := c5
    replace b1 := blk_below s5b1 Kr
    replace b2 := blk_below s5b2 Kr
    replace b3 := blk_below s5b3 Kr
    replace hD := Kd.R_below s5hD Kr
    replace hCb := s5hCb.below Kr
    replace L := below_step s5L Kr
    refine E.GL.done ?_
    refine E.QG.code ?_
    refine E.CG.list ?_
    refine E.GL.run rfl rfl rfl (E.Runs.fieldAddr rfl rfl hu25 rfl (by assumption) rfl) ?_
    refine E.GL.run rfl rfl rfl (E.Runs.load1 rfl rfl hu23 rfl (by first | assumption | exact E.blkc (by assumption) rfl | exact pw_cell_below L (by assumption) | exact pw_cell_below Kr (by assumption))) ?_
    refine E.GL.run rfl rfl rfl (E.Runs.loads (cs := [.slice A34 c.f0.length c34, .int .i64 c.f1, .int .i64 c.f2, .int .i64 c.f3, .int .i64 c.f4, .int .i64 c.f5]) rfl rfl hu40 rfl info40s (blk_cells b5)) ?_
    refine E.GL.st rfl rfl rfl (E.ST.lit rfl (E.epc rfl E.epn) (lit23 _ _ _ _ _ _ _ _) ?_)
    refine E.GL.st rfl rfl rfl (E.ST.appendR k40 w.heap.size (w0 := w) (s := .tmp 37) (x := .tmp 39) rfl hu23 info40b rfl (by decide) (by decide) c rfl rfl (k40_mkM _ _ _ c (E.apart_R (Kd.R_lower R34 hL3) hD (by decide))) hD L L.size (by rw [List.length_take]; omega) fun u40 w40 r40 k40' gr40 at40 => ?_)
    replace b1 := blk_grown b1 gr40 (Kd.R_ne hD b1 (by decide))
    replace b2 := blk_grown b2 gr40 (Kd.R_ne hD b2 (by decide))
    replace b3 := blk_grown b3 gr40 (Kd.R_ne hD b3 (by decide))
    replace hCb := hCb.rowed hD (by decide) gr40
    replace L := k40'
    replace hD := r40
    rw [E.take_snoc hc] at hD
    obtain ⟨D', d', hv40⟩ := Kd.R_slice hD
    rw [List.length_take, Nat.min_eq_left (show i + 1 ≤ V.cs.length by omega)] at hv40
    subst hv40
    refine E.GL.run rfl rfl rfl (E.Runs.fieldAddr rfl rfl hu25 rfl (by assumption) rfl) ?_
    refine E.GL.sn rfl rfl (E.ST.storeSl (cs := [.slice m'.A V.ps.length m'.a, .slice m'.B V.qs.length m'.b, .slice m'.C V.ts.length m'.c, v3]) rfl z23 o23 rfl rfl b3 rfl rfl fun wS7 c3 lS7 => ?_)
    replace b1 := blk_grown b1 lS7 (E.nes h3_b1)
    replace b2 := blk_grown b2 lS7 (E.nes h3_b2)
    replace hD := E.R_over hD b3 (by decide) lS7
    replace hCb := hCb.over b3 (by decide) lS7
    replace L := E.below_own L h3_L lS7
    replace b3 := c3
    refine E.GL.done ?_
    refine E.QG.block_normal ?_
    refine E.QG.code ?_
    refine E.CG.list ?_
    refine E.GL.run rfl rfl rfl (E.Runs.move rfl rfl) ?_
    refine E.GL.run rfl rfl rfl (E.Runs.add rfl rfl rfl (IntWalk.i64_in _ (by omega))) ?_
    refine E.GL.run rfl rfl rfl (E.Runs.assign rfl rfl) ?_
    refine E.GL.done ?_
    exact E.QG.round2 (d := .slice none 0 0) (i + 1) _ (E.subc rfl (E.subc rfl (E.subc rfl (E.subc rfl E.subn)))) ⟨by omega, b1, b2, b3, hD, hCb, L⟩ (by omega)
  · obtain rfl : i = V.cs.length := by omega
    rw [List.take_length] at hD
    obtain ⟨D, d, rfl⟩ := Kd.R_slice hD
    refine E.GL.done ?_
    refine E.QG.code ?_
    refine E.CG.cond_f rfl ?_
    refine E.CG.exit ?_
    refine E.QG.pass_exit ?_
    refine E.QG.pass_exit ?_
    refine E.QG.block_here ?_
    refine E.QG.code ?_
    refine E.CG.seq ?_
    have s8b2 := b2
    refine E.CG.list ?_
    refine E.GL.run rfl rfl rfl (E.Runs.loads (cs := [.slice m'.A V.ps.length m'.a, .slice m'.B V.qs.length m'.b, .slice m'.C V.ts.length m'.c, .slice D V.cs.length d]) rfl rfl hu25 rfl info25s (blk_cells b3)) ?_
    refine E.GL.store_whole rfl rfl rfl rfl rfl b2 rfl info25s (slices4_one _ _ _ _ _ _ _ _ _ _ _ _) fun wS8_1 c2 lS8_1 => ?_
    replace b1 := blk_grown b1 lS8_1 (E.nes (by first | assumption | exact Ne.symm (by assumption)))
    replace b3 := blk_grown b3 lS8_1 (E.nes (by first | assumption | exact Ne.symm (by assumption)))
    replace L := E.below_own L h2_L lS8_1
    replace b2 := c2
    clear c2
    refine E.GL.done ?_
    refine E.QG.code ?_
    refine E.CG.ret ?_
    exact E.QG.result_c rfl rfl b2 hu25 rfl info25s ⟨⟨m'.A, m'.a, m'.B, m'.b, m'.C, m'.c, D, d⟩, rfl, ⟨hCb.over s8b2 (by decide) lS8_1, E.R_over hD s8b2 (by decide) lS8_1⟩, L⟩

end Go.Proofs.Ytiplichdhcmjdaa.T
namespace Go.Proofs.Ytiplichdhcmjdaa.T
open Go.RowKit Go.Proofs.YtiplichdhcmjdaaW.PrintWords Go.Proofs.YtiplichdhcmjdaaW.PrintMore
open Go.Proofs.Ytiplichdhcmjdaa.P
set_option linter.unusedVariables false
set_option linter.unusedSimpArgs false

/-- The chapter's example. -/
abbrev eV : Ev := ⟨[5, 8], [7, 6], [7, 5], [⟨[4, 2], 100, 106, 0, 10, 46⟩, ⟨[3, 3], 200, 208, 1, 0, 47⟩]⟩
def eL : List (List (List Int)) := [[[4, 2], [3, 4]]]
theorem ex_ok : VOk eV := by decide
theorem ex_sz : Sz eV := ex_ok.sz
theorem ex_parts : partsA eV = (1, 1) := by kernel_rfl
theorem ex_chk : chkV eV = 0 := chkV_yes ex_ok
theorem ex_0 : trL eV eV.cs.length 0 ((0 : Nat) : Int) (bl eV.qs) = [] := by kernel_rfl
theorem ex_1 : trL eV eV.cs.length 0 ((1 : Nat) : Int) (bl eV.qs) = eL := by kernel_rfl
theorem ex_lik : LikR eV eL 1 := by
  have h0 : ∀ t, Truth eV t → ((0 : Nat) : Int) ≤ flT eV 0 t := fun t _ => (flT_01 eV t 0).1
  have h1 := tr_none ex_ok h0 ex_0
  have h2 := tr_some ex_ok h1 (by rw [ex_1]; exact List.cons_ne_nil _ _)
  rw [ex_1] at h2
  exact h2
theorem ex_lk : (∃ t, Truth eV t) ∧ fewN eV = 1 ∧ LkS eV eL := by
  rcases ex_lik with h | h
  · exact absurd h.2.1 (List.cons_ne_nil _ _)
  · exact ⟨h.1, h.2.2.1.symm, h.2.2.2.1⟩
theorem ex_err : errV eV = 0 := by
  obtain ⟨⟨t, ht⟩, _⟩ := ex_lk
  exact errV_ok ex_ok ht
theorem ex_few : fewA eV = 1 := by unfold fewA; rw [if_pos ex_err, ex_lk.2.1]
theorem ex_errT : errT eV 1 1 = 0 := by
  obtain ⟨⟨t, ht⟩, _⟩ := ex_lk
  exact errT_ok ex_ok (by decide) ht
theorem ex_span : loV eV 1 1 (fun b => b.get (1 : Int).toNat) = 4 ∧ hiV eV 1 1 (fun b => b.get (1 : Int).toNat) = 4 := by
  have h := span_r (q := fun b => b.get (1 : Int).toNat) (till := 1) (sh := 1) ex_ok ex_lk.2.2 (by decide) ex_errT (f := fRe 1 1) (fun t b _ k1 _ => fRe_q (by decide) (by decide) k1) (o0 := [[4, 2], [3, 4]]) (List.mem_singleton.mpr rfl)
  exact ⟨h.1.trans (by kernel_rfl), h.2.trans (by kernel_rfl)⟩
theorem ex_susp : tA eV (suspP eV) = [1] := by
  obtain ⟨⟨t, ht⟩, _, hS⟩ := ex_lk
  have h0 : ¬ suspP eV 0 := fun h => absurd ((cnt_susp ex_ok hS (by decide)).mpr h) (by decide)
  have h1 : suspP eV 1 := (cnt_susp ex_ok hS (by decide)).mp (by decide)
  rw [tA_ok ex_ok ht]
  show tL eV (suspP eV) 2 = _
  rw [tL_yes h1, tL_no h0]
  rfl
set_option maxRecDepth 100000 in
theorem lit22_2 (a b : Int) (W : World) : (Instr.buildSlice 22 2 #[(0, .int .i64 a), (1, .int .i64 b)]).run Try.prog W = .ok (.slice (some ⟨W.heap.size, 0, none⟩) 2 2) (W.alloc (.cells (([a, b] : List Int).map (Value.int .i64)).toArray 3 (0, 0))) := by
  have hu22 := Try.underlying22
  go_simp
def six40 (A : Option Addr) (x : S40) (k : Nat) : List Value := [.slice A x.f0.length k, .int .i64 x.f1, .int .i64 x.f2, .int .i64 x.f3, .int .i64 x.f4, .int .i64 x.f5]
set_option maxRecDepth 100000 in
theorem lit23_2 (A B : Option Addr) (n c m d a1 a2 a3 a4 a5 b1 b2 b3 b4 b5 : Nat) (W : World) : (Instr.buildSlice 23 2 #[(0, .agg #[.slice A n c, .int .i64 a1, .int .i64 a2, .int .i64 a3, .int .i64 a4, .int .i64 a5]), (1, .agg #[.slice B m d, .int .i64 b1, .int .i64 b2, .int .i64 b3, .int .i64 b4, .int .i64 b5])]).run Try.prog W = .ok (.slice (some ⟨W.heap.size, 0, none⟩) 2 2) (W.alloc (.cells #[.slice A n c, .int .i64 a1, .int .i64 a2, .int .i64 a3, .int .i64 a4, .int .i64 a5, .slice B m d, .int .i64 b1, .int .i64 b2, .int .i64 b3, .int .i64 b4, .int .i64 b5] 40 (0, 0))) := by
  have hu23 := Try.underlying23
  go_simp
set_option maxRecDepth 100000 in
theorem build40a (A : Option Addr) (n c : Nat) (a b d e : Int) (W : World) : (Instr.build 40 #[(0, .slice A n c), (1, .int .i64 a), (2, .int .i64 b), (4, .int .i64 d), (5, .int .i64 e)]).run Try.prog W = .ok (.agg #[.slice A n c, .int .i64 a, .int .i64 b, .int .i64 0, .int .i64 d, .int .i64 e]) W := by
  have hu3 := Try.underlying3
  have hu22 := Try.underlying22
  have hu40 := Try.underlying40
  go_simp
set_option maxRecDepth 100000 in
theorem build40b (A : Option Addr) (n c : Nat) (a b d e : Int) (W : World) : (Instr.build 40 #[(0, .slice A n c), (1, .int .i64 a), (2, .int .i64 b), (3, .int .i64 d), (5, .int .i64 e)]).run Try.prog W = .ok (.agg #[.slice A n c, .int .i64 a, .int .i64 b, .int .i64 d, .int .i64 0, .int .i64 e]) W := by
  have hu3 := Try.underlying3
  have hu22 := Try.underlying22
  have hu40 := Try.underlying40
  go_simp
set_option maxRecDepth 100000 in
theorem build25f (A B C D : Option Addr) (n c m d k e l f : Nat) (W : World) : (Instr.build 25 #[(0, .slice A n c), (1, .slice B m d), (2, .slice C k e), (3, .slice D l f)]).run Try.prog W = .ok (.agg #[.slice A n c, .slice B m d, .slice C k e, .slice D l f]) W := by
  have hu22 := Try.underlying22
  have hu23 := Try.underlying23
  have hu25 := Try.underlying25
  go_simp
theorem C_tills {w : World} {g : Nat} {A B : Option Addr} {x y : S40} {k k' : Nat} (hx : Kd.C kI w A x.f0.length x.f0) (hy : Kd.C kI w B y.f0.length y.f0) (h1 : x.f0.length ≤ k) (h2 : y.f0.length ≤ k') (hb : w.heap[g]? = some (.cells (six40 A x k ++ six40 B y k').toArray 40 (0, 0))) : Kd.C k40 w (some ⟨g, 0, none⟩) 2 [x, y] := by
  refine ⟨rfl, by omega, fun _ => ⟨_, rfl, ?_⟩⟩
  intro j p hj
  rcases j with _ | _ | j
  · obtain rfl : x = p := by simpa using hj
    refine ⟨six40 A x k, rfl, k40_mk w x h1 hx, fun i u hu => ?_⟩
    have hi : i < 6 := (List.getElem?_eq_some_iff.1 hu).1
    rw [Addr.add_mid, Nat.zero_add, blk_cell hb]
    rw [List.getElem?_toArray, List.getElem?_append_left (by show _ < 6; omega)]
    rw [Nat.zero_mul, Nat.zero_add]
    exact hu
  · obtain rfl : y = p := by simpa using hj
    refine ⟨six40 B y k', rfl, k40_mk w y h2 hy, fun i u hu => ?_⟩
    have hi : i < 6 := (List.getElem?_eq_some_iff.1 hu).1
    rw [Addr.add_mid, Nat.zero_add, blk_cell hb]
    rw [List.getElem?_toArray, List.getElem?_append_right (by show 6 ≤ _; show 6 ≤ (0 + 1) * 6 + i; omega)]
    show (six40 B y k')[(0 + 1) * 6 + i - 6]? = some u
    rw [show (0 + 1) * 6 + i - 6 = i by omega]
    exact hu
  · simp at hj
set_option maxRecDepth 100000 in
set_option maxHeartbeats 8000000 in

theorem example_calls (w : World) :
    Calls Try.prog 43 #[] w fun e w' => ∃ m, e = .returned (hv eV m) ∧ EvM w' eV m ∧ Below w.heap.size w w' := by
  have hu25 := Try.underlying25
  refine E.enter (N := 10) Try.func43 rfl Try.ntmps43 (args := []) (by simp) ?_
  have L := Below.refl w.heap.size w
  refine E.CG.seq ?_
  refine E.CG.list ?_
  refine E.GL.st rfl rfl rfl (E.ST.alloc rfl info25z fun g0 w0 e0 b0 l0 => ?_)
  have h0_L : w.heap.size ≤ g0 := by rw [e0]; exact L.size
  replace L := below_step L l0
  refine E.GL.done ?_
  refine E.QG.code ?_
  refine E.CG.seq ?_
  refine E.CG.list ?_
  refine E.GL.st rfl rfl rfl (E.ST.litB (cs := (([5, 8] : List Int).map (Value.int .i64)).toArray) rfl (E.epc rfl (E.epc rfl E.epn)) (lit22_2 _ _) fun g1 w1 e1 b1 l1 => ?_)
  have h1_L : w.heap.size ≤ g1 := by rw [e1]; exact L.size
  have n1_b0 : g0 ≠ g1 := by have := blk_lt b0; omega
  replace b0 := blk_below b0 l1
  replace L := below_step L l1
  refine E.GL.st rfl rfl rfl (E.ST.litB (cs := (([7, 6] : List Int).map (Value.int .i64)).toArray) rfl (E.epc rfl (E.epc rfl E.epn)) (lit22_2 _ _) fun g2 w2 e2 b2 l2 => ?_)
  have h2_L : w.heap.size ≤ g2 := by rw [e2]; exact L.size
  have n2_b0 : g0 ≠ g2 := by have := blk_lt b0; omega
  have n2_b1 : g1 ≠ g2 := by have := blk_lt b1; omega
  replace b0 := blk_below b0 l2
  replace b1 := blk_below b1 l2
  replace L := below_step L l2
  refine E.GL.st rfl rfl rfl (E.ST.litB (cs := (([7, 5] : List Int).map (Value.int .i64)).toArray) rfl (E.epc rfl (E.epc rfl E.epn)) (lit22_2 _ _) fun g3 w3 e3 b3 l3 => ?_)
  have h3_L : w.heap.size ≤ g3 := by rw [e3]; exact L.size
  have n3_b0 : g0 ≠ g3 := by have := blk_lt b0; omega
  have n3_b1 : g1 ≠ g3 := by have := blk_lt b1; omega
  have n3_b2 : g2 ≠ g3 := by have := blk_lt b2; omega
  replace b0 := blk_below b0 l3
  replace b1 := blk_below b1 l3
  replace b2 := blk_below b2 l3
  replace L := below_step L l3
  refine E.GL.st rfl rfl rfl (E.ST.litB (cs := (([4, 2] : List Int).map (Value.int .i64)).toArray) rfl (E.epc rfl (E.epc rfl E.epn)) (lit22_2 _ _) fun g4 w4 e4 b4 l4 => ?_)
  have h4_L : w.heap.size ≤ g4 := by rw [e4]; exact L.size
  have n4_b0 : g0 ≠ g4 := by have := blk_lt b0; omega
  have n4_b1 : g1 ≠ g4 := by have := blk_lt b1; omega
  have n4_b2 : g2 ≠ g4 := by have := blk_lt b2; omega
  have n4_b3 : g3 ≠ g4 := by have := blk_lt b3; omega
  replace b0 := blk_below b0 l4
  replace b1 := blk_below b1 l4
  replace b2 := blk_below b2 l4
  replace b3 := blk_below b3 l4
  replace L := below_step L l4
  refine E.GL.run rfl rfl rfl (E.Runs.build rfl (E.epc rfl (E.epc rfl (E.epc rfl (E.epc rfl (E.epc rfl E.epn))))) (build40a _ _ _ _ _ _ _)) ?_
  refine E.GL.st rfl rfl rfl (E.ST.litB (cs := (([3, 3] : List Int).map (Value.int .i64)).toArray) rfl (E.epc rfl (E.epc rfl E.epn)) (lit22_2 _ _) fun g6 w6 e6 b6 l6 => ?_)
  have h6_L : w.heap.size ≤ g6 := by rw [e6]; exact L.size
  have n6_b0 : g0 ≠ g6 := by have := blk_lt b0; omega
  have n6_b1 : g1 ≠ g6 := by have := blk_lt b1; omega
  have n6_b2 : g2 ≠ g6 := by have := blk_lt b2; omega
  have n6_b3 : g3 ≠ g6 := by have := blk_lt b3; omega
  have n6_b4 : g4 ≠ g6 := by have := blk_lt b4; omega
  replace b0 := blk_below b0 l6
  replace b1 := blk_below b1 l6
  replace b2 := blk_below b2 l6
  replace b3 := blk_below b3 l6
  replace b4 := blk_below b4 l6
  replace L := below_step L l6
  refine E.GL.run rfl rfl rfl (E.Runs.build rfl (E.epc rfl (E.epc rfl (E.epc rfl (E.epc rfl (E.epc rfl E.epn))))) (build40b _ _ _ _ _ _ _)) ?_
  refine E.GL.st rfl rfl rfl (E.ST.litB (cs := (six40 (some ⟨g4, 0, none⟩) (⟨[4, 2], 100, 106, 0, 10, 46⟩ : S40) 2 ++ six40 (some ⟨g6, 0, none⟩) (⟨[3, 3], 200, 208, 1, 0, 47⟩ : S40) 2).toArray) rfl (E.epc rfl (E.epc rfl E.epn)) (lit23_2 (some ⟨g4, 0, none⟩) (some ⟨g6, 0, none⟩) 2 2 2 2 100 106 0 10 46 200 208 1 0 47) fun g8 w8 e8 b8 l8 => ?_)
  have h8_L : w.heap.size ≤ g8 := by rw [e8]; exact L.size
  have n8_b0 : g0 ≠ g8 := by have := blk_lt b0; omega
  have n8_b1 : g1 ≠ g8 := by have := blk_lt b1; omega
  have n8_b2 : g2 ≠ g8 := by have := blk_lt b2; omega
  have n8_b3 : g3 ≠ g8 := by have := blk_lt b3; omega
  have n8_b4 : g4 ≠ g8 := by have := blk_lt b4; omega
  have n8_b6 : g6 ≠ g8 := by have := blk_lt b6; omega
  replace b0 := blk_below b0 l8
  replace b1 := blk_below b1 l8
  replace b2 := blk_below b2 l8
  replace b3 := blk_below b3 l8
  replace b4 := blk_below b4 l8
  replace b6 := blk_below b6 l8
  replace L := below_step L l8
  refine E.GL.run rfl rfl rfl (E.Runs.build rfl (E.epc rfl (E.epc rfl (E.epc rfl (E.epc rfl E.epn)))) (build25f _ _ _ _ _ _ _ _ _ _ _ _)) ?_
  refine E.GL.store_whole rfl rfl rfl rfl rfl b0 rfl info25s (slices4_one _ _ _ _ _ _ _ _ _ _ _ _) fun wS1_9 c0 lS1_9 => ?_
  replace b1 := blk_grown b1 lS1_9 (E.nes (by first | assumption | exact Ne.symm (by assumption)))
  replace b2 := blk_grown b2 lS1_9 (E.nes (by first | assumption | exact Ne.symm (by assumption)))
  replace b3 := blk_grown b3 lS1_9 (E.nes (by first | assumption | exact Ne.symm (by assumption)))
  replace b4 := blk_grown b4 lS1_9 (E.nes (by first | assumption | exact Ne.symm (by assumption)))
  replace b6 := blk_grown b6 lS1_9 (E.nes (by first | assumption | exact Ne.symm (by assumption)))
  replace b8 := blk_grown b8 lS1_9 (E.nes (by first | assumption | exact Ne.symm (by assumption)))
  replace L := E.below_own L h0_L lS1_9
  replace b0 := c0
  clear c0
  refine E.GL.done ?_
  refine E.QG.code ?_
  refine E.CG.ret ?_
  exact E.QG.result_c rfl rfl b0 hu25 rfl info25s ⟨⟨some ⟨g1, 0, none⟩, 2, some ⟨g2, 0, none⟩, 2, some ⟨g3, 0, none⟩, 2, some ⟨g8, 0, none⟩, 2⟩, rfl, ⟨C_nums [5, 8] b1 (by decide), C_nums [7, 6] b2 (by decide), C_nums [7, 5] b3 (by decide), C_tills (x := (⟨[4, 2], 100, 106, 0, 10, 46⟩ : S40)) (y := (⟨[3, 3], 200, 208, 1, 0, 47⟩ : S40)) (C_nums [4, 2] b4 (by decide)) (C_nums [3, 3] b6 (by decide)) (by decide) (by decide) b8⟩, L⟩

end Go.Proofs.Ytiplichdhcmjdaa.T
namespace Go.Proofs.Ytiplichdhcmjdaa.T
open Go.RowKit Go.Proofs.YtiplichdhcmjdaaW.PrintWords Go.Proofs.YtiplichdhcmjdaaW.PrintMore
open Go.Proofs.Ytiplichdhcmjdaa.P
set_option linter.unusedVariables false
set_option linter.unusedSimpArgs false

set_option maxRecDepth 100000 in
theorem equal34 (a b : Int) (W : World) : (Op.equal 34 (.agg #[.int .i64 a, .int .i64 b]) (.agg #[.int .i64 a, .int .i64 b])).run Try.prog W = .ok true W := by
  have hu3 := Try.underlying3
  have hu34 := Try.underlying34
  have h34 := Try.stoodInHeld34
  unfold Op.equal Op.maxDepth
  go_simp
set_option maxRecDepth 100000 in
theorem lit22_1 (a : Int) (W : World) : (Instr.buildSlice 22 1 #[(0, .int .i64 a)]).run Try.prog W = .ok (.slice (some ⟨W.heap.size, 0, none⟩) 1 1) (W.alloc (.cells (([a] : List Int).map (Value.int .i64)).toArray 3 (0, 0))) := lit22 a W
set_option maxRecDepth 100000 in
set_option maxHeartbeats 8000000 in

theorem works_calls (w : World) :
    Calls Try.prog 13 #[] w fun e w' => e = .returned (.bool true) ∧ Below w.heap.size w w' := by
  have hu3 := Try.underlying3
  have hu22 := Try.underlying22
  have hu25 := Try.underlying25
  have hu28 := Try.underlying28
  have hu34 := Try.underlying34
  refine E.enter (N := 69) Try.func13 rfl Try.ntmps13 (args := []) (by simp) ?_
  have L := Below.refl w.heap.size w
  refine E.CG.seq ?_
  refine E.CG.list ?_
  refine E.GL.run rfl rfl rfl (E.Runs.assign rfl rfl) ?_
  refine E.GL.done ?_
  refine E.QG.code ?_
  refine E.CG.seq ?_
  refine E.CG.list ?_
  refine E.GL.st rfl rfl rfl (E.ST.call rfl ent43 E.evn ((example_calls _).mono ?_))
  rintro e w11 ⟨m, rfl, hEv, l11⟩
  refine ⟨_, rfl, ?_⟩
  replace L := below_step L l11
  have lo := Below.refl w11.heap.size w11
  refine E.GL.st rfl rfl rfl (E.ST.alloc rfl info25z fun g1 w1 e1 b1 l1 => ?_)
  have h1_L : w.heap.size ≤ g1 := by rw [e1]; exact L.size
  have h1_lo : w11.heap.size ≤ g1 := by rw [e1]; exact lo.size
  replace L := below_step L l1
  replace lo := below_step lo l1
  refine E.GL.store_whole rfl rfl rfl rfl rfl b1 rfl info25s (slices4_one _ _ _ _ _ _ _ _ _ _ _ _) fun wS1_2 c1 lS1_2 => ?_
  replace L := E.below_own L h1_L lS1_2
  replace lo := E.below_own lo h1_lo lS1_2
  replace b1 := c1
  clear c1
  refine E.GL.done ?_
  refine E.QG.code ?_
  refine E.CG.seq ?_
  refine E.CG.list ?_
  refine E.GL.run rfl rfl rfl (E.Runs.loads (cs := [.slice m.A 2 m.a, .slice m.B 2 m.b, .slice m.C 2 m.c, .slice m.D 2 m.d]) rfl rfl hu25 rfl info25s (blk_cells b1)) ?_
  refine E.GL.st rfl rfl rfl (E.ST.call rfl ent14 (E.evc rfl E.evn) ((parts14 eV m _ (hEv.below lo) ex_sz).mono ?_))
  rintro e w14 ⟨rfl, l14⟩
  refine ⟨_, rfl, ?_⟩
  replace b1 := blk_below b1 l14
  replace L := below_step L l14
  replace lo := below_step lo l14
  rw [ex_parts, ex_chk]
  refine E.GL.run rfl rfl rfl (E.Runs.move rfl rfl) ?_
  refine E.GL.run rfl rfl rfl (E.Runs.extract rfl rfl rfl) ?_
  refine E.GL.run rfl rfl rfl (E.Runs.extract rfl rfl rfl) ?_
  refine E.GL.run rfl rfl rfl (E.Runs.extract rfl rfl rfl) ?_
  refine E.GL.run rfl rfl rfl (E.Runs.assign rfl rfl) ?_
  refine E.GL.run rfl rfl rfl (E.Runs.assign rfl rfl) ?_
  refine E.GL.run rfl rfl rfl (E.Runs.assign rfl rfl) ?_
  refine E.GL.done ?_
  refine E.QG.code ?_
  refine E.CG.seq ?_
  refine E.CG.list ?_
  refine E.GL.run rfl rfl rfl (E.Runs.loads (cs := [.slice m.A 2 m.a, .slice m.B 2 m.b, .slice m.C 2 m.c, .slice m.D 2 m.d]) rfl rfl hu25 rfl info25s (blk_cells b1)) ?_
  refine E.GL.st rfl rfl rfl (E.ST.call rfl ent15 (E.evc rfl E.evn) ((fewest_calls eV m _ (hEv.below lo) ex_sz).mono ?_))
  rintro e w20 ⟨rfl, l20⟩
  refine ⟨_, rfl, ?_⟩
  replace b1 := blk_below b1 l20
  replace L := below_step L l20
  replace lo := below_step lo l20
  rw [ex_few, ex_err]
  refine E.GL.run rfl rfl rfl (E.Runs.move rfl rfl) ?_
  refine E.GL.run rfl rfl rfl (E.Runs.extract rfl rfl rfl) ?_
  refine E.GL.run rfl rfl rfl (E.Runs.extract rfl rfl rfl) ?_
  refine E.GL.run rfl rfl rfl (E.Runs.assign rfl rfl) ?_
  refine E.GL.run rfl rfl rfl (E.Runs.assign rfl rfl) ?_
  refine E.GL.done ?_
  refine E.QG.code ?_
  refine E.CG.seq ?_
  refine E.CG.list ?_
  refine E.GL.run rfl rfl rfl (E.Runs.loads (cs := [.slice m.A 2 m.a, .slice m.B 2 m.b, .slice m.C 2 m.c, .slice m.D 2 m.d]) rfl rfl hu25 rfl info25s (blk_cells b1)) ?_
  refine E.GL.st rfl rfl rfl (E.ST.call rfl ent16 (E.evc rfl (E.evc rfl (E.evc rfl E.evn))) ((really_calls eV m 1 1 _ (hEv.below lo) ex_sz).mono ?_))
  rintro e w25 ⟨rfl, l25⟩
  refine ⟨_, rfl, ?_⟩
  replace b1 := blk_below b1 l25
  replace L := below_step L l25
  replace lo := below_step lo l25
  rw [ex_span.1, ex_span.2, ex_errT]
  refine E.GL.run rfl rfl rfl (E.Runs.move rfl rfl) ?_
  refine E.GL.run rfl rfl rfl (E.Runs.extract rfl rfl rfl) ?_
  refine E.GL.run rfl rfl rfl (E.Runs.extract rfl rfl rfl) ?_
  refine E.GL.st rfl rfl rfl (E.ST.alloc rfl info34z fun g7 w7 e7 b7 l7 => ?_)
  have h7_L : w.heap.size ≤ g7 := by rw [e7]; exact L.size
  have h7_lo : w11.heap.size ≤ g7 := by rw [e7]; exact lo.size
  have n7_b1 : g1 ≠ g7 := by have := blk_lt b1; omega
  replace b1 := blk_below b1 l7
  replace L := below_step L l7
  replace lo := below_step lo l7
  refine E.GL.store_whole rfl rfl rfl rfl rfl b7 rfl info34s (two_one _ _) fun wS4_6 c7 lS4_6 => ?_
  replace b1 := blk_grown b1 lS4_6 (E.nes (by first | assumption | exact Ne.symm (by assumption)))
  replace L := E.below_own L h7_L lS4_6
  replace lo := E.below_own lo h7_lo lS4_6
  replace b7 := c7
  clear c7
  refine E.GL.run rfl rfl rfl (E.Runs.assign rfl rfl) ?_
  refine E.GL.done ?_
  refine E.QG.code ?_
  refine E.CG.seq ?_
  refine E.CG.list ?_
  refine E.GL.run rfl rfl rfl (E.Runs.loads (cs := [.slice m.A 2 m.a, .slice m.B 2 m.b, .slice m.C 2 m.c, .slice m.D 2 m.d]) rfl rfl hu25 rfl info25s (blk_cells b1)) ?_
  refine E.GL.st rfl rfl rfl (E.ST.call rfl ent17 (E.evc rfl E.evn) ((suspects_calls eV m _ (hEv.below lo) ex_sz).mono ?_))
  rintro e w30 ⟨v30, rfl, R30, l30⟩
  refine ⟨_, rfl, ?_⟩
  replace b1 := blk_below b1 l30
  replace b7 := blk_below b7 l30
  replace L := below_step L l30
  replace lo := below_step lo l30
  have lx := Below.refl w30.heap.size w30
  rw [ex_susp] at R30
  rw [ex_err]
  obtain ⟨A30, c30, hv30⟩ := Kd.R_slice R30
  subst hv30
  obtain ⟨_, _, C30⟩ := Kd.R_reads' R30
  refine E.GL.run rfl rfl rfl (E.Runs.move rfl rfl) ?_
  refine E.GL.run rfl rfl rfl (E.Runs.extract rfl rfl rfl) ?_
  refine E.GL.run rfl rfl rfl (E.Runs.extract rfl rfl rfl) ?_
  refine E.GL.run rfl rfl rfl (E.Runs.assign rfl rfl) ?_
  refine E.GL.run rfl rfl rfl (E.Runs.assign rfl rfl) ?_
  refine E.GL.done ?_
  refine E.QG.code ?_
  refine E.CG.seq ?_
  refine E.CG.list ?_
  refine E.GL.run rfl rfl rfl (E.Runs.move rfl rfl) ?_
  refine E.GL.run rfl rfl rfl (E.Runs.eql rfl rfl rfl (decide_eq_true rfl)) ?_
  refine E.GL.run rfl rfl rfl (E.Runs.move rfl rfl) ?_
  refine E.GL.run rfl rfl rfl (E.Runs.move rfl rfl) ?_
  refine E.GL.run rfl rfl rfl (E.Runs.eql rfl rfl rfl (decide_eq_true rfl)) ?_
  refine E.GL.run rfl rfl rfl (E.Runs.pick_t rfl rfl rfl) ?_
  refine E.GL.run rfl rfl rfl (E.Runs.move rfl rfl) ?_
  refine E.GL.run rfl rfl rfl (E.Runs.move rfl rfl) ?_
  refine E.GL.run rfl rfl rfl (E.Runs.eql rfl rfl rfl (decide_eq_true rfl)) ?_
  refine E.GL.run rfl rfl rfl (E.Runs.pick_t rfl rfl rfl) ?_
  refine E.GL.run rfl rfl rfl (E.Runs.move rfl rfl) ?_
  refine E.GL.run rfl rfl rfl (E.Runs.move rfl rfl) ?_
  refine E.GL.run rfl rfl rfl (E.Runs.eql rfl rfl rfl (decide_eq_true rfl)) ?_
  refine E.GL.run rfl rfl rfl (E.Runs.pick_t rfl rfl rfl) ?_
  refine E.GL.run rfl rfl rfl (E.Runs.move rfl rfl) ?_
  refine E.GL.run rfl rfl rfl (E.Runs.move rfl rfl) ?_
  refine E.GL.run rfl rfl rfl (E.Runs.eql rfl rfl rfl (decide_eq_true rfl)) ?_
  refine E.GL.run rfl rfl rfl (E.Runs.pick_t rfl rfl rfl) ?_
  refine E.GL.run rfl rfl rfl (E.Runs.move rfl rfl) ?_
  refine E.GL.run rfl rfl rfl (E.Runs.move rfl rfl) ?_
  refine E.GL.run rfl rfl rfl (E.Runs.eql rfl rfl rfl (decide_eq_true rfl)) ?_
  refine E.GL.run rfl rfl rfl (E.Runs.pick_t rfl rfl rfl) ?_
  refine E.GL.run rfl rfl rfl (E.Runs.move rfl rfl) ?_
  refine E.GL.run rfl rfl rfl (E.Runs.move rfl rfl) ?_
  refine E.GL.run rfl rfl rfl (E.Runs.eql rfl rfl rfl (decide_eq_true rfl)) ?_
  refine E.GL.run rfl rfl rfl (E.Runs.pick_t rfl rfl rfl) ?_
  refine E.GL.run rfl rfl rfl (E.Runs.move rfl rfl) ?_
  refine E.GL.run rfl rfl rfl (E.Runs.loads (cs := [.int .i64 4, .int .i64 4]) rfl rfl hu34 rfl info34s (blk_cells b7)) ?_
  refine E.GL.run rfl rfl rfl (E.Runs.build rfl (E.epc rfl (E.epc rfl E.epn)) (build34 _ _)) ?_
  refine E.GL.run rfl rfl rfl (E.Runs.eqlv rfl rfl rfl rfl (fun _ _ W => run_eqGuard_agg W _ _ _ _ _ _ Try.eqGuardType34) (equal34 _ _)) ?_
  refine E.GL.run rfl rfl rfl (E.Runs.pick_t rfl rfl rfl) ?_
  refine E.GL.run rfl rfl rfl (E.Runs.move rfl rfl) ?_
  refine E.GL.run rfl rfl rfl (E.Runs.move rfl rfl) ?_
  refine E.GL.st rfl rfl rfl (E.ST.litB (cs := (([1] : List Int).map (Value.int .i64)).toArray) rfl (E.epc rfl E.epn) (lit22_1 _) fun g66 w66 e66 b66 l66 => ?_)
  have h66_L : w.heap.size ≤ g66 := by rw [e66]; exact L.size
  have h66_lo : w11.heap.size ≤ g66 := by rw [e66]; exact lo.size
  have h66_lx : w30.heap.size ≤ g66 := by rw [e66]; exact lx.size
  have n66_b1 : g1 ≠ g66 := by have := blk_lt b1; omega
  have n66_b7 : g7 ≠ g66 := by have := blk_lt b7; omega
  replace b1 := blk_below b1 l66
  replace b7 := blk_below b7 l66
  replace L := below_step L l66
  replace lo := below_step lo l66
  replace lx := below_step lx l66
  refine E.GL.st rfl rfl rfl (E.ST.call rfl ent26 (E.evc rfl (E.evc rfl E.evn)) ((same_calls [1] [1] A30 _ c30 1 _ true (by simp) (Kd.C_below C30 lx) (C_nums [1] b66 (by decide)) (by decide)).mono ?_))
  rintro e w67 ⟨rfl, l67⟩
  refine ⟨_, rfl, ?_⟩
  replace b1 := blk_below b1 l67
  replace b7 := blk_below b7 l67
  replace b66 := blk_below b66 l67
  replace L := below_step L l67
  replace lo := below_step lo l67
  replace lx := below_step lx l67
  refine E.GL.run rfl rfl rfl (E.Runs.pick_t rfl rfl rfl) ?_
  refine E.GL.run rfl rfl rfl (E.Runs.assign rfl rfl) ?_
  refine E.GL.done ?_
  refine E.QG.code ?_
  refine E.CG.ret ?_
  exact E.QG.result rfl rfl ⟨rfl, L⟩

end Go.Proofs.Ytiplichdhcmjdaa.T
namespace Go.Proofs.Ytiplichdhcmjdaa.T
open Go.RowKit Go.Proofs.YtiplichdhcmjdaaW.PrintWords Go.Proofs.YtiplichdhcmjdaaW.PrintMore
open Go.Proofs.Ytiplichdhcmjdaa.P
set_option linter.unusedVariables false
set_option linter.unusedSimpArgs false

end Go.Proofs.Ytiplichdhcmjdaa.T
namespace Go.Proofs.Ytiplichdhcmjdaa.T
open Go.RowKit Go.Proofs.YtiplichdhcmjdaaW.PrintWords Go.Proofs.YtiplichdhcmjdaaW.PrintMore
open Go.Proofs.Ytiplichdhcmjdaa.P
set_option linter.unusedVariables false
set_option linter.unusedSimpArgs false

end Go.Proofs.Ytiplichdhcmjdaa.T
namespace Go.Proofs.Ytiplichdhcmjdaa.T
open Go.RowKit Go.Proofs.YtiplichdhcmjdaaW.PrintWords Go.Proofs.YtiplichdhcmjdaaW.PrintMore
open Go.Proofs.Ytiplichdhcmjdaa.P
set_option linter.unusedVariables false
set_option linter.unusedSimpArgs false

theorem bl_tbs {V : Ev} (ok : VOk V) {t : List Bl} {i : Nat} (h : Ws V i t) : (t.map (tb V.ps.length)).map bl = t := by
  rw [List.map_map]
  refine List.ext_getElem? fun j => ?_
  rw [List.getElem?_map]
  cases hj : t[j]? with
  | none => rfl
  | some b => exact congrArg some (tb_bl ok.n1 ok.n3 (Ws_get h hj))
theorem err_ok {V : Ev} (h : errV V = 0) : VOk V ∧ ∃ t, Truth V t := by
  rcases errV_cases V with ⟨_, h1⟩ | ⟨_, _, h1⟩ | ⟨h1, h2, _⟩
  · rw [h1] at h; cases h
  · rw [h1] at h; cases h
  · exact ⟨h1, h2⟩
/-- What Explain says. -/
structure ExR (V : Ev) (ts : List (List Int)) : Prop where
  ok : VOk V
  t : IsT V ts
  f : flT V 0 (ts.map bl) = fewA V
  l : Lkly V (ts.map bl)
theorem exR_of {V : Ev} (h : errV V = 0) {t : List Bl} (ht : Lkly V t) : ExR V (t.map (tb V.ps.length)) := by
  obtain ⟨ok, _⟩ := err_ok h
  have hm := bl_tbs ok ht.1.2.1
  refine ⟨ok, isT_of ok ht.1, ?_, by rw [hm]; exact ht⟩
  rw [hm, ht.2]
  unfold fewA
  rw [if_pos h]
theorem exR_all {V : Ev} {ts : List (List Int)} (h : (errV V ≠ 0 ∧ ts = []) ∨ (errV V = 0 ∧ ∃ t, Lkly V t ∧ ts = t.map (tb V.ps.length))) : (errV V ≠ 0 → ts.length = 0) ∧ (errV V = 0 → ExR V ts) := by
  rcases h with ⟨h1, rfl⟩ | ⟨h1, t, ht, rfl⟩
  · exact ⟨fun _ => rfl, fun k => absurd k h1⟩
  · exact ⟨fun k => absurd h1 k, fun _ => exR_of h1 ht⟩
set_option maxRecDepth 100000 in
set_option maxHeartbeats 8000000 in

theorem really_law (V : Ev) (m : Ea) (till sh : Int) (w : World) (hV : EvM w V m) (hmb : V.qs.length ≤ m.b) :
    Calls Try.prog 11 #[hv V m, .int .i64 till, .int .i64 sh] w fun e w' => e = .returned (.bool true) ∧ Below w.heap.size w w' := by
  have hu3 := Try.underlying3
  have hu22 := Try.underlying22
  have hu25 := Try.underlying25
  have hu28 := Try.underlying28
  have hu34 := Try.underlying34
  have hu42 := Try.underlying42
  refine E.enter (N := 108) Try.func11 rfl Try.ntmps11 (args := [hv V m, .int .i64 till, .int .i64 sh]) (by simp) ?_
  have L := Below.refl w.heap.size w
  refine E.CG.seq ?_
  refine E.CG.list ?_
  refine E.GL.st rfl rfl rfl (E.ST.box rfl rfl fun g3 w3 e3 b3 l3 => ?_)
  have h3_L : w.heap.size ≤ g3 := by rw [e3]; exact L.size
  replace L := below_step L l3
  refine E.GL.run rfl rfl rfl (E.Runs.assign rfl rfl) ?_
  refine E.GL.done ?_
  refine E.QG.code ?_
  refine E.CG.seq ?_
  refine E.CG.seq ?_
  refine E.CG.list ?_
  refine E.GL.run rfl rfl rfl (E.Runs.loads (cs := [.slice m.A V.ps.length m.a, .slice m.B V.qs.length m.b, .slice m.C V.ts.length m.c, .slice m.D V.cs.length m.d]) rfl rfl hu25 rfl info25s (blk_cells b3)) ?_
  by_cases h21 : farV V
  · refine E.GL.st rfl rfl rfl (E.ST.call rfl ent20 (E.evc rfl E.evn) ((far_calls V m _ (hV.below L) true (iff_of_true rfl h21)).mono ?_))
    rintro e w21 ⟨rfl, l21⟩
    refine ⟨_, rfl, ?_⟩
    replace b3 := blk_below b3 l21
    replace L := below_step L l21
    refine E.GL.done ?_
    refine E.QG.code ?_
    refine E.CG.cond_t rfl ?_
    refine E.CG.seq ?_
    refine E.CG.list ?_
    refine E.GL.st rfl rfl rfl (E.ST.call rfl ent13 E.evn ((works_calls _).mono ?_))
    rintro e w22 ⟨rfl, l22⟩
    refine ⟨_, rfl, ?_⟩
    replace b3 := blk_below b3 l22
    replace L := below_step L l22
    refine E.GL.run rfl rfl rfl (E.Runs.assign rfl rfl) ?_
    refine E.GL.done ?_
    refine E.QG.code ?_
    refine E.CG.ret ?_
    refine E.QG.pass_ret ?_
    exact E.QG.result rfl rfl ⟨rfl, L⟩
  · have hs : Sz V := not_far h21
    refine E.GL.st rfl rfl rfl (E.ST.call rfl ent20 (E.evc rfl E.evn) ((far_calls V m _ (hV.below L) false (iff_of_false Bool.false_ne_true h21)).mono ?_))
    rintro e w21 ⟨rfl, l21⟩
    refine ⟨_, rfl, ?_⟩
    replace b3 := blk_below b3 l21
    replace L := below_step L l21
    refine E.GL.done ?_
    refine E.QG.code ?_
    refine E.CG.cond_f rfl ?_
    refine E.CG.skip ?_
    refine E.QG.code ?_
    refine E.CG.seq ?_
    refine E.CG.list ?_
    refine E.GL.run rfl rfl rfl (E.Runs.loads (cs := [.slice m.A V.ps.length m.a, .slice m.B V.qs.length m.b, .slice m.C V.ts.length m.c, .slice m.D V.cs.length m.d]) rfl rfl hu25 rfl info25s (blk_cells b3)) ?_
    refine E.GL.st rfl rfl rfl (E.ST.call rfl ent21 (E.evc rfl E.evn) ((copy_calls V m _ (hV.below L) hs).mono ?_))
    rintro e w24 ⟨mc, rfl, hR, l24⟩
    refine ⟨_, rfl, ?_⟩
    replace b3 := blk_below b3 l24
    replace L := below_step L l24
    have lo := Below.refl w24.heap.size w24
    refine E.GL.st rfl rfl rfl (E.ST.alloc rfl info25z fun g7 w7 e7 b7 l7 => ?_)
    have h7_L : w.heap.size ≤ g7 := by rw [e7]; exact L.size
    have h7_lo : w24.heap.size ≤ g7 := by rw [e7]; exact lo.size
    have n7_b3 : g3 ≠ g7 := by have := blk_lt b3; omega
    replace b3 := blk_below b3 l7
    replace L := below_step L l7
    replace lo := below_step lo l7
    refine E.GL.store_whole rfl rfl rfl rfl rfl b7 rfl info25s (slices4_one _ _ _ _ _ _ _ _ _ _ _ _) fun wS3_3 c7 lS3_3 => ?_
    replace b3 := blk_grown b3 lS3_3 (E.nes (by first | assumption | exact Ne.symm (by assumption)))
    replace L := E.below_own L h7_L lS3_3
    replace lo := E.below_own lo h7_lo lS3_3
    replace b7 := c7
    clear c7
    refine E.GL.done ?_
    refine E.QG.code ?_
    refine E.CG.seq ?_
    refine E.CG.list ?_
    refine E.GL.run rfl rfl rfl (E.Runs.loads (cs := [.slice mc.A V.ps.length mc.a, .slice mc.B V.qs.length mc.b, .slice mc.C V.ts.length mc.c, .slice mc.D V.cs.length mc.d]) rfl rfl hu25 rfl info25s (blk_cells b7)) ?_
    refine E.GL.run rfl rfl rfl (E.Runs.move rfl rfl) ?_
    refine E.GL.run rfl rfl rfl (E.Runs.move rfl rfl) ?_
    refine E.GL.st rfl rfl rfl (E.ST.call rfl ent16 (E.evc rfl (E.evc rfl (E.evc rfl E.evn))) ((really_calls V mc till sh _ (hR.ev.below lo) hs).mono ?_))
    rintro e w29 ⟨rfl, l29⟩
    refine ⟨_, rfl, ?_⟩
    replace b3 := blk_below b3 l29
    replace b7 := blk_below b7 l29
    replace L := below_step L l29
    replace lo := below_step lo l29
    refine E.GL.run rfl rfl rfl (E.Runs.move rfl rfl) ?_
    refine E.GL.run rfl rfl rfl (E.Runs.extract rfl rfl rfl) ?_
    refine E.GL.run rfl rfl rfl (E.Runs.extract rfl rfl rfl) ?_
    refine E.GL.st rfl rfl rfl (E.ST.alloc rfl info34z fun g8 w8 e8 b8 l8 => ?_)
    have h8_L : w.heap.size ≤ g8 := by rw [e8]; exact L.size
    have h8_lo : w24.heap.size ≤ g8 := by rw [e8]; exact lo.size
    have n8_b3 : g3 ≠ g8 := by have := blk_lt b3; omega
    have n8_b7 : g7 ≠ g8 := by have := blk_lt b7; omega
    replace b3 := blk_below b3 l8
    replace b7 := blk_below b7 l8
    replace L := below_step L l8
    replace lo := below_step lo l8
    refine E.GL.store_whole rfl rfl rfl rfl rfl b8 rfl info34s (two_one _ _) fun wS4_8 c8 lS4_8 => ?_
    replace b3 := blk_grown b3 lS4_8 (E.nes (by first | assumption | exact Ne.symm (by assumption)))
    replace b7 := blk_grown b7 lS4_8 (E.nes (by first | assumption | exact Ne.symm (by assumption)))
    replace L := E.below_own L h8_L lS4_8
    replace lo := E.below_own lo h8_lo lS4_8
    replace b8 := c8
    clear c8
    refine E.GL.run rfl rfl rfl (E.Runs.assign rfl rfl) ?_
    refine E.GL.done ?_
    refine E.QG.code ?_
    refine E.CG.seq ?_
    refine E.CG.list ?_
    refine E.GL.run rfl rfl rfl (E.Runs.loads (cs := [.slice m.A V.ps.length m.a, .slice m.B V.qs.length m.b, .slice m.C V.ts.length m.c, .slice m.D V.cs.length m.d]) rfl rfl hu25 rfl info25s (blk_cells b3)) ?_
    refine E.GL.run rfl rfl rfl (E.Runs.move rfl rfl) ?_
    refine E.GL.run rfl rfl rfl (E.Runs.move rfl rfl) ?_
    refine E.GL.st rfl rfl rfl (E.ST.call rfl ent40 (E.evc rfl (E.evc rfl (E.evc rfl E.evn))) ((really_r V m till sh _ (hV.below L) hs hmb).mono ?_))
    rintro e w36 ⟨rfl, l36⟩
    refine ⟨_, rfl, ?_⟩
    replace b3 := blk_below b3 l36
    replace b7 := blk_below b7 l36
    replace b8 := blk_below b8 l36
    replace L := below_step L l36
    replace lo := below_step lo l36
    refine E.GL.run rfl rfl rfl (E.Runs.move rfl rfl) ?_
    refine E.GL.run rfl rfl rfl (E.Runs.extract rfl rfl rfl) ?_
    refine E.GL.run rfl rfl rfl (E.Runs.extract rfl rfl rfl) ?_
    refine E.GL.st rfl rfl rfl (E.ST.alloc rfl info34z fun g10 w10 e10 b10 l10 => ?_)
    have h10_L : w.heap.size ≤ g10 := by rw [e10]; exact L.size
    have h10_lo : w24.heap.size ≤ g10 := by rw [e10]; exact lo.size
    have n10_b3 : g3 ≠ g10 := by have := blk_lt b3; omega
    have n10_b7 : g7 ≠ g10 := by have := blk_lt b7; omega
    have n10_b8 : g8 ≠ g10 := by have := blk_lt b8; omega
    replace b3 := blk_below b3 l10
    replace b7 := blk_below b7 l10
    replace b8 := blk_below b8 l10
    replace L := below_step L l10
    replace lo := below_step lo l10
    refine E.GL.store_whole rfl rfl rfl rfl rfl b10 rfl info34s (two_one _ _) fun wS5_8 c10 lS5_8 => ?_
    replace b3 := blk_grown b3 lS5_8 (E.nes (by first | assumption | exact Ne.symm (by assumption)))
    replace b7 := blk_grown b7 lS5_8 (E.nes (by first | assumption | exact Ne.symm (by assumption)))
    replace b8 := blk_grown b8 lS5_8 (E.nes (by first | assumption | exact Ne.symm (by assumption)))
    replace L := E.below_own L h10_L lS5_8
    replace lo := E.below_own lo h10_lo lS5_8
    replace b10 := c10
    clear c10
    refine E.GL.run rfl rfl rfl (E.Runs.assign rfl rfl) ?_
    refine E.GL.done ?_
    refine E.QG.code ?_
    refine E.CG.seq ?_
    refine E.CG.list ?_
    refine E.GL.run rfl rfl rfl (E.Runs.loads (cs := [.slice mc.A V.ps.length mc.a, .slice mc.B V.qs.length mc.b, .slice mc.C V.ts.length mc.c, .slice mc.D V.cs.length mc.d]) rfl rfl hu25 rfl info25s (blk_cells b7)) ?_
    refine E.GL.run rfl rfl rfl (E.Runs.move rfl rfl) ?_
    refine E.GL.st rfl rfl rfl (E.ST.call rfl ent31 (E.evc rfl (E.evc rfl E.evn)) ((missing_calls V mc till _ (hR.ev.below lo) hs).mono ?_))
    rintro e w42 ⟨rfl, l42⟩
    refine ⟨_, rfl, ?_⟩
    replace b3 := blk_below b3 l42
    replace b7 := blk_below b7 l42
    replace b8 := blk_below b8 l42
    replace b10 := blk_below b10 l42
    replace L := below_step L l42
    replace lo := below_step lo l42
    refine E.GL.run rfl rfl rfl (E.Runs.move rfl rfl) ?_
    refine E.GL.run rfl rfl rfl (E.Runs.extract rfl rfl rfl) ?_
    refine E.GL.run rfl rfl rfl (E.Runs.extract rfl rfl rfl) ?_
    refine E.GL.st rfl rfl rfl (E.ST.alloc rfl info34z fun g12 w12 e12 b12 l12 => ?_)
    have h12_L : w.heap.size ≤ g12 := by rw [e12]; exact L.size
    have h12_lo : w24.heap.size ≤ g12 := by rw [e12]; exact lo.size
    have n12_b3 : g3 ≠ g12 := by have := blk_lt b3; omega
    have n12_b7 : g7 ≠ g12 := by have := blk_lt b7; omega
    have n12_b8 : g8 ≠ g12 := by have := blk_lt b8; omega
    have n12_b10 : g10 ≠ g12 := by have := blk_lt b10; omega
    replace b3 := blk_below b3 l12
    replace b7 := blk_below b7 l12
    replace b8 := blk_below b8 l12
    replace b10 := blk_below b10 l12
    replace L := below_step L l12
    replace lo := below_step lo l12
    refine E.GL.store_whole rfl rfl rfl rfl rfl b12 rfl info34s (two_one _ _) fun wS6_7 c12 lS6_7 => ?_
    replace b3 := blk_grown b3 lS6_7 (E.nes (by first | assumption | exact Ne.symm (by assumption)))
    replace b7 := blk_grown b7 lS6_7 (E.nes (by first | assumption | exact Ne.symm (by assumption)))
    replace b8 := blk_grown b8 lS6_7 (E.nes (by first | assumption | exact Ne.symm (by assumption)))
    replace b10 := blk_grown b10 lS6_7 (E.nes (by first | assumption | exact Ne.symm (by assumption)))
    replace L := E.below_own L h12_L lS6_7
    replace lo := E.below_own lo h12_lo lS6_7
    replace b12 := c12
    clear c12
    refine E.GL.run rfl rfl rfl (E.Runs.assign rfl rfl) ?_
    refine E.GL.done ?_
    refine E.QG.code ?_
    refine E.CG.seq ?_
    refine E.CG.list ?_
    refine E.GL.run rfl rfl rfl (E.Runs.loads (cs := [.slice m.A V.ps.length m.a, .slice m.B V.qs.length m.b, .slice m.C V.ts.length m.c, .slice m.D V.cs.length m.d]) rfl rfl hu25 rfl info25s (blk_cells b3)) ?_
    refine E.GL.run rfl rfl rfl (E.Runs.move rfl rfl) ?_
    refine E.GL.st rfl rfl rfl (E.ST.call rfl ent41 (E.evc rfl (E.evc rfl E.evn)) ((missing_r V m till _ (hV.below L) hs hmb).mono ?_))
    rintro e w48 ⟨rfl, l48⟩
    refine ⟨_, rfl, ?_⟩
    replace b3 := blk_below b3 l48
    replace b7 := blk_below b7 l48
    replace b8 := blk_below b8 l48
    replace b10 := blk_below b10 l48
    replace b12 := blk_below b12 l48
    replace L := below_step L l48
    replace lo := below_step lo l48
    refine E.GL.run rfl rfl rfl (E.Runs.move rfl rfl) ?_
    refine E.GL.run rfl rfl rfl (E.Runs.extract rfl rfl rfl) ?_
    refine E.GL.run rfl rfl rfl (E.Runs.extract rfl rfl rfl) ?_
    refine E.GL.st rfl rfl rfl (E.ST.alloc rfl info34z fun g14 w14 e14 b14 l14 => ?_)
    have h14_L : w.heap.size ≤ g14 := by rw [e14]; exact L.size
    have h14_lo : w24.heap.size ≤ g14 := by rw [e14]; exact lo.size
    have n14_b3 : g3 ≠ g14 := by have := blk_lt b3; omega
    have n14_b7 : g7 ≠ g14 := by have := blk_lt b7; omega
    have n14_b8 : g8 ≠ g14 := by have := blk_lt b8; omega
    have n14_b10 : g10 ≠ g14 := by have := blk_lt b10; omega
    have n14_b12 : g12 ≠ g14 := by have := blk_lt b12; omega
    replace b3 := blk_below b3 l14
    replace b7 := blk_below b7 l14
    replace b8 := blk_below b8 l14
    replace b10 := blk_below b10 l14
    replace b12 := blk_below b12 l14
    replace L := below_step L l14
    replace lo := below_step lo l14
    refine E.GL.store_whole rfl rfl rfl rfl rfl b14 rfl info34s (two_one _ _) fun wS7_7 c14 lS7_7 => ?_
    replace b3 := blk_grown b3 lS7_7 (E.nes (by first | assumption | exact Ne.symm (by assumption)))
    replace b7 := blk_grown b7 lS7_7 (E.nes (by first | assumption | exact Ne.symm (by assumption)))
    replace b8 := blk_grown b8 lS7_7 (E.nes (by first | assumption | exact Ne.symm (by assumption)))
    replace b10 := blk_grown b10 lS7_7 (E.nes (by first | assumption | exact Ne.symm (by assumption)))
    replace b12 := blk_grown b12 lS7_7 (E.nes (by first | assumption | exact Ne.symm (by assumption)))
    replace L := E.below_own L h14_L lS7_7
    replace lo := E.below_own lo h14_lo lS7_7
    replace b14 := c14
    clear c14
    refine E.GL.run rfl rfl rfl (E.Runs.assign rfl rfl) ?_
    refine E.GL.done ?_
    refine E.QG.code ?_
    refine E.CG.seq ?_
    refine E.CG.seq ?_
    refine E.CG.list ?_
    refine E.GL.run rfl rfl rfl (E.Runs.loads (cs := [.int .i64 (loV V till sh (fun b => b.get sh.toNat)), .int .i64 (hiV V till sh (fun b => b.get sh.toNat))]) rfl rfl hu34 rfl info34s (blk_cells b8)) ?_
    refine E.GL.run rfl rfl rfl (E.Runs.loads (cs := [.int .i64 (loV V till sh (fun b => b.get sh.toNat)), .int .i64 (hiV V till sh (fun b => b.get sh.toNat))]) rfl rfl hu34 rfl info34s (blk_cells b10)) ?_
    refine E.GL.run rfl rfl rfl (E.Runs.neqv rfl rfl rfl rfl (fun _ _ W => run_eqGuard_agg W _ _ _ _ _ _ Try.eqGuardType34) (equal34 _ _) rfl) ?_
    refine E.GL.run rfl rfl rfl (E.Runs.move rfl rfl) ?_
    refine E.GL.run rfl rfl rfl (E.Runs.move rfl rfl) ?_
    refine E.GL.run rfl rfl rfl (E.Runs.move rfl rfl) ?_
    refine E.GL.run rfl rfl rfl (E.Runs.neq rfl rfl rfl (E.ne_f rfl)) ?_
    refine E.GL.run rfl rfl rfl (E.Runs.pick_f rfl rfl rfl) ?_
    refine E.GL.run rfl rfl rfl (E.Runs.move rfl rfl) ?_
    refine E.GL.run rfl rfl rfl (E.Runs.loads (cs := [.int .i64 (loV V till 0 (lackQ V till)), .int .i64 (hiV V till 0 (lackQ V till))]) rfl rfl hu34 rfl info34s (blk_cells b12)) ?_
    refine E.GL.run rfl rfl rfl (E.Runs.loads (cs := [.int .i64 (loV V till 0 (lackQ V till)), .int .i64 (hiV V till 0 (lackQ V till))]) rfl rfl hu34 rfl info34s (blk_cells b14)) ?_
    refine E.GL.run rfl rfl rfl (E.Runs.neqv rfl rfl rfl rfl (fun _ _ W => run_eqGuard_agg W _ _ _ _ _ _ Try.eqGuardType34) (equal34 _ _) rfl) ?_
    refine E.GL.run rfl rfl rfl (E.Runs.pick_f rfl rfl rfl) ?_
    refine E.GL.run rfl rfl rfl (E.Runs.move rfl rfl) ?_
    refine E.GL.run rfl rfl rfl (E.Runs.move rfl rfl) ?_
    refine E.GL.run rfl rfl rfl (E.Runs.move rfl rfl) ?_
    refine E.GL.run rfl rfl rfl (E.Runs.neq rfl rfl rfl (E.ne_f rfl)) ?_
    refine E.GL.run rfl rfl rfl (E.Runs.pick_f rfl rfl rfl) ?_
    refine E.GL.done ?_
    refine E.QG.code ?_
    refine E.CG.cond_f rfl ?_
    refine E.CG.skip ?_
    refine E.QG.code ?_
    refine E.CG.seq ?_
    refine E.CG.list ?_
    refine E.GL.run rfl rfl rfl (E.Runs.loads (cs := [.slice mc.A V.ps.length mc.a, .slice mc.B V.qs.length mc.b, .slice mc.C V.ts.length mc.c, .slice mc.D V.cs.length mc.d]) rfl rfl hu25 rfl info25s (blk_cells b7)) ?_
    refine E.GL.st rfl rfl rfl (E.ST.call rfl ent39 (E.evc rfl E.evn) ((explain_calls V mc _ (hR.ev.below lo) hs).mono ?_))
    rintro e w71 ⟨v71, ts, rfl, R71, hX, l71⟩
    refine ⟨_, rfl, ?_⟩
    replace b3 := blk_below b3 l71
    replace b7 := blk_below b7 l71
    replace b8 := blk_below b8 l71
    replace b10 := blk_below b10 l71
    replace b12 := blk_below b12 l71
    replace b14 := blk_below b14 l71
    replace L := below_step L l71
    replace lo := below_step lo l71
    have la := Below.refl w71.heap.size w71
    replace hX := exR_all hX
    obtain ⟨A71, c71, hv71⟩ := Kd.R_slice R71
    subst hv71
    obtain ⟨_, _, C71⟩ := Kd.R_reads' R71
    refine E.GL.run rfl rfl rfl (E.Runs.move rfl rfl) ?_
    refine E.GL.run rfl rfl rfl (E.Runs.extract rfl rfl rfl) ?_
    refine E.GL.run rfl rfl rfl (E.Runs.extract rfl rfl rfl) ?_
    refine E.GL.run rfl rfl rfl (E.Runs.assign rfl rfl) ?_
    refine E.GL.run rfl rfl rfl (E.Runs.assign rfl rfl) ?_
    refine E.GL.done ?_
    refine E.QG.code ?_
    refine E.CG.seq ?_
    refine E.CG.seq ?_
    refine E.CG.list ?_
    refine E.GL.run rfl rfl rfl (E.Runs.move rfl rfl) ?_
    refine E.GL.run rfl rfl rfl (E.Runs.loads (cs := [.slice m.A V.ps.length m.a, .slice m.B V.qs.length m.b, .slice m.C V.ts.length m.c, .slice m.D V.cs.length m.d]) rfl rfl hu25 rfl info25s (blk_cells b3)) ?_
    refine E.GL.st rfl rfl rfl (E.ST.call rfl ent42 (E.evc rfl E.evn) ((checkTruth_r V m _ (hV.below L) hs hmb).mono ?_))
    rintro e w76 ⟨rfl, l76⟩
    refine ⟨_, rfl, ?_⟩
    replace b3 := blk_below b3 l76
    replace b7 := blk_below b7 l76
    replace b8 := blk_below b8 l76
    replace b10 := blk_below b10 l76
    replace b12 := blk_below b12 l76
    replace b14 := blk_below b14 l76
    replace L := below_step L l76
    replace lo := below_step lo l76
    replace la := below_step la l76
    refine E.GL.run rfl rfl rfl (E.Runs.neq rfl rfl rfl (E.ne_f rfl)) ?_
    refine E.GL.run rfl rfl rfl (E.Runs.move rfl rfl) ?_
    refine E.GL.run rfl rfl rfl (E.Runs.move rfl rfl) ?_
    refine E.GL.cmpn rfl rfl rfl (fun _ h => (E.Runs.neq rfl rfl rfl h)) (fun h80 => ?_) (fun h80 => ?_)
    · have hlen := hX.1 h80
      refine E.GL.run rfl rfl rfl (E.Runs.move rfl rfl) ?_
      refine E.GL.run rfl rfl rfl (E.Runs.move rfl rfl) ?_
      refine E.GL.run rfl rfl rfl (E.Runs.len rfl rfl hu42) ?_
      refine E.GL.run rfl rfl rfl (E.Runs.gtr rfl rfl rfl (decide_eq_false (by omega))) ?_
      refine E.GL.run rfl rfl rfl (E.Runs.pick_t rfl rfl rfl) ?_
      refine E.GL.run rfl rfl rfl (E.Runs.pick_f rfl rfl rfl) ?_
      refine E.GL.done ?_
      refine E.QG.code ?_
      refine E.CG.cond_f rfl ?_
      refine E.CG.skip ?_
      refine E.QG.code ?_
      refine E.CG.seq ?_
      refine E.CG.seq ?_
      refine E.CG.list ?_
      refine E.GL.run rfl rfl rfl (E.Runs.move rfl rfl) ?_
      refine E.GL.run rfl rfl rfl (E.Runs.neq rfl rfl rfl (E.ne_t h80)) ?_
      refine E.GL.done ?_
      refine E.QG.code ?_
      refine E.CG.cond_t rfl ?_
      refine E.CG.seq ?_
      refine E.CG.list ?_
      refine E.GL.st rfl rfl rfl (E.ST.call rfl ent13 E.evn ((works_calls _).mono ?_))
      rintro e w89 ⟨rfl, l89⟩
      refine ⟨_, rfl, ?_⟩
      replace b3 := blk_below b3 l89
      replace b7 := blk_below b7 l89
      replace b8 := blk_below b8 l89
      replace b10 := blk_below b10 l89
      replace b12 := blk_below b12 l89
      replace b14 := blk_below b14 l89
      replace L := below_step L l89
      replace lo := below_step lo l89
      replace la := below_step la l89
      refine E.GL.run rfl rfl rfl (E.Runs.assign rfl rfl) ?_
      refine E.GL.done ?_
      refine E.QG.code ?_
      refine E.CG.ret ?_
      refine E.QG.pass_ret ?_
      exact E.QG.result rfl rfl ⟨rfl, L⟩
    · have hE := hX.2 h80
      refine E.GL.run rfl rfl rfl (E.Runs.move rfl rfl) ?_
      refine E.GL.skip rfl rfl rfl ?_
      refine E.GL.skip rfl rfl rfl ?_
      refine E.GL.skip rfl rfl rfl ?_
      refine E.GL.run rfl rfl rfl (E.Runs.pick_f rfl rfl rfl) ?_
      refine E.GL.run rfl rfl rfl (E.Runs.pick_f rfl rfl rfl) ?_
      refine E.GL.done ?_
      refine E.QG.code ?_
      refine E.CG.cond_f rfl ?_
      refine E.CG.skip ?_
      refine E.QG.code ?_
      refine E.CG.seq ?_
      refine E.CG.seq ?_
      refine E.CG.list ?_
      refine E.GL.run rfl rfl rfl (E.Runs.move rfl rfl) ?_
      refine E.GL.run rfl rfl rfl (E.Runs.neq rfl rfl rfl (E.ne_f h80)) ?_
      refine E.GL.done ?_
      refine E.QG.code ?_
      refine E.CG.cond_f rfl ?_
      refine E.CG.skip ?_
      refine E.QG.code ?_
      refine E.CG.seq ?_
      refine E.CG.list ?_
      refine E.GL.run rfl rfl rfl (E.Runs.loads (cs := [.slice m.A V.ps.length m.a, .slice m.B V.qs.length m.b, .slice m.C V.ts.length m.c, .slice m.D V.cs.length m.d]) rfl rfl hu25 rfl info25s (blk_cells b3)) ?_
      refine E.GL.st rfl rfl rfl (E.ST.call rfl ent22 (E.evc rfl E.evn) ((fewest_r V m _ (hV.below L) hs hmb).mono ?_))
      rintro e w92 ⟨rfl, l92⟩
      refine ⟨_, rfl, ?_⟩
      replace b3 := blk_below b3 l92
      replace b7 := blk_below b7 l92
      replace b8 := blk_below b8 l92
      replace b10 := blk_below b10 l92
      replace b12 := blk_below b12 l92
      replace b14 := blk_below b14 l92
      replace L := below_step L l92
      replace lo := below_step lo l92
      replace la := below_step la l92
      refine E.GL.run rfl rfl rfl (E.Runs.move rfl rfl) ?_
      refine E.GL.run rfl rfl rfl (E.Runs.extract rfl rfl rfl) ?_
      refine E.GL.run rfl rfl rfl (E.Runs.extract rfl rfl rfl) ?_
      refine E.GL.run rfl rfl rfl (E.Runs.assign rfl rfl) ?_
      refine E.GL.run rfl rfl rfl (E.Runs.assign rfl rfl) ?_
      refine E.GL.done ?_
      refine E.QG.code ?_
      refine E.CG.seq ?_
      refine E.CG.list ?_
      refine E.GL.run rfl rfl rfl (E.Runs.loads (cs := [.slice m.A V.ps.length m.a, .slice m.B V.qs.length m.b, .slice m.C V.ts.length m.c, .slice m.D V.cs.length m.d]) rfl rfl hu25 rfl info25s (blk_cells b3)) ?_
      refine E.GL.run rfl rfl rfl (E.Runs.move rfl rfl) ?_
      refine E.GL.st rfl rfl rfl (E.ST.call rfl ent18 (E.evc rfl (E.evc rfl E.evn)) ((isTruth_calls V m ts A71 c71 _ (hV.below L) hE.ok (Kd.C_below C71 la) true (by simp [hE.t])).mono ?_))
      rintro e w97 ⟨rfl, l97⟩
      refine ⟨_, rfl, ?_⟩
      replace b3 := blk_below b3 l97
      replace b7 := blk_below b7 l97
      replace b8 := blk_below b8 l97
      replace b10 := blk_below b10 l97
      replace b12 := blk_below b12 l97
      replace b14 := blk_below b14 l97
      replace L := below_step L l97
      replace lo := below_step lo l97
      replace la := below_step la l97
      refine E.GL.run rfl rfl rfl (E.Runs.move rfl rfl) ?_
      refine E.GL.run rfl rfl rfl (E.Runs.loads (cs := [.slice m.A V.ps.length m.a, .slice m.B V.qs.length m.b, .slice m.C V.ts.length m.c, .slice m.D V.cs.length m.d]) rfl rfl hu25 rfl info25s (blk_cells b3)) ?_
      refine E.GL.run rfl rfl rfl (E.Runs.move rfl rfl) ?_
      refine E.GL.st rfl rfl rfl (E.ST.call rfl ent28 (E.evc rfl (E.evc rfl E.evn)) ((all_calls V m ts A71 c71 _ (hV.below L) hE.ok (Kd.C_below C71 la) hE.t).mono ?_))
      rintro e w101 ⟨rfl, l101⟩
      refine ⟨_, rfl, ?_⟩
      replace b3 := blk_below b3 l101
      replace b7 := blk_below b7 l101
      replace b8 := blk_below b8 l101
      replace b10 := blk_below b10 l101
      replace b12 := blk_below b12 l101
      replace b14 := blk_below b14 l101
      replace L := below_step L l101
      replace lo := below_step lo l101
      replace la := below_step la l101
      refine E.GL.run rfl rfl rfl (E.Runs.move rfl rfl) ?_
      refine E.GL.run rfl rfl rfl (E.Runs.eql rfl rfl rfl (decide_eq_true hE.f)) ?_
      refine E.GL.run rfl rfl rfl (E.Runs.pick_t rfl rfl rfl) ?_
      refine E.GL.run rfl rfl rfl (E.Runs.move rfl rfl) ?_
      refine E.GL.st rfl rfl rfl (E.ST.call rfl ent13 E.evn ((works_calls _).mono ?_))
      rintro e w106 ⟨rfl, l106⟩
      refine ⟨_, rfl, ?_⟩
      replace b3 := blk_below b3 l106
      replace b7 := blk_below b7 l106
      replace b8 := blk_below b8 l106
      replace b10 := blk_below b10 l106
      replace b12 := blk_below b12 l106
      replace b14 := blk_below b14 l106
      replace L := below_step L l106
      replace lo := below_step lo l106
      replace la := below_step la l106
      refine E.GL.run rfl rfl rfl (E.Runs.pick_t rfl rfl rfl) ?_
      refine E.GL.run rfl rfl rfl (E.Runs.assign rfl rfl) ?_
      refine E.GL.done ?_
      refine E.QG.code ?_
      refine E.CG.ret ?_
      exact E.QG.result rfl rfl ⟨rfl, L⟩

end Go.Proofs.Ytiplichdhcmjdaa.T
namespace Go.Proofs.Ytiplichdhcmjdaa.T
open Go.ChangeShapes Go.WideShapes Go.ChangeAt Go.Deep
open Go.RowKit Go.Proofs.YtiplichdhcmjdaaW.PrintWords Go.Proofs.YtiplichdhcmjdaaW.PrintMore
open Go.Proofs.Ytiplichdhcmjdaa.P
set_option linter.unusedVariables false
set_option linter.unusedSimpArgs false

section
variable {X : Type} {enc : TypeId × Value → X} {w : World} {base : Nat} {spare : Nat → Bool} {held : Bool}
theorem fld {fs : Array Field} {n : Nat} {cs : List Value} {xs : List (DataW X × List MemPlace)} (hlen : xs.length = fs.size) (hg : ∀ (i : Nat) (f : Field), fs[i]? = some f → DataW.trod enc Try.prog w base spare held n f.type ((cs.drop f.offset).take (Try.prog.cellsOf f.type)) = xs[i]?) (i : Nat) (f : Field) (hf : fs[i]? = some f)
    (ty : TypeId) (off k : Nat) (h1 : f.type = ty) (h2 : f.offset = off) (h3 : Try.prog.cellsOf ty = k) :
    ∃ y, DataW.trod enc Try.prog w base spare held n ty ((cs.drop off).take k) = some y := by
  have hi : i < xs.length := by rw [hlen]; exact (Array.getElem?_eq_some_iff.1 hf).1
  subst h1 h2 h3
  exact ⟨_, (hg i f hf).trans (List.getElem?_eq_getElem hi)⟩

theorem ocells3 : Try.prog.cellsOf 3 = 1 := by kernel_rfl

theorem trod3 {n : Nat} {cs : List Value} {x : DataW X × List MemPlace} (h : DataW.trod enc Try.prog w base spare held n 3 cs = some x) : ∃ (a : Int), cs = [.int .i64 a] := by
  obtain ⟨a, hc, _⟩ := DataW.trod_int Try.underlying3 h
  exact ⟨a, hc⟩

set_option maxRecDepth 100000 in
theorem int_open {r : Reach} {b0 : Nat} {v : Value} {d : DataW X} {p : List MemPlace} (hval : Value.okWide Try.prog w r b0 3 v) (h : DataW.Trod enc Try.prog w base spare held 3 v d p) : ∃ m : Int, v = .int .i64 m := okWide_int Try.underlying3 hval

theorem ocells25 : Try.prog.cellsOf 25 = 4 := by kernel_rfl

theorem ocells22 : Try.prog.cellsOf 22 = 1 := by kernel_rfl

theorem trod22 {n : Nat} {cs : List Value} {x : DataW X × List MemPlace} (h : DataW.trod enc Try.prog w base spare held n 22 cs = some x) : ∃ (aA : Option Addr) (ac : Nat) (al : List Int), cs = [.slice aA al.length ac] ∧ al.length ≤ ac ∧ Kd.C (Kd.int .i64) w aA al.length al := by
  rcases open_slice Try.underlying22 h with ⟨rfl, _⟩ | ⟨a, len, cap, m, k, D, Pl, rfl, hb, hl, hm, hmm, hx, hi⟩
  · exact ⟨none, 0, [], rfl, Nat.le_refl _, rfl, by simp, fun h => absurd h (by simp)⟩
  · have hlm : len ≤ m := by rw [hmm]; split <;> omega
    have H : ∀ i, i < len → ∃ s : Int, w.cells? base (a.add (i * 1)) 1 = some [.int .i64 s] := by
      intro i hil
      obtain ⟨cs', hc, ht⟩ := hi i (by omega)
      obtain ⟨a, rfl⟩ := trod3 ht
      rw [ocells3] at hc
      exact ⟨a, hc⟩
    obtain ⟨F, hF⟩ : ∃ F : Nat → Int, ∀ i, i < len → w.cells? base (a.add (i * 1)) 1 = some [.int .i64 (F i)] := by
      refine ⟨fun i => if h : i < len then (H i h).choose else 0, fun i h => ?_⟩
      simp only [dif_pos h]
      exact (H i h).choose_spec
    refine ⟨some a, cap, (List.range len).map F, by simp, by simpa using hl, ?_, ?_, ?_⟩
    · rfl
    · simp only [List.length_map, List.length_range]
      unfold maxLen at hm
      omega
    · intro _
      refine ⟨a, rfl, fun j p hj => ?_⟩
      have hjl : j < len := by
        have := (List.getElem?_eq_some_iff.1 hj).1
        simpa using this
      have hp : p = F j := by
        rw [List.getElem?_map, List.getElem?_range hjl] at hj
        simpa using hj.symm
      subst hp
      refine ⟨[.int .i64 (F j)], rfl, rfl, ?_⟩
      intro i u hu
      obtain ⟨_, hcl, hat⟩ := World.cells?_some (hF j hjl)
      have hil : i < 1 := (List.getElem?_eq_some_iff.1 hu).1
      have := hat i hil
      rw [Go.Deep.add_add] at this
      rw [show j * ((Kd.int .i64)).sz + i = j * 1 + i from rfl, this, hu]

theorem ocells23 : Try.prog.cellsOf 23 = 1 := by kernel_rfl

theorem ocells40 : Try.prog.cellsOf 40 = 6 := by kernel_rfl

theorem list_of6 {cs : List Value} (h : cs.length = 6) : ∃ v0 v1 v2 v3 v4 v5, cs = [v0, v1, v2, v3, v4, v5] := by
  match cs, h with
  | [v0, v1, v2, v3, v4, v5], _ => exact ⟨v0, v1, v2, v3, v4, v5, rfl⟩

theorem trod40 {n : Nat} {cs : List Value} {x : DataW X × List MemPlace} (h : DataW.trod enc Try.prog w base spare held n 40 cs = some x) : ∃ (a_0A : Option Addr) (a_0c : Nat) (a_0l : List Int) (a_1 : Int) (a_2 : Int) (a_3 : Int) (a_4 : Int) (a_5 : Int), cs = [.slice a_0A a_0l.length a_0c, .int .i64 a_1, .int .i64 a_2, .int .i64 a_3, .int .i64 a_4, .int .i64 a_5] ∧ a_0l.length ≤ a_0c ∧ Kd.C (Kd.int .i64) w a_0A a_0l.length a_0l := by
  obtain ⟨xs, m, _, hx, hl, hlen, hg⟩ := DataW.trod_struct Try.underlying40 h
  rw [ocells40] at hl
  obtain ⟨v0, v1, v2, v3, v4, v5, rfl⟩ := list_of6 hl
  obtain ⟨y0, h0⟩ := fld hlen hg 0 _ rfl 22 0 1 rfl rfl ocells22
  obtain ⟨y1, h1⟩ := fld hlen hg 1 _ rfl 3 1 1 rfl rfl ocells3
  obtain ⟨y2, h2⟩ := fld hlen hg 2 _ rfl 3 2 1 rfl rfl ocells3
  obtain ⟨y3, h3⟩ := fld hlen hg 3 _ rfl 3 3 1 rfl rfl ocells3
  obtain ⟨y4, h4⟩ := fld hlen hg 4 _ rfl 3 4 1 rfl rfl ocells3
  obtain ⟨y5, h5⟩ := fld hlen hg 5 _ rfl 3 5 1 rfl rfl ocells3
  obtain ⟨a_0A, a_0c, a_0l, e0, f0_0, f0_1⟩ := trod22 h0
  obtain ⟨a_1, e1⟩ := trod3 h1
  obtain ⟨a_2, e2⟩ := trod3 h2
  obtain ⟨a_3, e3⟩ := trod3 h3
  obtain ⟨a_4, e4⟩ := trod3 h4
  obtain ⟨a_5, e5⟩ := trod3 h5
  simp only [List.drop_zero, List.take_succ_cons, List.take_zero, List.drop_succ_cons, List.cons.injEq, and_true] at e0 e1 e2 e3 e4 e5
  subst e0 e1 e2 e3 e4 e5
  exact ⟨a_0A, a_0c, a_0l, a_1, a_2, a_3, a_4, a_5, rfl, f0_0, f0_1⟩

theorem trod23 {n : Nat} {cs : List Value} {x : DataW X × List MemPlace} (h : DataW.trod enc Try.prog w base spare held n 23 cs = some x) : ∃ (aA : Option Addr) (ac : Nat) (al : List S40), cs = [.slice aA al.length ac] ∧ al.length ≤ ac ∧ Kd.C k40 w aA al.length al := by
  rcases open_slice Try.underlying23 h with ⟨rfl, _⟩ | ⟨a, len, cap, m, k, D, Pl, rfl, hb, hl, hm, hmm, hx, hi⟩
  · exact ⟨none, 0, [], rfl, Nat.le_refl _, rfl, by simp, fun h => absurd h (by simp)⟩
  · have hlm : len ≤ m := by rw [hmm]; split <;> omega
    have H : ∀ i, i < len → ∃ p : S40 × List Value, w.cells? base (a.add (i * 6)) 6 = some p.2 ∧ Kd.K k40 w p.1 p.2 := by
      intro i hil
      obtain ⟨cs', hc, ht⟩ := hi i (by omega)
      obtain ⟨a_0A, a_0c, a_0l, a_1, a_2, a_3, a_4, a_5, rfl, q0, q1⟩ := trod40 ht
      rw [ocells40] at hc
      exact ⟨((⟨a_0l, a_1, a_2, a_3, a_4, a_5⟩ : S40), _), hc, k40_mk w _ q0 q1⟩
    obtain ⟨F, hF⟩ : ∃ F : Nat → S40 × List Value, ∀ i, i < len → w.cells? base (a.add (i * 6)) 6 = some (F i).2 ∧ Kd.K k40 w (F i).1 (F i).2 := by
      refine ⟨fun i => if h : i < len then (H i h).choose else (P.z40, []), fun i h => ?_⟩
      simp only [dif_pos h]
      exact (H i h).choose_spec
    refine ⟨some a, cap, (List.range len).map (fun i => (F i).1), by simp, by simpa using hl, ?_, ?_, ?_⟩
    · rfl
    · simp only [List.length_map, List.length_range]
      unfold maxLen at hm
      omega
    · intro _
      refine ⟨a, rfl, fun j p hj => ?_⟩
      have hjl : j < len := by
        have := (List.getElem?_eq_some_iff.1 hj).1
        simpa using this
      have hp : p = (F j).1 := by
        rw [List.getElem?_map, List.getElem?_range hjl] at hj
        simpa using hj.symm
      subst hp
      refine ⟨(F j).2, Kd.K_len _ (hF j hjl).2, (hF j hjl).2, ?_⟩
      intro i u hu
      obtain ⟨_, hcl, hat⟩ := World.cells?_some (hF j hjl).1
      have hil : i < 6 := by
        have h1 := (List.getElem?_eq_some_iff.1 hu).1
        have h2 : (F j).2.length = 6 := Kd.K_len _ (hF j hjl).2
        omega
      have := hat i hil
      rw [Go.Deep.add_add] at this
      rw [show j * (Kd.sz k40) + i = j * 6 + i from rfl, this, hu]

theorem list_of4 {cs : List Value} (h : cs.length = 4) : ∃ v0 v1 v2 v3, cs = [v0, v1, v2, v3] := by
  match cs, h with
  | [v0, v1, v2, v3], _ => exact ⟨v0, v1, v2, v3, rfl⟩

theorem trod25 {n : Nat} {cs : List Value} {x : DataW X × List MemPlace} (h : DataW.trod enc Try.prog w base spare held n 25 cs = some x) : ∃ (a_0A : Option Addr) (a_0c : Nat) (a_0l : List Int) (a_1A : Option Addr) (a_1c : Nat) (a_1l : List Int) (a_2A : Option Addr) (a_2c : Nat) (a_2l : List Int) (a_3A : Option Addr) (a_3c : Nat) (a_3l : List S40), cs = [.slice a_0A a_0l.length a_0c, .slice a_1A a_1l.length a_1c, .slice a_2A a_2l.length a_2c, .slice a_3A a_3l.length a_3c] ∧ a_0l.length ≤ a_0c ∧ Kd.C (Kd.int .i64) w a_0A a_0l.length a_0l ∧ a_1l.length ≤ a_1c ∧ Kd.C (Kd.int .i64) w a_1A a_1l.length a_1l ∧ a_2l.length ≤ a_2c ∧ Kd.C (Kd.int .i64) w a_2A a_2l.length a_2l ∧ a_3l.length ≤ a_3c ∧ Kd.C k40 w a_3A a_3l.length a_3l := by
  obtain ⟨xs, m, _, hx, hl, hlen, hg⟩ := DataW.trod_struct Try.underlying25 h
  rw [ocells25] at hl
  obtain ⟨v0, v1, v2, v3, rfl⟩ := list_of4 hl
  obtain ⟨y0, h0⟩ := fld hlen hg 0 _ rfl 22 0 1 rfl rfl ocells22
  obtain ⟨y1, h1⟩ := fld hlen hg 1 _ rfl 22 1 1 rfl rfl ocells22
  obtain ⟨y2, h2⟩ := fld hlen hg 2 _ rfl 22 2 1 rfl rfl ocells22
  obtain ⟨y3, h3⟩ := fld hlen hg 3 _ rfl 23 3 1 rfl rfl ocells23
  obtain ⟨a_0A, a_0c, a_0l, e0, f0_0, f0_1⟩ := trod22 h0
  obtain ⟨a_1A, a_1c, a_1l, e1, f1_0, f1_1⟩ := trod22 h1
  obtain ⟨a_2A, a_2c, a_2l, e2, f2_0, f2_1⟩ := trod22 h2
  obtain ⟨a_3A, a_3c, a_3l, e3, f3_0, f3_1⟩ := trod23 h3
  simp only [List.drop_zero, List.take_succ_cons, List.take_zero, List.drop_succ_cons, List.cons.injEq, and_true] at e0 e1 e2 e3
  subst e0 e1 e2 e3
  exact ⟨a_0A, a_0c, a_0l, a_1A, a_1c, a_1l, a_2A, a_2c, a_2l, a_3A, a_3c, a_3l, rfl, f0_0, f0_1, f1_0, f1_1, f2_0, f2_1, f3_0, f3_1⟩

set_option maxRecDepth 100000 in
theorem evening_open {r : Reach} {b0 : Nat} {v : Value} {d : DataW X} {p : List MemPlace} (hval : Value.okWide Try.prog w r b0 25 v) (h : DataW.Trod enc Try.prog w base spare held 25 v d p) : ∃ (a_0A : Option Addr) (a_0c : Nat) (a_0l : List Int) (a_1A : Option Addr) (a_1c : Nat) (a_1l : List Int) (a_2A : Option Addr) (a_2c : Nat) (a_2l : List Int) (a_3A : Option Addr) (a_3c : Nat) (a_3l : List S40), v = .agg #[.slice a_0A a_0l.length a_0c, .slice a_1A a_1l.length a_1c, .slice a_2A a_2l.length a_2c, .slice a_3A a_3l.length a_3c] ∧ a_0l.length ≤ a_0c ∧ Kd.C (Kd.int .i64) w a_0A a_0l.length a_0l ∧ a_1l.length ≤ a_1c ∧ Kd.C (Kd.int .i64) w a_1A a_1l.length a_1l ∧ a_2l.length ≤ a_2c ∧ Kd.C (Kd.int .i64) w a_2A a_2l.length a_2l ∧ a_3l.length ≤ a_3c ∧ Kd.C k40 w a_3A a_3l.length a_3l := by
  obtain ⟨cs, rfl, hsz⟩ := okWide_struct Try.underlying25 hval
  obtain ⟨n, hn⟩ := h
  obtain ⟨a_0A, a_0c, a_0l, a_1A, a_1c, a_1l, a_2A, a_2c, a_2l, a_3A, a_3c, a_3l, hH, f0, f1, f2, f3, f4, f5, f6, f7⟩ := trod25 hn
  obtain ⟨l⟩ := cs
  obtain rfl : l = _ := hH
  exact ⟨a_0A, a_0c, a_0l, a_1A, a_1c, a_1l, a_2A, a_2c, a_2l, a_3A, a_3c, a_3l, rfl, f0, f1, f2, f3, f4, f5, f6, f7⟩

end

end Go.Proofs.Ytiplichdhcmjdaa.T
