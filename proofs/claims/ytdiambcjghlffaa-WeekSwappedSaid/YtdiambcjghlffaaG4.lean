/- Texts of this claim, put together: A24, N10, A25, O1, B2, B3, N11, A26, A27, N12, N13, B4, B6, N14, N15, B8. -/
import Derived.Test.YtdiambcjghlffaaG3
import Derived.Test.YtdiambcjghlffaaRows
import Derived.ProofKit
import Derived.OpenShut
import Derived.ChangeOld
import Derived.SizedLaws
import Derived.Deep.Slices
namespace Go.Proofs.Ytdiambcjghlffaa.T
open Go.RowKit Go.Proofs.YtdiambcjghlffaaW.PrintWords Go.Proofs.YtdiambcjghlffaaW.PrintMore
open Go.Proofs.Ytdiambcjghlffaa.P
set_option linter.unusedVariables false
set_option linter.unusedSimpArgs false

/-- A film by its price and the header of its crowd. -/
structure Fh where
  p : Int
  h : Hd
def kFH : Kd Fh := Kd.iso (Kd.pair (Kd.int .i64) kH) (fun x : Fh => (x.p, x.h))
/-- The films' headers, and what they say. -/
structure FhOk (w : World) (xs : List Fh) (fs : List S49) : Prop where
  len : xs.length = fs.length
  row : ∀ (i : Nat) (x : Fh) (f : S49), xs[i]? = some x → fs[i]? = some f → x.p = f.f0 ∧ x.h.n = f.f1.length ∧ f.f1.length ≤ x.h.c ∧ Kd.C kI w x.h.A f.f1.length f.f1
theorem FhOk.below {w w' : World} {xs : List Fh} {fs : List S49} (h : FhOk w xs fs) (l : Below w.heap.size w w') : FhOk w' xs fs := ⟨h.len, fun i x f hx hf => by obtain ⟨a, b, c, d⟩ := h.row i x f hx hf; exact ⟨a, b, c, Kd.C_below d l⟩⟩
/-- Films whose first crowds are rows of our own. -/
structure Mid (w : World) (base i : Nat) (xs : List Fh) (fs : List S49) : Prop where
  len : xs.length = fs.length
  row : ∀ (j : Nat) (x : Fh) (f : S49), xs[j]? = some x → fs[j]? = some f → x.p = f.f0 ∧ (j < i → Kd.R kI 3 w base (fun _ => True) x.h.v f.f1)
theorem Mid.start {w w' : World} {base : Nat} {xs : List Fh} {fs : List S49} (h : FhOk w xs fs) : Mid w' base 0 xs fs := ⟨h.len, fun j x f hx hf => ⟨(h.row j x f hx hf).1, fun hj => by omega⟩⟩
theorem Mid.below {w w' : World} {base i : Nat} {xs : List Fh} {fs : List S49} (h : Mid w base i xs fs) (l : Below w.heap.size w w') : Mid w' base i xs fs := ⟨h.len, fun j x f hx hf => ⟨(h.row j x f hx hf).1, fun hj => Kd.R_below ((h.row j x f hx hf).2 hj) l⟩⟩
theorem Mid.over {w w' : World} {base i g t : Nat} {cs : Array Value} {xs : List Fh} {fs : List S49} (h : Mid w base i xs fs) (hb : w.heap[g]? = some (.cells cs t (0, 0))) (ht : 3 ≠ t) (hg : w.grownBy w' (some g)) : Mid w' base i xs fs := ⟨h.len, fun j x f hx hf => ⟨(h.row j x f hx hf).1, fun hj => Kd.R_grown1 ((h.row j x f hx hf).2 hj) rfl hg (Kd.R_ne ((h.row j x f hx hf).2 hj) hb ht)⟩⟩
theorem Mid.grown {w w' : World} {base i g : Nat} {xs : List Fh} {fs : List S49} (h : Mid w base i xs fs) (hg : w.grownBy w' (some g)) (hb : ∃ cs t, w.heap[g]? = some (.cells cs t (0, 0)) ∧ 3 ≠ t) : Mid w' base i xs fs := by
  obtain ⟨cs, t, hb, ht⟩ := hb
  exact h.over hb ht hg
theorem Mid.put {w : World} {base i : Nat} {xs : List Fh} {fs : List S49} {x : Fh} {f : S49} {y : Hd} (h : Mid w base i xs fs) (hx : xs[i]? = some x) (hf : fs[i]? = some f) (hy : Kd.R kI 3 w base (fun _ => True) y.v f.f1) : Mid w base (i + 1) (xs.set i ⟨x.p, y⟩) fs := by
  refine ⟨by rw [List.length_set]; exact h.len, fun j z k hz hk => ?_⟩
  by_cases e : i = j
  · subst e
    rw [List.getElem?_set_self (List.getElem?_eq_some_iff.1 hx).1] at hz
    injection hz with hz
    subst hz
    rw [hf] at hk
    injection hk with hk
    subst hk
    exact ⟨(h.row i x f hx hf).1, fun _ => hy⟩
  · rw [List.getElem?_set_ne e] at hz
    exact ⟨(h.row j z k hz hk).1, fun hj => (h.row j z k hz hk).2 (by omega)⟩
theorem Mid.ok {w : World} {base : Nat} {xs : List Fh} {fs : List S49} (h : Mid w base fs.length xs fs) : FhOk w xs fs := ⟨h.len, fun i x f hx hf => by
  obtain ⟨h1, h2⟩ := h.row i x f hx hf
  have := h2 (List.getElem?_eq_some_iff.1 hf).1
  obtain ⟨q1, q2, q3⟩ := Kd.R_reads' (show Kd.R kI 3 w base _ (.slice x.h.A x.h.n x.h.c) f.f1 from this)
  exact ⟨h1, q1, by omega, q3⟩⟩
/-- A week in rows of our own. -/
structure WR (bs : Nat) (w : World) (V : Wk) (m : Wa) : Prop where
  rs : Kd.R kI 3 w bs (fun _ => True) (.slice m.A V.rs.length m.a) V.rs
  fs : ∃ xs, Kd.R kFH 49 w bs (fun _ => True) (.slice m.B V.fs.length m.b) xs ∧ Mid w bs V.fs.length xs V.fs
  ds : Kd.R k45 45 w bs (fun _ => True) (.slice m.C V.ds.length m.c) V.ds
theorem WR.below {bs : Nat} {w w' : World} {V : Wk} {m : Wa} (h : WR bs w V m) (l : Below w.heap.size w w') : WR bs w' V m := by
  obtain ⟨xs, h1, h2⟩ := h.fs
  exact ⟨Kd.R_below h.rs l, ⟨xs, Kd.R_below h1 l, h2.below l⟩, Kd.R_below h.ds l⟩
end Go.Proofs.Ytdiambcjghlffaa.T
namespace Go.Proofs.Ytdiambcjghlffaa.T
open Go.RowKit Go.Proofs.YtdiambcjghlffaaW.PrintWords Go.Proofs.YtdiambcjghlffaaW.PrintMore
open Go.Proofs.Ytdiambcjghlffaa.P
set_option linter.unusedVariables false
set_option linter.unusedSimpArgs false
instance (V : Wk) (x : S45) (p : List Int) (day : Nat) : Decidable (Cln V x p day) := by
  unfold Cln
  exact decidable_of_iff (∃ r, r < V.rs.length ∧ (x.f6 ≤ V.rs.getD r 0 ∧ ∀ k, k < x.f5.toNat - x.f4.toNat + 1 → p.getD (slN V day r (x.f4.toNat + k)) 0 = x.f1)) Iff.rfl
instance (V : Wk) (x : S45) (p : List Int) : Decidable (Keep V x p) := by unfold Keep; infer_instance
abbrev eD0 : S45 := ⟨1, 1, 0, 0, 0, 1, 0, 2⟩
abbrev eD1 : S45 := ⟨3, 0, 0, 0, 0, 1, 100, 0⟩
theorem ex_ok : WOk eV := by decide
theorem ex_bad0 (p : List Int) : bad eV p 0 ↔ ¬ Keep eV eD0 p := bad_iff rfl
theorem ex_bad1 (p : List Int) : bad eV p 1 ↔ ¬ Keep eV eD1 p := bad_iff rfl
theorem ex_all (p : List Int) : Kp eV (allS eV) p ↔ Keep eV eD0 p ∧ Keep eV eD1 p := by
  rw [kp_all]
  constructor
  · intro h
    exact ⟨Classical.byContradiction fun q => h 0 (by decide) ((ex_bad0 p).mpr q), Classical.byContradiction fun q => h 1 (by decide) ((ex_bad1 p).mpr q)⟩
  · rintro ⟨h1, h2⟩ i hi
    rcases i with _ | _ | i
    · exact fun q => (ex_bad0 p).mp q h1
    · exact fun q => (ex_bad1 p).mp q h2
    · exact absurd hi (by show ¬ i + 2 < 2; omega)
theorem ex_wo (p : List Int) : Kp eV (woS eV 0) p ↔ Keep eV eD1 p := by
  have hb := fun i => without_bit eV (show 0 < eV.ds.length by decide) i
  constructor
  · intro h
    exact Classical.byContradiction fun q => (h 1 ((hb 1).mpr ⟨by decide, by decide⟩)).2 ((ex_bad1 p).mpr q)
  · intro h i hi
    obtain ⟨h1, h2⟩ := (hb i).mp hi
    refine ⟨h1, ?_⟩
    rcases i with _ | _ | i
    · exact absurd rfl h2
    · exact fun q => (ex_bad1 p).mp q h
    · exact absurd h1 (by show ¬ i + 2 < 2; omega)
theorem ex_check1 : ∀ p ∈ allP eV (Sl eV) [], Keep eV eD0 p ∧ Keep eV eD1 p → takes eV p ≤ 2520 := by decide +kernel
theorem ex_check2 : ∀ p ∈ allP eV (Sl eV) [], Keep eV eD1 p → takes eV p ≤ 2800 := by decide +kernel
theorem ex_mx : IsMx eV (allS eV) (some 2520) :=
  ⟨⟨[0, 0, 1, 1], by decide, (ex_all _).mpr (by decide +kernel), by decide +kernel⟩, fun p hp hk => ex_check1 p (allP_all.mpr hp) ((ex_all p).mp hk)⟩
theorem ex_mx2 : IsMx eV (woS eV 0) (some 2800) :=
  ⟨⟨[0, 0, 0, 0], by decide, (ex_wo _).mpr (by decide +kernel), by decide +kernel⟩, fun p hp hk => ex_check2 p (allP_all.mpr hp) ((ex_wo p).mp hk)⟩
theorem ex_most {n e : Int} (h : MostOk eV n e) : n = 2520 ∧ e = 0 := h.one (.inr ⟨ex_ok, some 2520, ex_mx, rfl, rfl⟩)
theorem ex_cost {n e : Int} (h : CoOk eV 0 n e) : n = 280 ∧ e = 0 := h.one (.inr (.inr (.inr ⟨ex_ok, by decide, 2520, 2800, ex_mx, ex_mx2, rfl, rfl⟩)))
theorem ex_clash {l : List Int} {e : Int} (h : ClOk eV l e) : e = 3 := (h.one (.inr (.inl ⟨ex_ok, ⟨_, ex_mx⟩, rfl, rfl⟩))).2
theorem ex_chk : chkP eV [0, 1, 0, -1] = 0 := chkP_ok.mpr ⟨ex_ok, by decide⟩
theorem ex_brk : brA eV [0, 1, 0, -1] = [0, 1] := by
  unfold brA
  rw [if_pos ex_chk]
  show brk eV _ (1 + 1) = _
  rw [brk_no (x := eD1) rfl (by decide +kernel), show (1 : Nat) = 0 + 1 from rfl, brk_no (x := eD0) rfl (by decide +kernel)]
  rfl
theorem ex_sz : Sz eV := ⟨by decide, by decide, by decide, by decide⟩
end Go.Proofs.Ytdiambcjghlffaa.T
namespace Go.Proofs.Ytdiambcjghlffaa.T
open Go.RowKit Go.Proofs.YtdiambcjghlffaaW.PrintWords Go.Proofs.YtdiambcjghlffaaW.PrintMore
open Go.Proofs.Ytdiambcjghlffaa.P
set_option linter.unusedVariables false
set_option linter.unusedSimpArgs false

set_option maxRecDepth 100000 in
theorem lit22_4 (a b c d : Int) (W : World) : (Instr.buildSlice 22 4 #[(0, .int .i64 a), (1, .int .i64 b), (2, .int .i64 c), (3, .int .i64 d)]).run Try.prog W = .ok (.slice (some ⟨W.heap.size, 0, none⟩) 4 4) (W.alloc (.cells (([a, b, c, d] : List Int).map (Value.int .i64)).toArray 3 (0, 0))) := by
  have hu22 := Try.underlying22
  go_simp
set_option maxRecDepth 100000 in
set_option maxHeartbeats 8000000 in

theorem works_calls (w : World) :
    Calls Try.prog 13 #[] w fun e w' => e = .returned (.bool true) ∧ Below w.heap.size w w' := by
  have hu3 := Try.underlying3
  have hu22 := Try.underlying22
  have hu26 := Try.underlying26
  have hu30 := Try.underlying30
  have hu31 := Try.underlying31
  have hu33 := Try.underlying33
  obtain ⟨z3, o3⟩ := info_some info3s (by decide)
  obtain ⟨z22, o22⟩ := info_some info22s (by decide)
  obtain ⟨z26, o26⟩ := info_some info26s (by decide)
  refine E.enter (N := 59) Try.func13 rfl Try.ntmps13 (args := []) (by simp) ?_
  have L := Below.refl w.heap.size w
  refine E.CG.seq ?_
  refine E.CG.list ?_
  refine E.GL.run rfl rfl rfl (E.Runs.assign rfl rfl) ?_
  refine E.GL.done ?_
  refine E.QG.code ?_
  refine E.CG.seq ?_
  refine E.CG.list ?_
  refine E.GL.st rfl rfl rfl (E.ST.call rfl ent36 E.evn ((example_calls _).mono ?_))
  rintro e w10 ⟨m, rfl, hV, l10⟩
  refine ⟨_, rfl, ?_⟩
  replace L := below_step L l10
  have K := Below.refl w10.heap.size w10
  refine E.GL.st rfl rfl rfl (E.ST.alloc rfl info26z fun g1 w1 e1 b1 l1 => ?_)
  have h1_L : w.heap.size ≤ g1 := by rw [e1]; exact L.size
  have h1_K : w10.heap.size ≤ g1 := by rw [e1]; exact K.size
  replace L := below_step L l1
  replace K := below_step K l1
  refine E.GL.store_whole rfl rfl rfl rfl rfl b1 rfl info26s (week_one _ _ _ _ _ _ _ _ _ _ _) fun wS1_2 c1 lS1_2 => ?_
  replace L := E.below_own L h1_L lS1_2
  replace K := E.below_own K h1_K lS1_2
  replace b1 := c1
  clear c1
  refine E.GL.done ?_
  refine E.QG.code ?_
  refine E.CG.seq ?_
  refine E.CG.list ?_
  refine E.GL.run rfl rfl rfl (E.Runs.loads (cs := [.int .i64 eV.d, .slice m.A eV.rs.length m.a, .int .i64 eV.h, .slice m.B eV.fs.length m.b, .slice m.C eV.ds.length m.c]) rfl rfl hu26 rfl info26s (blk_cells b1)) ?_
  refine E.GL.st rfl rfl rfl (E.ST.call rfl ent15 (E.evc rfl E.evn) ((most_calls eV m _ (hV.below K) ex_sz).mono ?_))
  rintro e w13 ⟨n13, e13, rfl, hm13, l13⟩
  refine ⟨_, rfl, ?_⟩
  replace b1 := blk_below b1 l13
  replace L := below_step L l13
  replace K := below_step K l13
  obtain ⟨rfl, rfl⟩ := ex_most hm13
  refine E.GL.run rfl rfl rfl (E.Runs.move rfl rfl) ?_
  refine E.GL.run rfl rfl rfl (E.Runs.extract rfl rfl rfl) ?_
  refine E.GL.run rfl rfl rfl (E.Runs.extract rfl rfl rfl) ?_
  refine E.GL.run rfl rfl rfl (E.Runs.assign rfl rfl) ?_
  refine E.GL.run rfl rfl rfl (E.Runs.assign rfl rfl) ?_
  refine E.GL.done ?_
  refine E.QG.code ?_
  refine E.CG.seq ?_
  refine E.CG.list ?_
  refine E.GL.run rfl rfl rfl (E.Runs.loads (cs := [.int .i64 eV.d, .slice m.A eV.rs.length m.a, .int .i64 eV.h, .slice m.B eV.fs.length m.b, .slice m.C eV.ds.length m.c]) rfl rfl hu26 rfl info26s (blk_cells b1)) ?_
  refine E.GL.st rfl rfl rfl (E.ST.litB (cs := (([0, 1, 0, -1] : List Int).map (Value.int .i64)).toArray) rfl (E.epc rfl (E.epc rfl (E.epc rfl (E.epc rfl E.epn)))) (lit22_4 _ _ _ _) fun g18 w18 e18 b18 l18 => ?_)
  replace b1 := blk_below b1 l18
  replace L := below_step L l18
  replace K := below_step K l18
  refine E.GL.st rfl rfl rfl (E.ST.call rfl ent25 (E.evc rfl (E.evc rfl E.evn)) ((broken_o eV m ([0, 1, 0, -1] : List Int) _ 4 _ (hV.below K) ex_sz (C_nums ([0, 1, 0, -1] : List Int) b18 (by decide)) (by decide)).mono ?_))
  rintro e w19 ⟨v19, rfl, R19, l19⟩
  refine ⟨_, rfl, ?_⟩
  replace b1 := blk_below b1 l19
  replace L := below_step L l19
  replace K := below_step K l19
  rw [ex_chk]
  rw [ex_brk] at R19
  obtain ⟨A19, c19, hv19⟩ := Kd.R_slice R19
  subst hv19
  refine E.GL.run rfl rfl rfl (E.Runs.move rfl rfl) ?_
  refine E.GL.run rfl rfl rfl (E.Runs.extract rfl rfl rfl) ?_
  refine E.GL.run rfl rfl rfl (E.Runs.extract rfl rfl rfl) ?_
  refine E.GL.run rfl rfl rfl (E.Runs.assign rfl rfl) ?_
  refine E.GL.run rfl rfl rfl (E.Runs.assign rfl rfl) ?_
  refine E.GL.done ?_
  refine E.QG.code ?_
  refine E.CG.seq ?_
  refine E.CG.list ?_
  refine E.GL.run rfl rfl rfl (E.Runs.loads (cs := [.int .i64 eV.d, .slice m.A eV.rs.length m.a, .int .i64 eV.h, .slice m.B eV.fs.length m.b, .slice m.C eV.ds.length m.c]) rfl rfl hu26 rfl info26s (blk_cells b1)) ?_
  refine E.GL.st rfl rfl rfl (E.ST.call rfl ent19 (E.evc rfl (E.evc rfl E.evn)) ((cost_calls eV m 0 _ (hV.below K) ex_sz).mono ?_))
  rintro e w24 ⟨n24, e24, rfl, hm24, l24⟩
  refine ⟨_, rfl, ?_⟩
  replace b1 := blk_below b1 l24
  replace R19 := Kd.R_below R19 l24
  replace L := below_step L l24
  replace K := below_step K l24
  obtain ⟨rfl, rfl⟩ := ex_cost hm24
  refine E.GL.run rfl rfl rfl (E.Runs.move rfl rfl) ?_
  refine E.GL.run rfl rfl rfl (E.Runs.extract rfl rfl rfl) ?_
  refine E.GL.run rfl rfl rfl (E.Runs.extract rfl rfl rfl) ?_
  refine E.GL.run rfl rfl rfl (E.Runs.assign rfl rfl) ?_
  refine E.GL.run rfl rfl rfl (E.Runs.assign rfl rfl) ?_
  refine E.GL.done ?_
  refine E.QG.code ?_
  refine E.CG.seq ?_
  refine E.CG.list ?_
  refine E.GL.run rfl rfl rfl (E.Runs.loads (cs := [.int .i64 eV.d, .slice m.A eV.rs.length m.a, .int .i64 eV.h, .slice m.B eV.fs.length m.b, .slice m.C eV.ds.length m.c]) rfl rfl hu26 rfl info26s (blk_cells b1)) ?_
  refine E.GL.st rfl rfl rfl (E.ST.call rfl ent17 (E.evc rfl E.evn) ((clash_calls eV m _ (hV.below K) ex_sz).mono ?_))
  rintro e w29 ⟨v29, l29', e29, rfl, R29, hm29, l29⟩
  refine ⟨_, rfl, ?_⟩
  replace b1 := blk_below b1 l29
  replace R19 := Kd.R_below R19 l29
  replace L := below_step L l29
  replace K := below_step K l29
  obtain rfl := ex_clash hm29
  refine E.GL.run rfl rfl rfl (E.Runs.move rfl rfl) ?_
  refine E.GL.run rfl rfl rfl (E.Runs.extract rfl rfl rfl) ?_
  refine E.GL.run rfl rfl rfl (E.Runs.extract rfl rfl rfl) ?_
  refine E.GL.run rfl rfl rfl (E.Runs.assign rfl rfl) ?_
  refine E.GL.run rfl rfl rfl (E.Runs.assign rfl rfl) ?_
  refine E.GL.done ?_
  refine E.QG.code ?_
  refine E.CG.seq ?_
  refine E.CG.list ?_
  refine E.GL.run rfl rfl rfl (E.Runs.move rfl rfl) ?_
  refine E.GL.run rfl rfl rfl (E.Runs.eql rfl rfl rfl (decide_eq_true rfl)) ?_
  refine E.GL.run rfl rfl rfl (E.Runs.move rfl rfl) ?_
  refine E.GL.run rfl rfl rfl (E.Runs.move rfl rfl) ?_
  refine E.GL.run rfl rfl rfl (E.Runs.eql rfl rfl rfl (decide_eq_true rfl)) ?_
  refine E.GL.run rfl rfl rfl (E.Runs.pick_t rfl rfl rfl) ?_
  refine E.GL.run rfl rfl rfl (E.Runs.move rfl rfl) ?_
  refine E.GL.run rfl rfl rfl (E.Runs.move rfl rfl) ?_
  refine E.GL.run rfl rfl rfl (E.Runs.eql rfl rfl rfl (decide_eq_true rfl)) ?_
  refine E.GL.run rfl rfl rfl (E.Runs.pick_t rfl rfl rfl) ?_
  refine E.GL.run rfl rfl rfl (E.Runs.move rfl rfl) ?_
  refine E.GL.run rfl rfl rfl (E.Runs.move rfl rfl) ?_
  refine E.GL.run rfl rfl rfl (E.Runs.eql rfl rfl rfl (decide_eq_true rfl)) ?_
  refine E.GL.run rfl rfl rfl (E.Runs.pick_t rfl rfl rfl) ?_
  refine E.GL.run rfl rfl rfl (E.Runs.move rfl rfl) ?_
  refine E.GL.run rfl rfl rfl (E.Runs.move rfl rfl) ?_
  refine E.GL.run rfl rfl rfl (E.Runs.eql rfl rfl rfl (decide_eq_true rfl)) ?_
  refine E.GL.run rfl rfl rfl (E.Runs.pick_t rfl rfl rfl) ?_
  refine E.GL.run rfl rfl rfl (E.Runs.move rfl rfl) ?_
  refine E.GL.run rfl rfl rfl (E.Runs.move rfl rfl) ?_
  refine E.GL.st rfl rfl rfl (E.ST.litB (cs := (([0, 1] : List Int).map (Value.int .i64)).toArray) rfl (E.epc rfl (E.epc rfl E.epn)) (lit22_2 _ _) fun g52 w52 e52 b52 l52 => ?_)
  replace b1 := blk_below b1 l52
  replace K := below_step K l52
  replace L := below_step L l52
  replace R19 := Kd.R_below R19 l52
  refine E.GL.st rfl rfl rfl (E.ST.call rfl ent21 (E.evc rfl (E.evc rfl E.evn)) ((same_calls ([0, 1] : List Int) ([0, 1] : List Int) A19 _ c19 2 _ true (iff_of_true rfl rfl) (Kd.R_reads' R19).2.2 (C_nums [0, 1] b52 (by decide)) (by decide)).mono ?_))
  rintro e w53 ⟨rfl, l53⟩
  refine ⟨_, rfl, ?_⟩
  replace b1 := blk_below b1 l53
  replace R19 := Kd.R_below R19 l53
  replace L := below_step L l53
  replace K := below_step K l53
  refine E.GL.run rfl rfl rfl (E.Runs.pick_t rfl rfl rfl) ?_
  refine E.GL.run rfl rfl rfl (E.Runs.move rfl rfl) ?_
  refine E.GL.run rfl rfl rfl (E.Runs.move rfl rfl) ?_
  refine E.GL.run rfl rfl rfl (E.Runs.eql rfl rfl rfl (decide_eq_true rfl)) ?_
  refine E.GL.run rfl rfl rfl (E.Runs.pick_t rfl rfl rfl) ?_
  refine E.GL.run rfl rfl rfl (E.Runs.assign rfl rfl) ?_
  refine E.GL.done ?_
  refine E.QG.code ?_
  refine E.CG.ret ?_
  exact E.QG.result rfl rfl ⟨rfl, L⟩

end Go.Proofs.Ytdiambcjghlffaa.T
namespace Go.Proofs.Ytdiambcjghlffaa.T
open Go.ChangeShapes Go.WideShapes Go.ChangeAt Go.Deep
open Go.RowKit Go.Proofs.YtdiambcjghlffaaW.PrintWords Go.Proofs.YtdiambcjghlffaaW.PrintMore
open Go.Proofs.Ytdiambcjghlffaa.P
set_option linter.unusedVariables false
set_option linter.unusedSimpArgs false

section
variable {X : Type} {enc : TypeId × Value → X} {w : World} {base : Nat} {spare : Nat → Bool} {held : Bool}
theorem fld {fs : Array Field} {n : Nat} {cs : List Value} {xs : List (DataW X × List MemPlace)} (hlen : xs.length = fs.size) (hg : ∀ (i : Nat) (f : Field), fs[i]? = some f → DataW.trod enc Try.prog w base spare held n f.type ((cs.drop f.offset).take (Try.prog.cellsOf f.type)) = xs[i]?) (i : Nat) (f : Field) (hf : fs[i]? = some f)
    (ty : TypeId) (off k : Nat) (h1 : f.type = ty) (h2 : f.offset = off) (h3 : Try.prog.cellsOf ty = k) :
    ∃ y, DataW.trod enc Try.prog w base spare held n ty ((cs.drop off).take k) = some y := by
  have hi : i < xs.length := by rw [hlen]; exact (Array.getElem?_eq_some_iff.1 hf).1
  subst h1 h2 h3
  exact ⟨_, (hg i f hf).trans (List.getElem?_eq_getElem hi)⟩

theorem ocells3 : Try.prog.cellsOf 3 = 1 := by kernel_rfl

theorem trod3 {n : Nat} {cs : List Value} {x : DataW X × List MemPlace} (h : DataW.trod enc Try.prog w base spare held n 3 cs = some x) : ∃ (a : Int), cs = [.int .i64 a] := by
  obtain ⟨a, hc, _⟩ := DataW.trod_int Try.underlying3 h
  exact ⟨a, hc⟩

theorem ocells22 : Try.prog.cellsOf 22 = 1 := by kernel_rfl

theorem trod22 {n : Nat} {cs : List Value} {x : DataW X × List MemPlace} (h : DataW.trod enc Try.prog w base spare held n 22 cs = some x) : ∃ (aA : Option Addr) (ac : Nat) (al : List Int), cs = [.slice aA al.length ac] ∧ al.length ≤ ac ∧ Kd.C (Kd.int .i64) w aA al.length al := by
  rcases open_slice Try.underlying22 h with ⟨rfl, _⟩ | ⟨a, len, cap, m, k, D, Pl, rfl, hb, hl, hm, hmm, hx, hi⟩
  · exact ⟨none, 0, [], rfl, Nat.le_refl _, rfl, by simp, fun h => absurd h (by simp)⟩
  · have hlm : len ≤ m := by rw [hmm]; split <;> omega
    have H : ∀ i, i < len → ∃ s : Int, w.cells? base (a.add (i * 1)) 1 = some [.int .i64 s] := by
      intro i hil
      obtain ⟨cs', hc, ht⟩ := hi i (by omega)
      obtain ⟨a, rfl⟩ := trod3 ht
      rw [ocells3] at hc
      exact ⟨a, hc⟩
    obtain ⟨F, hF⟩ : ∃ F : Nat → Int, ∀ i, i < len → w.cells? base (a.add (i * 1)) 1 = some [.int .i64 (F i)] := by
      refine ⟨fun i => if h : i < len then (H i h).choose else 0, fun i h => ?_⟩
      simp only [dif_pos h]
      exact (H i h).choose_spec
    refine ⟨some a, cap, (List.range len).map F, by simp, by simpa using hl, ?_, ?_, ?_⟩
    · rfl
    · simp only [List.length_map, List.length_range]
      unfold maxLen at hm
      omega
    · intro _
      refine ⟨a, rfl, fun j p hj => ?_⟩
      have hjl : j < len := by
        have := (List.getElem?_eq_some_iff.1 hj).1
        simpa using this
      have hp : p = F j := by
        rw [List.getElem?_map, List.getElem?_range hjl] at hj
        simpa using hj.symm
      subst hp
      refine ⟨[.int .i64 (F j)], rfl, rfl, ?_⟩
      intro i u hu
      obtain ⟨_, hcl, hat⟩ := World.cells?_some (hF j hjl)
      have hil : i < 1 := (List.getElem?_eq_some_iff.1 hu).1
      have := hat i hil
      rw [Go.Deep.add_add] at this
      rw [show j * ((Kd.int .i64)).sz + i = j * 1 + i from rfl, this, hu]

set_option maxRecDepth 100000 in
theorem ints_open {r : Reach} {b0 : Nat} {v : Value} {d : DataW X} {p : List MemPlace} (hval : Value.okWide Try.prog w r b0 22 v) (h : DataW.Trod enc Try.prog w base spare held 22 v d p) : ∃ (aA : Option Addr) (ac : Nat) (al : List Int), v = .slice aA al.length ac ∧ al.length ≤ ac ∧ Kd.C (Kd.int .i64) w aA al.length al := by
  obtain ⟨A, n, c, rfl⟩ := okWide_slice Try.underlying22 hval
  obtain ⟨k, hk⟩ := h
  obtain ⟨A', c', l, he, h1, h2⟩ := trod22 hk
  simp only [Value.cells, List.cons.injEq, Value.slice.injEq, and_true] at he
  obtain ⟨rfl, rfl, rfl⟩ := he
  exact ⟨A, c, l, rfl, h1, h2⟩

theorem ocells26 : Try.prog.cellsOf 26 = 5 := by kernel_rfl

theorem ocells23 : Try.prog.cellsOf 23 = 1 := by kernel_rfl

theorem ocells49 : Try.prog.cellsOf 49 = 2 := by kernel_rfl

theorem list_of2 {cs : List Value} (h : cs.length = 2) : ∃ v0 v1, cs = [v0, v1] := by
  match cs, h with
  | [v0, v1], _ => exact ⟨v0, v1, rfl⟩

theorem trod49 {n : Nat} {cs : List Value} {x : DataW X × List MemPlace} (h : DataW.trod enc Try.prog w base spare held n 49 cs = some x) : ∃ (a_0 : Int) (a_1A : Option Addr) (a_1c : Nat) (a_1l : List Int), cs = [.int .i64 a_0, .slice a_1A a_1l.length a_1c] ∧ a_1l.length ≤ a_1c ∧ Kd.C (Kd.int .i64) w a_1A a_1l.length a_1l := by
  obtain ⟨xs, m, _, hx, hl, hlen, hg⟩ := DataW.trod_struct Try.underlying49 h
  rw [ocells49] at hl
  obtain ⟨v0, v1, rfl⟩ := list_of2 hl
  obtain ⟨y0, h0⟩ := fld hlen hg 0 _ rfl 3 0 1 rfl rfl ocells3
  obtain ⟨y1, h1⟩ := fld hlen hg 1 _ rfl 22 1 1 rfl rfl ocells22
  obtain ⟨a_0, e0⟩ := trod3 h0
  obtain ⟨a_1A, a_1c, a_1l, e1, f1_0, f1_1⟩ := trod22 h1
  simp only [List.drop_zero, List.take_succ_cons, List.take_zero, List.drop_succ_cons, List.cons.injEq, and_true] at e0 e1
  subst e0 e1
  exact ⟨a_0, a_1A, a_1c, a_1l, rfl, f1_0, f1_1⟩

theorem trod23 {n : Nat} {cs : List Value} {x : DataW X × List MemPlace} (h : DataW.trod enc Try.prog w base spare held n 23 cs = some x) : ∃ (aA : Option Addr) (ac : Nat) (al : List S49), cs = [.slice aA al.length ac] ∧ al.length ≤ ac ∧ Kd.C k49 w aA al.length al := by
  rcases open_slice Try.underlying23 h with ⟨rfl, _⟩ | ⟨a, len, cap, m, k, D, Pl, rfl, hb, hl, hm, hmm, hx, hi⟩
  · exact ⟨none, 0, [], rfl, Nat.le_refl _, rfl, by simp, fun h => absurd h (by simp)⟩
  · have hlm : len ≤ m := by rw [hmm]; split <;> omega
    have H : ∀ i, i < len → ∃ p : S49 × List Value, w.cells? base (a.add (i * 2)) 2 = some p.2 ∧ Kd.K k49 w p.1 p.2 := by
      intro i hil
      obtain ⟨cs', hc, ht⟩ := hi i (by omega)
      obtain ⟨a_0, a_1A, a_1c, a_1l, rfl, q0, q1⟩ := trod49 ht
      rw [ocells49] at hc
      exact ⟨((⟨a_0, a_1l⟩ : S49), _), hc, k49_mk w _ q0 q1⟩
    obtain ⟨F, hF⟩ : ∃ F : Nat → S49 × List Value, ∀ i, i < len → w.cells? base (a.add (i * 2)) 2 = some (F i).2 ∧ Kd.K k49 w (F i).1 (F i).2 := by
      refine ⟨fun i => if h : i < len then (H i h).choose else (P.z49, []), fun i h => ?_⟩
      simp only [dif_pos h]
      exact (H i h).choose_spec
    refine ⟨some a, cap, (List.range len).map (fun i => (F i).1), by simp, by simpa using hl, ?_, ?_, ?_⟩
    · rfl
    · simp only [List.length_map, List.length_range]
      unfold maxLen at hm
      omega
    · intro _
      refine ⟨a, rfl, fun j p hj => ?_⟩
      have hjl : j < len := by
        have := (List.getElem?_eq_some_iff.1 hj).1
        simpa using this
      have hp : p = (F j).1 := by
        rw [List.getElem?_map, List.getElem?_range hjl] at hj
        simpa using hj.symm
      subst hp
      refine ⟨(F j).2, Kd.K_len _ (hF j hjl).2, (hF j hjl).2, ?_⟩
      intro i u hu
      obtain ⟨_, hcl, hat⟩ := World.cells?_some (hF j hjl).1
      have hil : i < 2 := by
        have h1 := (List.getElem?_eq_some_iff.1 hu).1
        have h2 : (F j).2.length = 2 := Kd.K_len _ (hF j hjl).2
        omega
      have := hat i hil
      rw [Go.Deep.add_add] at this
      rw [show j * (Kd.sz k49) + i = j * 2 + i from rfl, this, hu]

theorem ocells24 : Try.prog.cellsOf 24 = 1 := by kernel_rfl

theorem ocells45 : Try.prog.cellsOf 45 = 8 := by kernel_rfl

theorem list_of8 {cs : List Value} (h : cs.length = 8) : ∃ v0 v1 v2 v3 v4 v5 v6 v7, cs = [v0, v1, v2, v3, v4, v5, v6, v7] := by
  match cs, h with
  | [v0, v1, v2, v3, v4, v5, v6, v7], _ => exact ⟨v0, v1, v2, v3, v4, v5, v6, v7, rfl⟩

theorem trod45 {n : Nat} {cs : List Value} {x : DataW X × List MemPlace} (h : DataW.trod enc Try.prog w base spare held n 45 cs = some x) : ∃ (a_0 : Int) (a_1 : Int) (a_2 : Int) (a_3 : Int) (a_4 : Int) (a_5 : Int) (a_6 : Int) (a_7 : Int), cs = [.int .i64 a_0, .int .i64 a_1, .int .i64 a_2, .int .i64 a_3, .int .i64 a_4, .int .i64 a_5, .int .i64 a_6, .int .i64 a_7] := by
  obtain ⟨xs, m, _, hx, hl, hlen, hg⟩ := DataW.trod_struct Try.underlying45 h
  rw [ocells45] at hl
  obtain ⟨v0, v1, v2, v3, v4, v5, v6, v7, rfl⟩ := list_of8 hl
  obtain ⟨y0, h0⟩ := fld hlen hg 0 _ rfl 3 0 1 rfl rfl ocells3
  obtain ⟨y1, h1⟩ := fld hlen hg 1 _ rfl 3 1 1 rfl rfl ocells3
  obtain ⟨y2, h2⟩ := fld hlen hg 2 _ rfl 3 2 1 rfl rfl ocells3
  obtain ⟨y3, h3⟩ := fld hlen hg 3 _ rfl 3 3 1 rfl rfl ocells3
  obtain ⟨y4, h4⟩ := fld hlen hg 4 _ rfl 3 4 1 rfl rfl ocells3
  obtain ⟨y5, h5⟩ := fld hlen hg 5 _ rfl 3 5 1 rfl rfl ocells3
  obtain ⟨y6, h6⟩ := fld hlen hg 6 _ rfl 3 6 1 rfl rfl ocells3
  obtain ⟨y7, h7⟩ := fld hlen hg 7 _ rfl 3 7 1 rfl rfl ocells3
  obtain ⟨a_0, e0⟩ := trod3 h0
  obtain ⟨a_1, e1⟩ := trod3 h1
  obtain ⟨a_2, e2⟩ := trod3 h2
  obtain ⟨a_3, e3⟩ := trod3 h3
  obtain ⟨a_4, e4⟩ := trod3 h4
  obtain ⟨a_5, e5⟩ := trod3 h5
  obtain ⟨a_6, e6⟩ := trod3 h6
  obtain ⟨a_7, e7⟩ := trod3 h7
  simp only [List.drop_zero, List.take_succ_cons, List.take_zero, List.drop_succ_cons, List.cons.injEq, and_true] at e0 e1 e2 e3 e4 e5 e6 e7
  subst e0 e1 e2 e3 e4 e5 e6 e7
  exact ⟨a_0, a_1, a_2, a_3, a_4, a_5, a_6, a_7, rfl⟩

theorem trod24 {n : Nat} {cs : List Value} {x : DataW X × List MemPlace} (h : DataW.trod enc Try.prog w base spare held n 24 cs = some x) : ∃ (aA : Option Addr) (ac : Nat) (al : List S45), cs = [.slice aA al.length ac] ∧ al.length ≤ ac ∧ Kd.C k45 w aA al.length al := by
  rcases open_slice Try.underlying24 h with ⟨rfl, _⟩ | ⟨a, len, cap, m, k, D, Pl, rfl, hb, hl, hm, hmm, hx, hi⟩
  · exact ⟨none, 0, [], rfl, Nat.le_refl _, rfl, by simp, fun h => absurd h (by simp)⟩
  · have hlm : len ≤ m := by rw [hmm]; split <;> omega
    have H : ∀ i, i < len → ∃ s : S45, w.cells? base (a.add (i * 8)) 8 = some [.int .i64 s.f0, .int .i64 s.f1, .int .i64 s.f2, .int .i64 s.f3, .int .i64 s.f4, .int .i64 s.f5, .int .i64 s.f6, .int .i64 s.f7] := by
      intro i hil
      obtain ⟨cs', hc, ht⟩ := hi i (by omega)
      obtain ⟨a_0, a_1, a_2, a_3, a_4, a_5, a_6, a_7, rfl⟩ := trod45 ht
      rw [ocells45] at hc
      exact ⟨⟨a_0, a_1, a_2, a_3, a_4, a_5, a_6, a_7⟩, hc⟩
    obtain ⟨F, hF⟩ : ∃ F : Nat → S45, ∀ i, i < len → w.cells? base (a.add (i * 8)) 8 = some [.int .i64 (F i).f0, .int .i64 (F i).f1, .int .i64 (F i).f2, .int .i64 (F i).f3, .int .i64 (F i).f4, .int .i64 (F i).f5, .int .i64 (F i).f6, .int .i64 (F i).f7] := by
      refine ⟨fun i => if h : i < len then (H i h).choose else P.z45, fun i h => ?_⟩
      simp only [dif_pos h]
      exact (H i h).choose_spec
    refine ⟨some a, cap, (List.range len).map F, by simp, by simpa using hl, ?_, ?_, ?_⟩
    · rfl
    · simp only [List.length_map, List.length_range]
      unfold maxLen at hm
      omega
    · intro _
      refine ⟨a, rfl, fun j p hj => ?_⟩
      have hjl : j < len := by
        have := (List.getElem?_eq_some_iff.1 hj).1
        simpa using this
      have hp : p = F j := by
        rw [List.getElem?_map, List.getElem?_range hjl] at hj
        simpa using hj.symm
      subst hp
      refine ⟨[.int .i64 (F j).f0, .int .i64 (F j).f1, .int .i64 (F j).f2, .int .i64 (F j).f3, .int .i64 (F j).f4, .int .i64 (F j).f5, .int .i64 (F j).f6, .int .i64 (F j).f7], rfl, k45_mk w (F j), ?_⟩
      intro i u hu
      obtain ⟨_, hcl, hat⟩ := World.cells?_some (hF j hjl)
      have hil : i < 8 := (List.getElem?_eq_some_iff.1 hu).1
      have := hat i hil
      rw [Go.Deep.add_add] at this
      rw [show j * (k45).sz + i = j * 8 + i from rfl, this, hu]

theorem list_of5 {cs : List Value} (h : cs.length = 5) : ∃ v0 v1 v2 v3 v4, cs = [v0, v1, v2, v3, v4] := by
  match cs, h with
  | [v0, v1, v2, v3, v4], _ => exact ⟨v0, v1, v2, v3, v4, rfl⟩

theorem trod26 {n : Nat} {cs : List Value} {x : DataW X × List MemPlace} (h : DataW.trod enc Try.prog w base spare held n 26 cs = some x) : ∃ (a_0 : Int) (a_1A : Option Addr) (a_1c : Nat) (a_1l : List Int) (a_2 : Int) (a_3A : Option Addr) (a_3c : Nat) (a_3l : List S49) (a_4A : Option Addr) (a_4c : Nat) (a_4l : List S45), cs = [.int .i64 a_0, .slice a_1A a_1l.length a_1c, .int .i64 a_2, .slice a_3A a_3l.length a_3c, .slice a_4A a_4l.length a_4c] ∧ a_1l.length ≤ a_1c ∧ Kd.C (Kd.int .i64) w a_1A a_1l.length a_1l ∧ a_3l.length ≤ a_3c ∧ Kd.C k49 w a_3A a_3l.length a_3l ∧ a_4l.length ≤ a_4c ∧ Kd.C k45 w a_4A a_4l.length a_4l := by
  obtain ⟨xs, m, _, hx, hl, hlen, hg⟩ := DataW.trod_struct Try.underlying26 h
  rw [ocells26] at hl
  obtain ⟨v0, v1, v2, v3, v4, rfl⟩ := list_of5 hl
  obtain ⟨y0, h0⟩ := fld hlen hg 0 _ rfl 3 0 1 rfl rfl ocells3
  obtain ⟨y1, h1⟩ := fld hlen hg 1 _ rfl 22 1 1 rfl rfl ocells22
  obtain ⟨y2, h2⟩ := fld hlen hg 2 _ rfl 3 2 1 rfl rfl ocells3
  obtain ⟨y3, h3⟩ := fld hlen hg 3 _ rfl 23 3 1 rfl rfl ocells23
  obtain ⟨y4, h4⟩ := fld hlen hg 4 _ rfl 24 4 1 rfl rfl ocells24
  obtain ⟨a_0, e0⟩ := trod3 h0
  obtain ⟨a_1A, a_1c, a_1l, e1, f1_0, f1_1⟩ := trod22 h1
  obtain ⟨a_2, e2⟩ := trod3 h2
  obtain ⟨a_3A, a_3c, a_3l, e3, f3_0, f3_1⟩ := trod23 h3
  obtain ⟨a_4A, a_4c, a_4l, e4, f4_0, f4_1⟩ := trod24 h4
  simp only [List.drop_zero, List.take_succ_cons, List.take_zero, List.drop_succ_cons, List.cons.injEq, and_true] at e0 e1 e2 e3 e4
  subst e0 e1 e2 e3 e4
  exact ⟨a_0, a_1A, a_1c, a_1l, a_2, a_3A, a_3c, a_3l, a_4A, a_4c, a_4l, rfl, f1_0, f1_1, f3_0, f3_1, f4_0, f4_1⟩

set_option maxRecDepth 100000 in
theorem week_open {r : Reach} {b0 : Nat} {v : Value} {d : DataW X} {p : List MemPlace} (hval : Value.okWide Try.prog w r b0 26 v) (h : DataW.Trod enc Try.prog w base spare held 26 v d p) : ∃ (a_0 : Int) (a_1A : Option Addr) (a_1c : Nat) (a_1l : List Int) (a_2 : Int) (a_3A : Option Addr) (a_3c : Nat) (a_3l : List S49) (a_4A : Option Addr) (a_4c : Nat) (a_4l : List S45), v = .agg #[.int .i64 a_0, .slice a_1A a_1l.length a_1c, .int .i64 a_2, .slice a_3A a_3l.length a_3c, .slice a_4A a_4l.length a_4c] ∧ a_1l.length ≤ a_1c ∧ Kd.C (Kd.int .i64) w a_1A a_1l.length a_1l ∧ a_3l.length ≤ a_3c ∧ Kd.C k49 w a_3A a_3l.length a_3l ∧ a_4l.length ≤ a_4c ∧ Kd.C k45 w a_4A a_4l.length a_4l := by
  obtain ⟨cs, rfl, hsz⟩ := okWide_struct Try.underlying26 hval
  obtain ⟨n, hn⟩ := h
  obtain ⟨a_0, a_1A, a_1c, a_1l, a_2, a_3A, a_3c, a_3l, a_4A, a_4c, a_4l, hH, f0, f1, f2, f3, f4, f5⟩ := trod26 hn
  obtain ⟨l⟩ := cs
  obtain rfl : l = _ := hH
  exact ⟨a_0, a_1A, a_1c, a_1l, a_2, a_3A, a_3c, a_3l, a_4A, a_4c, a_4l, rfl, f0, f1, f2, f3, f4, f5⟩

theorem ocells53 : Try.prog.cellsOf 53 = 2 := by kernel_rfl

theorem trod53 {n : Nat} {cs : List Value} {x : DataW X × List MemPlace} (h : DataW.trod enc Try.prog w base spare held n 53 cs = some x) : ∃ (a_0 : Int) (a_1 : Int), cs = [.int .i64 a_0, .int .i64 a_1] := by
  obtain ⟨xs, m, _, hx, hl, hlen, hg⟩ := DataW.trod_struct Try.underlying53 h
  rw [ocells53] at hl
  obtain ⟨v0, v1, rfl⟩ := list_of2 hl
  obtain ⟨y0, h0⟩ := fld hlen hg 0 _ rfl 3 0 1 rfl rfl ocells3
  obtain ⟨y1, h1⟩ := fld hlen hg 1 _ rfl 3 1 1 rfl rfl ocells3
  obtain ⟨a_0, e0⟩ := trod3 h0
  obtain ⟨a_1, e1⟩ := trod3 h1
  simp only [List.drop_zero, List.take_succ_cons, List.take_zero, List.drop_succ_cons, List.cons.injEq, and_true] at e0 e1
  subst e0 e1
  exact ⟨a_0, a_1, rfl⟩

set_option maxRecDepth 100000 in
theorem two_open {r : Reach} {b0 : Nat} {v : Value} {d : DataW X} {p : List MemPlace} (hval : Value.okWide Try.prog w r b0 53 v) (h : DataW.Trod enc Try.prog w base spare held 53 v d p) : ∃ (a_0 : Int) (a_1 : Int), v = .agg #[.int .i64 a_0, .int .i64 a_1] := by
  obtain ⟨cs, rfl, hsz⟩ := okWide_struct Try.underlying53 hval
  obtain ⟨n, hn⟩ := h
  obtain ⟨a_0, a_1, hH⟩ := trod53 hn
  obtain ⟨l⟩ := cs
  obtain rfl : l = _ := hH
  exact ⟨a_0, a_1, rfl⟩

end

end Go.Proofs.Ytdiambcjghlffaa.T
namespace Go.Proofs.Ytdiambcjghlffaa.T
open Go.RowKit Go.Proofs.YtdiambcjghlffaaW.PrintWords Go.Proofs.YtdiambcjghlffaaW.PrintMore
open Go.Proofs.Ytdiambcjghlffaa.P
set_option linter.unusedVariables false
set_option linter.unusedSimpArgs false

theorem brA_len {V : Wk} {p : List Int} (hs : Sz V) : (brA V p).length ≤ 1000000 := by
  unfold brA
  split
  · have := brk_len V p V.ds.length; have := hs.d; omega
  · simp
end Go.Proofs.Ytdiambcjghlffaa.T
namespace Go.Proofs.Ytdiambcjghlffaa.T
open Go.RowKit Go.Proofs.YtdiambcjghlffaaW.PrintWords Go.Proofs.YtdiambcjghlffaaW.PrintMore
open Go.Proofs.Ytdiambcjghlffaa.P
set_option linter.unusedVariables false
set_option linter.unusedSimpArgs false

set_option maxRecDepth 100000 in
set_option maxHeartbeats 8000000 in

theorem isProgram_any (V : Wk) (m : Wa) (p : List Int) (A : Option Addr) (c : Nat) (w : World) (hV : WM w V m) (hs : Sz V) (hp : Kd.C kI w A p.length p) (hpn : p.length ≤ 9223372036854775807) (ok : Shp V) (r : Bool) (hb : r = true ↔ IsP V p) :
    Calls Try.prog 24 #[wv V m, .slice A p.length c] w fun e w' => e = .returned (.bool r) ∧ Below w.heap.size w w' := by
  have hsf := hs.f
  have hsn := slots_nat ok
  have hu3 := Try.underlying3
  have hu22 := Try.underlying22
  have hu23 := Try.underlying23
  have hu26 := Try.underlying26
  obtain ⟨z3, o3⟩ := info_some info3s (by decide)
  obtain ⟨z22, o22⟩ := info_some info22s (by decide)
  obtain ⟨z23, o23⟩ := info_some info23s (by decide)
  refine E.enter (N := 27) Try.func24 rfl Try.ntmps24 (args := [wv V m, .slice A p.length c]) (by simp) ?_
  have L := Below.refl w.heap.size w
  refine E.CG.seq ?_
  refine E.CG.list ?_
  refine E.GL.st rfl rfl rfl (E.ST.box rfl rfl fun g2 w2 e2 b2 l2 => ?_)
  have h2_L : w.heap.size ≤ g2 := by rw [e2]; exact L.size
  replace L := below_step L l2
  refine E.GL.run rfl rfl rfl (E.Runs.assign rfl rfl) ?_
  refine E.GL.done ?_
  refine E.QG.code ?_
  refine E.CG.seq ?_
  refine E.CG.seq ?_
  refine E.CG.list ?_
  refine E.GL.run rfl rfl rfl (E.Runs.assign rfl rfl) ?_
  refine E.GL.done ?_
  refine E.QG.code ?_
  refine E.CG.block ?_
  have s2_b2 := b2
  have s2_L := L
  refine E.CG.loop (fun (i : Nat) => [(1, .slice A p.length c), (2, .pointer (some ⟨g2, 0, none⟩)), (5, .int .i64 i)]) (fun i w' => i ≤ p.length ∧ (∀ k, k < i → ∀ y, p[k]? = some y → -1 ≤ y ∧ y ≤ (V.fs.length : Int) - 1) ∧ w'.heap[g2]? = some (.cells #[.int .i64 V.d, .slice m.A V.rs.length m.a, .int .i64 V.h, .slice m.B V.fs.length m.b, .slice m.C V.ds.length m.c] 26 (0, 0)) ∧ Below w.heap.size w w') (fun i => p.length - i) 0 (E.subc rfl (E.subc rfl (E.subc rfl E.subn))) ⟨Nat.zero_le _, fun k hk => by omega, b2, L⟩ ?_
  rintro i w2 ⟨hi, hok, b2, L⟩
  refine E.CG.seq ?_
  refine E.CG.seq ?_
  refine E.CG.list ?_
  refine E.GL.run rfl rfl rfl (E.Runs.move rfl rfl) ?_
  refine E.GL.run rfl rfl rfl (E.Runs.move rfl rfl) ?_
  refine E.GL.run rfl rfl rfl (E.Runs.len rfl rfl hu22) ?_
  refine E.GL.cmp rfl rfl rfl (fun _ h => (E.Runs.lss rfl rfl rfl h)) (fun h9 => ?_) (fun h9 => ?_)
  · obtain ⟨y, hy⟩ := get_ex (show i < p.length by omega)
    obtain ⟨ad, eA, X⟩ := int_at hp hy
    refine E.GL.done ?_
    refine E.QG.code ?_
    refine E.CG.cond_t rfl ?_
    refine E.CG.skip ?_
    refine E.QG.code ?_
    refine E.CG.seq ?_
    refine E.CG.block ?_
    refine E.CG.seq ?_
    refine E.CG.heldH (none) (by kernel_rfl) fun v4 lD hh => ?_
    replace b2 := blk_below b2 lD
    replace L := below_step L lD
    clear lD
    have s_b2 := b2
    have s_L := L
    refine E.GH.take (i := 0) rfl (by kernel_rfl) (by kernel_rfl) (by kernel_rfl) (by intro c a d v w h; first | (cases d <;> exact h) | exact nomatch (show _ ∧ _ from h).1) rfl rfl rfl (fun w' hS => (E.Runs.move rfl rfl)) ?_
    refine E.GH.take (i := 1) rfl (by kernel_rfl) (by kernel_rfl) (by kernel_rfl) (by intro c a d v w h; first | (cases d <;> exact h) | exact nomatch (show _ ∧ _ from h).1) rfl rfl rfl (fun w' hS => (E.Runs.move rfl rfl)) ?_
    refine E.GH.take (i := 2) rfl (by kernel_rfl) (by kernel_rfl) (by kernel_rfl) (by intro c a d v w h; first | (cases d <;> exact h) | exact nomatch (show _ ∧ _ from h).1) rfl rfl rfl (fun w' hS => (E.Runs.indexAddrA (i := i) rfl rfl rfl hu22 z3 o3 (by omega) eA rfl)) ?_
    refine E.GH.take (i := 3) rfl (by kernel_rfl) (by kernel_rfl) (by kernel_rfl) (by intro c a d v w h; first | (cases d <;> exact h) | exact nomatch (show _ ∧ _ from h).1) rfl rfl rfl (fun w' hS => (E.Runs.load rfl rfl hu3 (pw_cell_below (below_step s_L (E.belowG hS)) X))) ?_
    refine E.GH.take (i := 4) rfl (by kernel_rfl) (by kernel_rfl) (by kernel_rfl) (by intro c a d v w h; first | (cases d <;> exact h) | exact nomatch (show _ ∧ _ from h).1) rfl rfl rfl (fun w' hS => (E.Runs.fieldAddr rfl rfl hu26 rfl (by assumption) rfl)) ?_
    refine E.GH.take (i := 5) rfl (by kernel_rfl) (by kernel_rfl) (by kernel_rfl) (by intro c a d v w h; first | (cases d <;> exact h) | exact nomatch (show _ ∧ _ from h).1) rfl rfl rfl (fun w' hS => (E.Runs.load1 rfl rfl hu23 rfl (by first | exact E.keeps hS (E.blkc (by assumption) rfl) (by first | exact E.nen | exact E.nes (by assumption) | exact E.nes (Ne.symm (by assumption))) | exact pw_cell_below (below_step s_L (E.belowG hS)) (by assumption)))) ?_
    refine E.GH.take (i := 6) rfl (by kernel_rfl) (by kernel_rfl) (by kernel_rfl) (by intro c a d v w h; first | (cases d <;> exact h) | exact nomatch (show _ ∧ _ from h).1) rfl rfl rfl (fun w' hS => (E.Runs.len rfl rfl hu23)) ?_
    refine E.GH.take (i := 7) rfl (by kernel_rfl) (by kernel_rfl) (by kernel_rfl) (by intro c a d v w h; first | (cases d <;> exact h) | exact nomatch (show _ ∧ _ from h).1) rfl rfl rfl (fun w' hS => (E.Runs.sub rfl rfl rfl (IntWalk.i64_in _ (by omega)))) ?_
    by_cases h20 : inR y (-1) (V.fs.length - 1)
    · refine E.GH.one (i := 8) (by kernel_rfl) rfl ?_
      refine E.GO.st rfl rfl rfl (E.ST.call rfl ent47 (E.evc rfl (E.evc rfl (E.evc rfl E.evn))) ((within_r y (-1) (V.fs.length - 1) true (iff_of_true rfl h20) _).mono ?_))
      rintro e w20 ⟨rfl, l20⟩
      refine ⟨_, rfl, hh.trans (E.gbB l20), ?_⟩
      replace hh := hh.trans (E.gbB l20)
      replace b2 := blk_below b2 l20
      replace L := below_step L l20
      refine E.GH.take (i := 9) rfl (by kernel_rfl) (by kernel_rfl) (by kernel_rfl) (by intro c a d v w h; first | (cases d <;> exact h) | exact nomatch (show _ ∧ _ from h).1) rfl rfl rfl (fun w' hS => (E.Runs.not rfl rfl)) ?_
      refine E.GH.done (by kernel_rfl) ?_
      refine E.QG.code ?_
      refine E.CG.cond_f rfl ?_
      refine E.CG.skip ?_
      refine E.QG.block_normal ?_
      refine E.QG.code ?_
      refine E.CG.list ?_
      refine E.GL.run rfl rfl rfl (E.Runs.move rfl rfl) ?_
      refine E.GL.run rfl rfl rfl (E.Runs.add rfl rfl rfl (IntWalk.i64_in _ (by omega))) ?_
      refine E.GL.run rfl rfl rfl (E.Runs.assign rfl rfl) ?_
      refine E.GL.done ?_
      exact E.QG.round (i + 1) (E.subc rfl (E.subc rfl (E.subc rfl E.subn))) ⟨by omega, all_more hok hy h20, b2, L⟩ (by omega)
    · refine E.GH.one (i := 8) (by kernel_rfl) rfl ?_
      refine E.GO.st rfl rfl rfl (E.ST.call rfl ent47 (E.evc rfl (E.evc rfl (E.evc rfl E.evn))) ((within_r y (-1) (V.fs.length - 1) false (iff_of_false Bool.false_ne_true h20) _).mono ?_))
      rintro e w20 ⟨rfl, l20⟩
      refine ⟨_, rfl, hh.trans (E.gbB l20), ?_⟩
      replace hh := hh.trans (E.gbB l20)
      replace b2 := blk_below b2 l20
      replace L := below_step L l20
      refine E.GH.take (i := 9) rfl (by kernel_rfl) (by kernel_rfl) (by kernel_rfl) (by intro c a d v w h; first | (cases d <;> exact h) | exact nomatch (show _ ∧ _ from h).1) rfl rfl rfl (fun w' hS => (E.Runs.not rfl rfl)) ?_
      refine E.GH.done (by kernel_rfl) ?_
      refine E.QG.code ?_
      refine E.CG.cond_t rfl ?_
      refine E.CG.seq ?_
      refine E.CG.list ?_
      refine E.GL.run rfl rfl rfl (E.Runs.assign rfl rfl) ?_
      refine E.GL.done ?_
      refine E.QG.code ?_
      refine E.CG.ret ?_
      refine E.QG.block_ret ?_
      refine E.QG.pass_ret ?_
      refine E.QG.pass_ret ?_
      refine E.QG.block_ret ?_
      refine E.QG.pass_ret ?_
      exact E.QG.result rfl rfl ⟨by rw [bool_no hb (fun k => h20 (k.2 y (mem_of hy)))], L⟩
  · refine E.GL.done ?_
    refine E.QG.code ?_
    refine E.CG.cond_f rfl ?_
    refine E.CG.exit ?_
    refine E.QG.pass_exit ?_
    refine E.QG.pass_exit ?_
    refine E.QG.block_here ?_
    refine E.QG.code ?_
    refine E.CG.seq ?_
    refine E.CG.list ?_
    refine E.GL.run rfl rfl rfl (E.Runs.move rfl rfl) ?_
    refine E.GL.run rfl rfl rfl (E.Runs.len rfl rfl hu22) ?_
    refine E.GL.run rfl rfl rfl (E.Runs.loads (cs := [.int .i64 V.d, .slice m.A V.rs.length m.a, .int .i64 V.h, .slice m.B V.fs.length m.b, .slice m.C V.ds.length m.c]) rfl rfl hu26 rfl info26s (blk_cells b2)) ?_
    refine E.GL.st rfl rfl rfl (E.ST.call rfl ent35 (E.evc rfl E.evn) ((slots_r V m _ ok.d ok.r ok.h).mono ?_))
    rintro e w25 ⟨rfl, l25⟩
    refine ⟨_, rfl, ?_⟩
    replace b2 := blk_below b2 l25
    replace L := below_step L l25
    refine E.GL.cmp rfl rfl rfl (fun _ h => (E.Runs.eql rfl rfl rfl h)) (fun h26 => ?_) (fun h26 => ?_)
    · refine E.GL.run rfl rfl rfl (E.Runs.assign rfl rfl) ?_
      refine E.GL.done ?_
      refine E.QG.code ?_
      refine E.CG.ret ?_
      exact E.QG.result rfl rfl ⟨by rw [hb.mpr ⟨by omega, all_done hok (by omega)⟩], L⟩
    · refine E.GL.run rfl rfl rfl (E.Runs.assign rfl rfl) ?_
      refine E.GL.done ?_
      refine E.QG.code ?_
      refine E.CG.ret ?_
      exact E.QG.result rfl rfl ⟨by rw [bool_no hb (fun k => by have := k.1; omega)], L⟩

theorem brA_yes {V : Wk} {p : List Int} (ok : WOk V) (hP : IsP V p) : brA V p = brk V p V.ds.length := by unfold brA; rw [if_pos (chkP_yes ok hP)]
theorem tkA_yes {V : Wk} {p : List Int} (ok : WOk V) (hP : IsP V p) : tkA V p = takes V p := by unfold tkA; rw [if_pos (chkP_yes ok hP)]
end Go.Proofs.Ytdiambcjghlffaa.T
namespace Go.Proofs.Ytdiambcjghlffaa.T
open Go.RowKit Go.Proofs.YtdiambcjghlffaaW.PrintWords Go.Proofs.YtdiambcjghlffaaW.PrintMore
open Go.Proofs.Ytdiambcjghlffaa.P
set_option linter.unusedVariables false
set_option linter.unusedSimpArgs false
section
variable {V : Wk} {l : List S45} {p : List Int}
end
/-- The greatest takings of some deals kept. -/
def MxD (V : Wk) (l : List S45) : Option Int → Prop
  | none => ∀ p, IsP V p → ¬ ∀ x ∈ l, Keep V x p
  | some m => (∃ p, IsP V p ∧ (∀ x ∈ l, Keep V x p) ∧ takes V p = m) ∧ ∀ p, IsP V p → (∀ x ∈ l, Keep V x p) → takes V p ≤ m
end Go.Proofs.Ytdiambcjghlffaa.T
namespace Go.Proofs.Ytdiambcjghlffaa.T
open Go.RowKit Go.Proofs.YtdiambcjghlffaaW.PrintWords Go.Proofs.YtdiambcjghlffaaW.PrintMore
open Go.Proofs.Ytdiambcjghlffaa.P
set_option linter.unusedVariables false
set_option linter.unusedSimpArgs false

theorem WR.grown {bs : Nat} {w w' : World} {V : Wk} {m : Wa} {g : Nat} (h : WR bs w V m) (hg : w.grownBy w' (some g)) (hb : ∃ cs, w.heap[g]? = some (.cells cs 26 (0, 0))) : WR bs w' V m := by
  obtain ⟨cs, hb⟩ := hb
  obtain ⟨xs, h1, h2⟩ := h.fs
  exact ⟨Kd.R_grown1 h.rs rfl hg (Kd.R_ne h.rs hb (by decide)), ⟨xs, Kd.R_grown1 h1 rfl hg (Kd.R_ne h1 hb (by decide)), h2.over hb (by decide) hg⟩, Kd.R_grown1 h.ds rfl hg (Kd.R_ne h.ds hb (by decide))⟩
end Go.Proofs.Ytdiambcjghlffaa.T
namespace Go.Proofs.Ytdiambcjghlffaa.T
open Go.RowKit Go.Proofs.YtdiambcjghlffaaW.PrintWords Go.Proofs.YtdiambcjghlffaaW.PrintMore
open Go.Proofs.Ytdiambcjghlffaa.P
set_option linter.unusedVariables false
set_option linter.unusedSimpArgs false

/-- The deals by their numbers. -/
def dsOf (V : Wk) (l : List Int) : List S45 := l.map fun i => V.ds.getD i.toNat z45
/-- The parts of a week but its deals, in rows of our own. -/
structure WF (bs : Nat) (w : World) (V : Wk) (m : Wa) : Prop where
  rs : Kd.R kI 3 w bs (fun _ => True) (.slice m.A V.rs.length m.a) V.rs
  fs : ∃ xs, Kd.R kFH 49 w bs (fun _ => True) (.slice m.B V.fs.length m.b) xs ∧ Mid w bs V.fs.length xs V.fs
theorem WF.below {bs : Nat} {w w' : World} {V : Wk} {m : Wa} (h : WF bs w V m) (l : Below w.heap.size w w') : WF bs w' V m := by
  obtain ⟨xs, h1, h2⟩ := h.fs
  exact ⟨Kd.R_below h.rs l, ⟨xs, Kd.R_below h1 l, h2.below l⟩⟩
theorem WF.grown {bs : Nat} {w w' : World} {V : Wk} {m : Wa} {g : Nat} (h : WF bs w V m) (hg : w.grownBy w' (some g)) (hb : ∃ cs, w.heap[g]? = some (.cells cs 26 (0, 0))) : WF bs w' V m := by
  obtain ⟨cs, hb⟩ := hb
  obtain ⟨xs, h1, h2⟩ := h.fs
  exact ⟨Kd.R_grown1 h.rs rfl hg (Kd.R_ne h.rs hb (by decide)), ⟨xs, Kd.R_grown1 h1 rfl hg (Kd.R_ne h1 hb (by decide)), h2.over hb (by decide) hg⟩⟩
theorem WF.over {bs b : Nat} {w w' : World} {V : Wk} {m : Wa} {u : Value} {ys : List S45} (h : WF bs w V m) (hu : Kd.R k45 45 w b (fun _ => True) u ys) (hg : w.grownBy w' u.ownBlock) : WF bs w' V m := by
  obtain ⟨xs, h1, h2⟩ := h.fs
  refine ⟨E.R_over' h.rs hu (by decide) hg, ⟨xs, E.R_over' h1 hu (by decide) hg, ?_⟩⟩
  exact ⟨h2.len, fun j x f hx hf => ⟨(h2.row j x f hx hf).1, fun hj => E.R_over' ((h2.row j x f hx hf).2 hj) hu (by decide) hg⟩⟩
end Go.Proofs.Ytdiambcjghlffaa.T
namespace Go.Proofs.Ytdiambcjghlffaa.T
open Go.RowKit Go.Proofs.YtdiambcjghlffaaW.PrintWords Go.Proofs.YtdiambcjghlffaaW.PrintMore
open Go.Proofs.Ytdiambcjghlffaa.P
set_option linter.unusedVariables false
set_option linter.unusedSimpArgs false
theorem asc_at {l : List Int} (h : l.Pairwise (· < ·)) {i j : Nat} {a b : Int} (hi : l[i]? = some a) (hj : l[j]? = some b) (hij : i < j) : a < b := by
  obtain ⟨h1, rfl⟩ := List.getElem?_eq_some_iff.1 hi
  obtain ⟨h2, rfl⟩ := List.getElem?_eq_some_iff.1 hj
  exact List.pairwise_iff_getElem.mp h i j h1 h2 hij
theorem asc_ge {l : List Int} (h : l.Pairwise (· < ·)) (h0 : ∀ x ∈ l, 0 ≤ x) : ∀ (i : Nat) (x : Int), l[i]? = some x → (i : Int) ≤ x
  | 0, x, hx => h0 x (mem_of hx)
  | i + 1, x, hx => by
    obtain ⟨y, hy⟩ := get_ex (show i < l.length by have := (List.getElem?_eq_some_iff.1 hx).1; omega)
    have h1 := asc_ge h h0 i y hy
    have h2 := asc_at h hy hx (by omega)
    omega
theorem asc_len {l : List Int} {n : Nat} (h : l.Pairwise (· < ·)) (h0 : ∀ x ∈ l, 0 ≤ x ∧ x < n) : l.length ≤ n := by
  rcases Nat.eq_zero_or_pos l.length with e | e
  · omega
  · obtain ⟨x, hx⟩ := get_ex (show l.length - 1 < l.length by omega)
    have h1 := asc_ge h (fun y hy => (h0 y hy).1) _ x hx
    have h2 := (h0 x (mem_of hx)).2
    omega
/-- What the least set says. -/
structure Nm (V : Wk) (l : List Int) : Prop where
  rng : ∀ x ∈ l, 0 ≤ x ∧ x < (V.ds.length : Int)
  asc : l.Pairwise (· < ·)
  ne : l ≠ []
  no : MxD V (dsOf V l) none
  one : ∀ i, i < l.length → ∃ r, MxD V (dsOf V (l.eraseIdx i)) (some r)
  hit : ∀ p, IsP V p → ∃ x ∈ l, x ∈ brk V p V.ds.length
theorem Nm.len {V : Wk} {l : List Int} (h : Nm V l) : l.length ≤ V.ds.length := asc_len h.asc h.rng
end Go.Proofs.Ytdiambcjghlffaa.T
namespace Go.Proofs.Ytdiambcjghlffaa.T
open Go.RowKit Go.Proofs.YtdiambcjghlffaaW.PrintWords Go.Proofs.YtdiambcjghlffaaW.PrintMore
open Go.Proofs.Ytdiambcjghlffaa.P
set_option linter.unusedVariables false
set_option linter.unusedSimpArgs false
section
variable {V : Wk} {p : List Int} {x y : S45}
end
end Go.Proofs.Ytdiambcjghlffaa.T
namespace Go.Proofs.Ytdiambcjghlffaa.T
open Go.RowKit Go.Proofs.YtdiambcjghlffaaW.PrintWords Go.Proofs.YtdiambcjghlffaaW.PrintMore
open Go.Proofs.Ytdiambcjghlffaa.P
set_option linter.unusedVariables false
set_option linter.unusedSimpArgs false

end Go.Proofs.Ytdiambcjghlffaa.T
namespace Go.Proofs.Ytdiambcjghlffaa.T
open Go.RowKit Go.Proofs.YtdiambcjghlffaaW.PrintWords Go.Proofs.YtdiambcjghlffaaW.PrintMore
open Go.Proofs.Ytdiambcjghlffaa.P
set_option linter.unusedVariables false
set_option linter.unusedSimpArgs false

/-- The parts of a week but its deals; blocks of other types may be written. -/
structure WG (bs : Nat) (w : World) (V : Wk) (m : Wa) : Prop where
  f : WF bs w V m
theorem WG.below {bs : Nat} {w w' : World} {V : Wk} {m : Wa} (h : WG bs w V m) (l : Below w.heap.size w w') : WG bs w' V m := ⟨h.f.below l⟩
theorem WG.grown {bs : Nat} {w w' : World} {V : Wk} {m : Wa} {g : Nat} (h : WG bs w V m) (hg : w.grownBy w' (some g)) (hb : ∃ cs t, w.heap[g]? = some (.cells cs t (0, 0)) ∧ 3 ≠ t ∧ 49 ≠ t) : WG bs w' V m := by
  obtain ⟨cs, t, hb, h3, h49⟩ := hb
  obtain ⟨xs, h1, h2⟩ := h.f.fs
  exact ⟨⟨Kd.R_grown1 h.f.rs rfl hg (Kd.R_ne h.f.rs hb h3), ⟨xs, Kd.R_grown1 h1 rfl hg (Kd.R_ne h1 hb h49), h2.over hb h3 hg⟩⟩⟩
theorem WG.over {bs b : Nat} {w w' : World} {V : Wk} {m : Wa} {u : Value} {ys : List S45} (h : WG bs w V m) (hu : Kd.R k45 45 w b (fun _ => True) u ys) (hg : w.grownBy w' u.ownBlock) : WG bs w' V m := ⟨h.f.over hu hg⟩
theorem dok_small {V : Wk} {d : S45} (ok : Shp V) (h : DOk V d) : (0 ≤ d.f7 ∧ d.f7 ≤ 8) ∧ (0 ≤ d.f2 ∧ d.f2 ≤ 7) ∧ 0 ≤ d.f3 ∧ d.f3 ≤ 7 := by
  obtain ⟨_, ⟨q0, q1⟩, q2, _, _, _, hk⟩ := h
  have := ok.d
  refine ⟨?_, by omega, by omega, by omega⟩
  rcases hk with ⟨_, k1, k2⟩ | ⟨_, k2⟩
  · exact ⟨k1, k2⟩
  · omega
end Go.Proofs.Ytdiambcjghlffaa.T
namespace Go.Proofs.Ytdiambcjghlffaa.T
open Go.RowKit Go.Proofs.YtdiambcjghlffaaW.PrintWords Go.Proofs.YtdiambcjghlffaaW.PrintMore
open Go.Proofs.Ytdiambcjghlffaa.P
set_option linter.unusedVariables false
set_option linter.unusedSimpArgs false
section
variable {V : Wk} {l : List S49} {p : List Int}
end
/-- The first films' prices changed. -/
structure PrI (t : Int) (i : Nat) (xs ys : List Fh) : Prop where
  len : ys.length = xs.length
  row : ∀ (j : Nat) (y x : Fh), ys[j]? = some y → xs[j]? = some x → y.h = x.h ∧ y.p = if j < i then x.p * t else x.p
theorem PrI.start (t : Int) (xs : List Fh) : PrI t 0 xs xs := ⟨rfl, fun j y x hy hx => by rw [hy] at hx; injection hx with hx; subst hx; exact ⟨rfl, by rw [if_neg (by omega)]⟩⟩
theorem PrI.put {t : Int} {i : Nat} {xs ys : List Fh} {y x : Fh} (h : PrI t i xs ys) (hy : ys[i]? = some y) (hx : xs[i]? = some x) : PrI t (i + 1) xs (ys.set i ⟨x.p * t, y.h⟩) := by
  refine ⟨by rw [List.length_set]; exact h.len, fun j z u hz hu => ?_⟩
  by_cases e : i = j
  · subst e
    rw [List.getElem?_set_self (List.getElem?_eq_some_iff.1 hy).1] at hz
    injection hz with hz
    subst hz
    rw [hx] at hu
    injection hu with hu
    subst hu
    exact ⟨(h.row i y x hy hx).1, by rw [if_pos (by omega)]⟩
  · rw [List.getElem?_set_ne e] at hz
    obtain ⟨q1, q2⟩ := h.row j z u hz hu
    refine ⟨q1, ?_⟩
    rw [q2]
    by_cases hj : j < i
    · rw [if_pos hj, if_pos (by omega)]
    · rw [if_neg hj, if_neg (by omega)]
theorem PrI.ok {t : Int} {xs ys : List Fh} {fs : List S49} {w : World} {bs : Nat} (h : PrI t fs.length xs ys) (m : Mid w bs fs.length xs fs) : FhOk w ys (fs.map fun x => ⟨x.f0 * t, x.f1⟩) := by
  have hl := m.len
  have hok := m.ok
  refine ⟨by rw [h.len, List.length_map, hl], fun i y f hy hf => ?_⟩
  rw [List.getElem?_map] at hf
  have hi := (List.getElem?_eq_some_iff.1 hy).1
  have hle := h.len
  obtain ⟨g, hg⟩ := get_ex (show i < fs.length by omega)
  obtain ⟨x, hx⟩ := get_ex (show i < xs.length by omega)
  rw [hg] at hf
  injection hf with hf
  subst hf
  obtain ⟨q1, q2⟩ := h.row i y x hy hx
  obtain ⟨r1, r2, r3, r4⟩ := hok.row i x g hx hg
  refine ⟨?_, by rw [q1]; exact r2, by rw [q1]; exact r3, by rw [q1]; exact r4⟩
  rw [q2, if_pos (by omega), r1]
theorem FhOk.more {w : World} {xs : List Fh} {fs : List S49} {x : Fh} {f : S49} (h : FhOk w xs fs) (h1 : x.p = f.f0) (h2 : x.h.n = f.f1.length) (h3 : f.f1.length ≤ x.h.c) (h4 : Kd.C kI w x.h.A f.f1.length f.f1) : FhOk w (xs ++ [x]) (fs ++ [f]) := by
  have hl := h.len
  refine ⟨by simp [hl], fun i y g hy hg => ?_⟩
  by_cases hi : i < xs.length
  · rw [List.getElem?_append_left hi] at hy
    rw [List.getElem?_append_left (by omega)] at hg
    exact h.row i y g hy hg
  · have hlt := (List.getElem?_eq_some_iff.1 hy).1
    rw [List.length_append, List.length_singleton] at hlt
    obtain rfl : i = xs.length := by omega
    rw [List.getElem?_append_right (Nat.le_refl _)] at hy
    rw [List.getElem?_append_right (by omega), hl] at hg
    simp at hy hg
    subst hy hg
    exact ⟨h1, h2, h3, h4⟩
end Go.Proofs.Ytdiambcjghlffaa.T
namespace Go.Proofs.Ytdiambcjghlffaa.T
open Go.RowKit Go.Proofs.YtdiambcjghlffaaW.PrintWords Go.Proofs.YtdiambcjghlffaaW.PrintMore
open Go.Proofs.Ytdiambcjghlffaa.P
set_option linter.unusedVariables false
set_option linter.unusedSimpArgs false
def smI (f : Nat → Int) : Nat → Int
  | 0 => 0
  | n + 1 => smI f n + f n
theorem smI_congr {f g : Nat → Int} : ∀ {n : Nat}, (∀ i, i < n → f i = g i) → smI f n = smI g n
  | 0, _ => rfl
  | n + 1, h => by rw [smI, smI, smI_congr fun i hi => h i (by omega), h n (by omega)]
theorem smI_cast (f : Nat → Nat) : ∀ n, ((sm f n : Nat) : Int) = smI (fun i => (f i : Int)) n
  | 0 => rfl
  | n + 1 => by rw [sm, smI, ← smI_cast f n]; push_cast; rfl
theorem smI_upd {f g : Nat → Int} {a : Nat} : ∀ {n : Nat}, a < n → (∀ i, i < n → i ≠ a → g i = f i) → smI g n + f a = smI f n + g a
  | 0, h, _ => by omega
  | n + 1, h, k => by
    rw [smI, smI]
    by_cases e : a = n
    · subst e
      rw [smI_congr (f := g) (g := f) (n := a) fun i hi => k i (by omega) (by omega)]
      omega
    · have := smI_upd (f := f) (g := g) (a := a) (n := n) (by omega) fun i hi => k i (by omega)
      have := k n (by omega) (fun q => e q.symm)
      omega
/-- Two numbers exchanged. -/
def sw (a b i : Nat) : Nat := if i = a then b else if i = b then a else i
theorem sw_a (a b : Nat) : sw a b a = b := if_pos rfl
theorem sw_b (a b : Nat) : sw a b b = a := by unfold sw; split <;> simp_all
theorem sw_o {a b i : Nat} (h1 : i ≠ a) (h2 : i ≠ b) : sw a b i = i := by unfold sw; rw [if_neg h1, if_neg h2]
theorem sw_sw (a b i : Nat) : sw a b (sw a b i) = i := by
  by_cases h1 : i = a
  · subst h1; rw [sw_a, sw_b]
  · by_cases h2 : i = b
    · subst h2; rw [sw_b, sw_a]
    · rw [sw_o h1 h2, sw_o h1 h2]
theorem sw_lt {a b i n : Nat} (ha : a < n) (hb : b < n) (hi : i < n) : sw a b i < n := by
  unfold sw
  by_cases h1 : i = a
  · rw [if_pos h1]; exact hb
  · rw [if_neg h1]
    by_cases h2 : i = b
    · rw [if_pos h2]; exact ha
    · rw [if_neg h2]; exact hi
theorem smI_sw {a b n : Nat} (ha : a < n) (hb : b < n) (f : Nat → Int) : smI (fun i => f (sw a b i)) n = smI f n := by
  by_cases e : a = b
  · subst e
    refine smI_congr fun i _ => ?_
    by_cases h : i = a
    · subst h; rw [sw_a]
    · rw [sw_o h h]
  · have h1 := smI_upd (f := f) (g := fun i => if i = a then f b else f i) ha fun i _ hi => if_neg hi
    have h2 := smI_upd (f := fun i => if i = a then f b else f i) (g := fun i => f (sw a b i)) hb fun i _ hi => by
      show f (sw a b i) = if i = a then f b else f i
      by_cases h : i = a
      · subst h; rw [sw_a, if_pos rfl]
      · rw [sw_o h hi, if_neg h]
    simp only [if_pos, if_neg (fun q => e q.symm : ¬ b = a), sw_b] at h1 h2
    omega
theorem sm_sw {a b n : Nat} (ha : a < n) (hb : b < n) (f : Nat → Nat) : sm (fun i => f (sw a b i)) n = sm f n := by
  have h := smI_sw ha hb fun i => (f i : Int)
  rw [← smI_cast f, ← smI_cast fun i => f (sw a b i)] at h
  omega
theorem smI_add (f : Nat → Int) (m : Nat) : ∀ k, smI f (m + k) = smI f m + smI (fun h => f (m + h)) k
  | 0 => by show smI f m = smI f m + 0; omega
  | k + 1 => by rw [← Nat.add_assoc, smI, smI, smI_add f m k]; omega
theorem smI_blocks (f : Nat → Int) (H : Nat) : ∀ n, smI f (n * H) = smI (fun q => smI (fun h => f (q * H + h)) H) n
  | 0 => by rw [Nat.zero_mul]; rfl
  | n + 1 => by rw [Nat.succ_mul, smI_add, smI, smI_blocks f H n]
theorem tkS_sm (V : Wk) (p : List Int) : ∀ n, tkS V p n = smI (tkN V p) n
  | 0 => rfl
  | n + 1 => by rw [tkS, smI, tkS_sm V p n]
/-- What a program takes, by days, screens and hours. -/
theorem takes_sum {V : Wk} {p : List Int} (h : IsP V p) : takes V p = smI (fun day => smI (fun r => smI (fun k => tkN V p (slN V day r k)) V.h.toNat) V.rs.length) V.d.toNat := by
  unfold takes
  rw [tkS_sm, h.1]
  unfold Sl
  rw [smI_blocks, smI_blocks]
  rfl
theorem slN_h {V : Wk} {day r h : Nat} (hh : h < V.h.toNat) : slN V day r h % V.h.toNat = h := by
  unfold slN
  rw [Nat.mul_comm, Nat.mul_add_mod, Nat.mod_eq_of_lt hh]
theorem slN_r {V : Wk} {day r h : Nat} (hr : r < V.rs.length) (hh : h < V.h.toNat) : slN V day r h / V.h.toNat % V.rs.length = r := by
  unfold slN
  rw [Nat.mul_comm _ V.h.toNat, Nat.mul_add_div (by omega), Nat.div_eq_of_lt hh, Nat.add_zero, Nat.mul_comm, Nat.mul_add_mod, Nat.mod_eq_of_lt hr]
theorem slN_inj {V : Wk} {day r h day' r' h' : Nat} (hr : r < V.rs.length) (hh : h < V.h.toNat) (hr' : r' < V.rs.length) (hh' : h' < V.h.toNat) (e : slN V day r h = slN V day' r' h') : day = day' ∧ r = r' ∧ h = h' := by
  have h1 : h = h' := by rw [← slN_h (V := V) (day := day) (r := r) hh, e, slN_h hh']
  have h2 : r = r' := by rw [← slN_r (V := V) (day := day) hr hh, e, slN_r hr' hh']
  subst h1 h2
  refine ⟨?_, rfl, rfl⟩
  unfold slN at e
  have e2 : (day * V.rs.length + r) * V.h.toNat = (day' * V.rs.length + r) * V.h.toNat := by omega
  have e3 := Nat.eq_of_mul_eq_mul_right (by omega) e2
  exact Nat.eq_of_mul_eq_mul_right (show 0 < V.rs.length by omega) (by omega)
/-- Each slot is one of a day, a screen and an hour. -/
theorem sl_ex {V : Wk} {i : Nat} (hi : i < Sl V) : ∃ day r h, day < V.d.toNat ∧ r < V.rs.length ∧ h < V.h.toNat ∧ i = slN V day r h := by
  unfold Sl at hi
  have hH : 0 < V.h.toNat := Nat.pos_of_ne_zero fun e => by rw [e, Nat.mul_zero] at hi; omega
  have hq : i / V.h.toNat < V.d.toNat * V.rs.length := by rw [Nat.div_lt_iff_lt_mul hH]; exact hi
  have hR : 0 < V.rs.length := Nat.pos_of_ne_zero fun e => by rw [e, Nat.mul_zero] at hq; exact absurd hq (Nat.not_lt_zero _)
  refine ⟨i / V.h.toNat / V.rs.length, i / V.h.toNat % V.rs.length, i % V.h.toNat, by rw [Nat.div_lt_iff_lt_mul hR]; exact hq, Nat.mod_lt _ hR, Nat.mod_lt _ hH, ?_⟩
  unfold slN
  have h1 := Nat.div_add_mod (i / V.h.toNat) V.rs.length
  have h2 := Nat.div_add_mod i V.h.toNat
  rw [Nat.mul_comm] at h1 h2
  rw [h1, h2]
/-- A program with days and screens exchanged. -/
structure Ex (V : Wk) (sd sr : Nat → Nat) (p o : List Int) : Prop where
  len : o.length = p.length
  at_ : ∀ day r h, day < V.d.toNat → r < V.rs.length → h < V.h.toNat → o.getD (slN V day r h) 0 = p.getD (slN V (sd day) (sr r) h) 0
/-- An exchange that changes nothing: screens with as many seats, days of all deals. -/
structure Sy (V : Wk) (sd sr : Nat → Nat) : Prop where
  d : ∀ i, i < V.d.toNat → sd i < V.d.toNat
  r : ∀ i, i < V.rs.length → sr i < V.rs.length
  dd : ∀ i, sd (sd i) = i
  rr : ∀ i, sr (sr i) = i
  seats : ∀ i, i < V.rs.length → V.rs.getD (sr i) 0 = V.rs.getD i 0
  sumd : ∀ f : Nat → Int, smI (fun i => f (sd i)) V.d.toNat = smI f V.d.toNat
  sumr : ∀ f : Nat → Int, smI (fun i => f (sr i)) V.rs.length = smI f V.rs.length
/-- .. of a deal's days. -/
structure DSy (V : Wk) (sd : Nat → Nat) (x : S45) : Prop where
  day : ∀ i, i < nD x → ∃ j, j < nD x ∧ sd (x.f2.toNat + i) = x.f2.toNat + j
  sum : ∀ f : Nat → Nat, sm (fun i => f (sd (x.f2.toNat + i))) (nD x) = sm (fun i => f (x.f2.toNat + i)) (nD x)
section
variable {V : Wk} {sd sr : Nat → Nat} {p o : List Int} {x : S45}
theorem Sy.sumrN (h : Sy V sd sr) (f : Nat → Nat) : sm (fun i => f (sr i)) V.rs.length = sm f V.rs.length := by
  have := h.sumr fun i => (f i : Int)
  rw [← smI_cast f, ← smI_cast fun i => f (sr i)] at this
  omega
theorem ex_hb (s : Sy V sd sr) (e : Ex V sd sr p o) {day r h : Nat} (hd : day < V.d.toNat) (hr : r < V.rs.length) (hh : h < V.h.toNat) : hb V x o day h r = hb V x p (sd day) h (sr r) := by
  unfold hb hit
  rw [e.at_ day r h hd hr hh, s.seats r hr]
theorem ex_sh (s : Sy V sd sr) (e : Ex V sd sr p o) {day h : Nat} (hd : day < V.d.toNat) (hh : h < V.h.toNat) : sh V x o day h = sh V x p (sd day) h := by
  unfold sh
  rw [shN_sm, shN_sm, sm_congr fun r hr => ex_hb s e hd hr hh]
  exact s.sumrN fun r => hb V x p (sd day) h r
theorem ex_hsN (s : Sy V sd sr) (e : Ex V sd sr p o) {day n : Nat} (hd : day < V.d.toNat) (hn : x.f4.toNat + n ≤ V.h.toNat) : hsN V x o day n = hsN V x p (sd day) n := by
  rw [hsN_sm, hsN_sm]
  exact sm_congr fun k hk => ex_sh s e hd (by omega)
theorem dok_in (ok : Shp V) (hx : DOk V x) : x.f2.toNat + nD x ≤ V.d.toNat ∧ x.f4.toNat + nH x ≤ V.h.toNat := by
  obtain ⟨_, ⟨q0, q1⟩, q2, ⟨q3, q4⟩, q5, _⟩ := hx
  unfold nD nH
  omega
theorem ex_dsN (ok : Shp V) (s : Sy V sd sr) (e : Ex V sd sr p o) (hx : DOk V x) (d : DSy V sd x) : dsN V x o (nD x) = dsN V x p (nD x) := by
  obtain ⟨h1, h2⟩ := dok_in ok hx
  rw [dsN_sm, dsN_sm, sm_congr fun i hi => ex_hsN s e (show x.f2.toNat + i < V.d.toNat by omega) h2]
  exact d.sum fun day => hsN V x p day (nH x)
theorem ex_cln (ok : Shp V) (s : Sy V sd sr) (e : Ex V sd sr p o) (hx : DOk V x) {day : Nat} (hd : day < V.d.toNat) : Cln V x o day ↔ Cln V x p (sd day) := by
  have h2 : x.f4.toNat + (x.f5.toNat - x.f4.toNat + 1) ≤ V.h.toNat := (dok_in ok hx).2
  unfold Cln
  constructor
  · rintro ⟨r, h3, h4, h5⟩
    refine ⟨sr r, s.r r h3, by rw [s.seats r h3]; exact h4, fun k hk => ?_⟩
    rw [← e.at_ day r _ hd h3 (by omega)]
    exact h5 k hk
  · rintro ⟨r, h3, h4, h5⟩
    refine ⟨sr r, s.r r h3, by rw [s.seats r h3]; exact h4, fun k hk => ?_⟩
    rw [e.at_ day (sr r) _ hd (s.r r h3) (by omega), s.rr]
    exact h5 k hk
theorem DSy.all (s : Sy V sd sr) (d : DSy V sd x) (P : Nat → Prop) : (∀ i, i < nD x → P (sd (x.f2.toNat + i))) ↔ ∀ i, i < nD x → P (x.f2.toNat + i) := by
  constructor
  · intro h i hi
    obtain ⟨j, hj, e⟩ := d.day i hi
    have := h j hj
    rw [← e, s.dd] at this
    exact this
  · intro h i hi
    obtain ⟨j, hj, e⟩ := d.day i hi
    rw [e]
    exact h j hj
theorem ex_keep (ok : Shp V) (s : Sy V sd sr) (e : Ex V sd sr p o) (hx : DOk V x) (d : DSy V sd x) : Keep V x o ↔ Keep V x p := by
  obtain ⟨h1, h2⟩ := dok_in ok hx
  unfold Keep
  rw [ex_dsN ok s e hx d]
  by_cases k1 : x.f0 = 1
  · rw [if_pos k1, if_pos k1]
  rw [if_neg k1, if_neg k1]
  by_cases k2 : x.f0 = 2
  · rw [if_pos k2, if_pos k2]
  rw [if_neg k2, if_neg k2]
  by_cases k3 : x.f0 = 3
  · rw [if_pos k3, if_pos k3]
    refine Iff.trans ?_ (d.all s fun day => Cln V x p day)
    constructor
    · intro h i hi; exact (ex_cln ok s e hx (by omega)).mp (h i hi)
    · intro h i hi; exact (ex_cln ok s e hx (by omega)).mpr (h i hi)
  rw [if_neg k3, if_neg k3]
  by_cases k4 : x.f0 = 4
  · rw [if_pos k4, if_pos k4]
    refine Iff.trans ?_ (d.all s fun day => ∀ k, k < nH x → sh V x p day (x.f4.toNat + k) ≤ 1)
    constructor
    · intro h i hi k hk; rw [← ex_sh s e (by omega) (by omega)]; exact h i hi k hk
    · intro h i hi k hk; rw [ex_sh s e (by omega) (by omega)]; exact h i hi k hk
  rw [if_neg k4, if_neg k4]
  by_cases k5 : x.f0 = 5
  · rw [if_pos k5, if_pos k5]
    refine Iff.trans ?_ (d.all s fun day => ∀ k, k < nH x → 1 ≤ sh V x p day (x.f4.toNat + k))
    constructor
    · intro h i hi k hk; rw [← ex_sh s e (by omega) (by omega)]; exact h i hi k hk
    · intro h i hi k hk; rw [ex_sh s e (by omega) (by omega)]; exact h i hi k hk
  rw [if_neg k5, if_neg k5]
theorem exg_brk (ok : WOk V) (s : Sy V sd sr) (e : Ex V sd sr p o) (d : ∀ x ∈ V.ds, DSy V sd x) : ∀ n, n ≤ V.ds.length → brk V o n = brk V p n
  | 0, _ => rfl
  | n + 1, hn => by
    obtain ⟨x, hx⟩ := get_ex (show n < V.ds.length by omega)
    have hk := ex_keep ok.s s e (ok.ds x (mem_of hx)) (d x (mem_of hx))
    by_cases h : Keep V x p
    · rw [brk_yes hx h, brk_yes hx (hk.mpr h), exg_brk ok s e d n (by omega)]
    · rw [brk_no hx h, brk_no hx (fun q => h (hk.mp q)), exg_brk ok s e d n (by omega)]
theorem ex_isP (s : Sy V sd sr) (e : Ex V sd sr p o) (hp : IsP V p) : IsP V o := by
  refine ⟨by rw [e.len]; exact hp.1, fun y hy => ?_⟩
  obtain ⟨i, hi⟩ := List.mem_iff_getElem?.mp hy
  have hil := (List.getElem?_eq_some_iff.1 hi).1
  obtain ⟨day, r, h, h1, h2, h3, rfl⟩ := sl_ex (show i < Sl V by rw [← hp.1, ← e.len]; exact hil)
  have h4 := e.at_ day r h h1 h2 h3
  rw [getD_of hi] at h4
  have hlt := slN_lt (V := V) (s.d day h1) (s.r r h2) h3
  obtain ⟨z, hz⟩ := get_ex (show slN V (sd day) (sr r) h < p.length by rw [hp.1]; exact hlt)
  rw [getD_of hz] at h4
  rw [h4]
  exact hp.2 z (mem_of hz)
theorem ex_tk (s : Sy V sd sr) (e : Ex V sd sr p o) {day r h : Nat} (hd : day < V.d.toNat) (hr : r < V.rs.length) (hh : h < V.h.toNat) : tkN V o (slN V day r h) = tkN V p (slN V (sd day) (sr r) h) := by
  unfold tkN
  rw [slN_h hh, slN_r hr hh, slN_h hh, slN_r (s.r r hr) hh, e.at_ day r h hd hr hh, s.seats r hr]
theorem ex_takes (s : Sy V sd sr) (e : Ex V sd sr p o) (hp : IsP V p) : takes V o = takes V p := by
  rw [takes_sum hp, takes_sum (ex_isP s e hp)]
  refine Eq.trans (smI_congr fun day hd => ?_) (s.sumd fun day => smI (fun r => smI (fun k => tkN V p (slN V day r k)) V.h.toNat) V.rs.length)
  refine Eq.trans (smI_congr fun r hr => ?_) (s.sumr fun r => smI (fun k => tkN V p (slN V (sd day) r k)) V.h.toNat)
  exact smI_congr fun k hk => ex_tk s e hd hr hk
end
/-- Two screens with as many seats. -/
theorem sy_rooms {V : Wk} {a b : Nat} (ha : a < V.rs.length) (hb : b < V.rs.length) (he : V.rs.getD a 0 = V.rs.getD b 0) : Sy V (fun i => i) (sw a b) := by
  refine ⟨fun i hi => hi, fun i hi => sw_lt ha hb hi, fun _ => rfl, sw_sw a b, fun i hi => ?_, fun _ => rfl, fun f => smI_sw ha hb f⟩
  by_cases h1 : i = a
  · subst h1; rw [sw_a]; exact he.symm
  · by_cases h2 : i = b
    · subst h2; rw [sw_b]; exact he
    · rw [sw_o h1 h2]
theorem dsy_id (V : Wk) (x : S45) : DSy V (fun i => i) x := ⟨fun i hi => ⟨i, hi, rfl⟩, fun _ => rfl⟩
/-- Two days. -/
theorem sy_days {V : Wk} {a b : Nat} (ha : a < V.d.toNat) (hb : b < V.d.toNat) : Sy V (sw a b) (fun i => i) :=
  ⟨fun i hi => sw_lt ha hb hi, fun i hi => hi, sw_sw a b, fun _ => rfl, fun _ _ => rfl, fun f => smI_sw ha hb f, fun _ => rfl⟩
theorem dsy_days {V : Wk} {x : S45} {a b : Nat} (hd : 1 ≤ V.d) (ha : a < V.d.toNat) (hb : b < V.d.toNat) (h2 : x.f2 = 0) (h3 : x.f3 = V.d - 1) : DSy V (sw a b) x := by
  have e2 : x.f2.toNat = 0 := by omega
  have e3 : nD x = V.d.toNat := by unfold nD; omega
  refine ⟨fun i hi => ⟨sw a b i, by rw [e3] at hi ⊢; exact sw_lt ha hb hi, by rw [e2, Nat.zero_add, Nat.zero_add]⟩, fun f => ?_⟩
  rw [e2, e3]
  simp only [Nat.zero_add]
  exact sm_sw ha hb f
end Go.Proofs.Ytdiambcjghlffaa.T
namespace Go.Proofs.Ytdiambcjghlffaa.T
open Go.RowKit Go.Proofs.YtdiambcjghlffaaW.PrintWords Go.Proofs.YtdiambcjghlffaaW.PrintMore
open Go.Proofs.Ytdiambcjghlffaa.P
set_option linter.unusedVariables false
set_option linter.unusedSimpArgs false

/-- A program partly exchanged: P tells where. -/
structure Fl (V : Wk) (sd sr : Nat → Nat) (P : Nat → Nat → Nat → Prop) (p o : List Int) : Prop where
  len : o.length = p.length
  at_ : ∀ day r h, day < V.d.toNat → r < V.rs.length → h < V.h.toNat → (P day r h → o.getD (slN V day r h) 0 = p.getD (slN V (sd day) (sr r) h) 0) ∧ (¬ P day r h → o.getD (slN V day r h) 0 = p.getD (slN V day r h) 0)
theorem Fl.start {V : Wk} {sd sr : Nat → Nat} {P : Nat → Nat → Nat → Prop} {p : List Int} (h : ∀ a b c, ¬ P a b c) : Fl V sd sr P p p := ⟨rfl, fun day r k _ _ _ => ⟨fun q => absurd q (h day r k), fun _ => rfl⟩⟩
theorem Fl.congr {V : Wk} {sd sr : Nat → Nat} {P P' : Nat → Nat → Nat → Prop} {p o : List Int} (f : Fl V sd sr P p o) (h : ∀ day r k, day < V.d.toNat → r < V.rs.length → k < V.h.toNat → (P' day r k ↔ P day r k)) : Fl V sd sr P' p o :=
  ⟨f.len, fun day r k h1 h2 h3 => ⟨fun q => (f.at_ day r k h1 h2 h3).1 ((h day r k h1 h2 h3).mp q), fun q => (f.at_ day r k h1 h2 h3).2 fun z => q ((h day r k h1 h2 h3).mpr z)⟩⟩
theorem Fl.ex {V : Wk} {sd sr : Nat → Nat} {P : Nat → Nat → Nat → Prop} {p o : List Int} (f : Fl V sd sr P p o) (h : ∀ day r k, day < V.d.toNat → r < V.rs.length → k < V.h.toNat → P day r k) : Ex V sd sr p o := ⟨f.len, fun day r k h1 h2 h3 => (f.at_ day r k h1 h2 h3).1 (h day r k h1 h2 h3)⟩
theorem getD_set_ne' {l : List Int} {i j : Nat} {x : Int} (h : i ≠ j) : (l.set i x).getD j 0 = l.getD j 0 := by rw [List.getD_eq_getElem?_getD, List.getD_eq_getElem?_getD, List.getElem?_set_ne h]
theorem getD_set_eq' {l : List Int} {i : Nat} {x : Int} (h : i < l.length) : (l.set i x).getD i 0 = x := by rw [List.getD_eq_getElem?_getD, List.getElem?_set_self h]; rfl
theorem Fl.step {V : Wk} {sd sr : Nat → Nat} {P P' : Nat → Nat → Nat → Prop} {p o : List Int} (f : Fl V sd sr P p o) (hp : p.length = Sl V) {d1 r1 d2 r2 h0 : Nat} {y1 y2 : Int} (hd1 : d1 < V.d.toNat) (hr1 : r1 < V.rs.length) (hd2 : d2 < V.d.toNat) (hr2 : r2 < V.rs.length) (hh : h0 < V.h.toNat)
    (e1 : sd d1 = d2) (e2 : sr r1 = r2) (e3 : sd d2 = d1) (e4 : sr r2 = r1) (hy1 : p[slN V d1 r1 h0]? = some y1) (hy2 : p[slN V d2 r2 h0]? = some y2) (q1 : P' d1 r1 h0) (q2 : P' d2 r2 h0)
    (hP : ∀ day r h, day < V.d.toNat → r < V.rs.length → h < V.h.toNat → ¬ (h = h0 ∧ (day = d1 ∧ r = r1 ∨ day = d2 ∧ r = r2)) → (P' day r h ↔ P day r h) ∨ (sd day = day ∧ sr r = r)) : Fl V sd sr P' p ((o.set (slN V d1 r1 h0) y2).set (slN V d2 r2 h0) y1) := by
  have hl1 := slN_lt (V := V) hd1 hr1 hh
  have hl2 := slN_lt (V := V) hd2 hr2 hh
  have hlo := f.len
  refine ⟨by rw [List.length_set, List.length_set]; exact f.len, fun day r h k1 k2 k3 => ?_⟩
  by_cases c2 : slN V d2 r2 h0 = slN V day r h
  · obtain ⟨rfl, rfl, rfl⟩ := slN_inj hr2 hh k2 k3 c2
    rw [getD_set_eq' (by rw [List.length_set]; omega)]
    refine ⟨fun _ => ?_, fun q => absurd q2 q⟩
    rw [e3, e4, getD_of hy1]
  · rw [getD_set_ne' c2]
    by_cases c1 : slN V d1 r1 h0 = slN V day r h
    · obtain ⟨rfl, rfl, rfl⟩ := slN_inj hr1 hh k2 k3 c1
      rw [getD_set_eq' (by omega)]
      refine ⟨fun _ => ?_, fun q => absurd q1 q⟩
      rw [e1, e2, getD_of hy2]
    · rw [getD_set_ne' c1]
      obtain ⟨f1, f2⟩ := f.at_ day r h k1 k2 k3
      have hn : ¬ (h = h0 ∧ (day = d1 ∧ r = r1 ∨ day = d2 ∧ r = r2)) := by
        rintro ⟨rfl, ⟨rfl, rfl⟩ | ⟨rfl, rfl⟩⟩
        · exact c1 rfl
        · exact c2 rfl
      rcases hP day r h k1 k2 k3 hn with z | ⟨z1, z2⟩
      · exact ⟨fun q => f1 (z.mp q), fun q => f2 fun u => q (z.mpr u)⟩
      · rw [z1, z2] at f1 ⊢
        have key : o.getD (slN V day r h) 0 = p.getD (slN V day r h) 0 := by
          by_cases u : P day r h
          · exact f1 u
          · exact f2 u
        exact ⟨fun _ => key, fun _ => key⟩
def PR (dd hh day r h : Nat) : Prop := day < dd ∨ day = dd ∧ h < hh
def PD (ss hh day r h : Nat) : Prop := r < ss ∨ r = ss ∧ h < hh
theorem fl_rooms {V : Wk} {a b dd hh : Nat} {p o : List Int} {y1 y2 : Int} (f : Fl V (fun i => i) (sw a b) (PR dd hh) p o) (hp : p.length = Sl V) (hd : dd < V.d.toNat) (ha : a < V.rs.length) (hb : b < V.rs.length) (hk : hh < V.h.toNat) (hy1 : p[slN V dd a hh]? = some y1) (hy2 : p[slN V dd b hh]? = some y2) :
    Fl V (fun i => i) (sw a b) (PR dd (hh + 1)) p ((o.set (slN V dd a hh) y2).set (slN V dd b hh) y1) := by
  refine f.step hp hd ha hd hb hk rfl (sw_a a b) rfl (sw_b a b) hy1 hy2 (.inr ⟨rfl, by omega⟩) (.inr ⟨rfl, by omega⟩) (fun day r h _ _ _ hn => ?_)
  unfold PR
  by_cases h1 : day = dd ∧ h = hh
  · refine .inr ⟨rfl, ?_⟩
    exact sw_o (fun q => hn ⟨h1.2, .inl ⟨h1.1, q⟩⟩) (fun q => hn ⟨h1.2, .inr ⟨h1.1, q⟩⟩)
  · exact .inl (by omega)
theorem fl_days {V : Wk} {a b ss hh : Nat} {p o : List Int} {y1 y2 : Int} (f : Fl V (sw a b) (fun i => i) (PD ss hh) p o) (hp : p.length = Sl V) (ha : a < V.d.toNat) (hb : b < V.d.toNat) (hs : ss < V.rs.length) (hk : hh < V.h.toNat) (hy1 : p[slN V a ss hh]? = some y1) (hy2 : p[slN V b ss hh]? = some y2) :
    Fl V (sw a b) (fun i => i) (PD ss (hh + 1)) p ((o.set (slN V a ss hh) y2).set (slN V b ss hh) y1) := by
  refine f.step hp ha hs hb hs hk (sw_a a b) rfl (sw_b a b) rfl hy1 hy2 (.inr ⟨rfl, by omega⟩) (.inr ⟨rfl, by omega⟩) (fun day r h _ _ _ hn => ?_)
  unfold PD
  by_cases h1 : r = ss ∧ h = hh
  · refine .inr ⟨?_, rfl⟩
    exact sw_o (fun q => hn ⟨h1.2, .inl ⟨q, h1.1⟩⟩) (fun q => hn ⟨h1.2, .inr ⟨q, h1.1⟩⟩)
  · exact .inl (by omega)
/-- A number in a row of our own, and what a write makes of it. -/
theorem int_own {W : World} {base g n c : Nat} {xs : List Int} {i : Nat} (R : Kd.R kI 3 W base (fun _ => True) (.slice (some ⟨g, 0, none⟩) n c) xs) (hi : i < xs.length) :
    ∃ old, W.cell? ⟨g, i, none⟩ = some old ∧ W.frozen? ⟨g, i, none⟩ = false ∧ ∀ y : Int, Kd.R kI 3 (W.setCell ⟨g, i, none⟩ (.int .i64 y)) base (fun _ => True) (.slice (some ⟨g, 0, none⟩) n c) (xs.set i y) ∧ W.grownBy (W.setCell ⟨g, i, none⟩ (.int .i64 y)) (some g) := by
  have hn := (Kd.R_reads' R).1
  obtain ⟨cs, h1, h2, h3, h4⟩ := Kd.R_elem R 0 (i : Int) (by omega) (by omega)
  rw [Int.toNat_natCast] at h2 h3 h4
  obtain rfl : cs = [.int .i64 (xs.getD i 0)] := h2
  have e : i * kI.sz = i := Nat.mul_one i
  rw [e] at h3 h4
  refine ⟨_, h3 0 _ rfl, h4 0, fun y => ?_⟩
  have := Kd.R_seg R (i : Int) (by omega) (by omega) (seg := [.int .i64 y]) (j := 0) h1 (by rw [Int.toNat_natCast, e]; exact h3) (by show 0 + 1 ≤ 1; decide) (x' := y) (okp := fun _ => False) (show kI.M _ _ _ y ([.int .i64 y] : List Value) from rfl) (fun _ hk => hk.elim)
  rw [Int.toNat_natCast, e] at this
  exact this
theorem kept_ex {V : Wk} {m : Wa} {p o : List Int} {A B : Option Addr} {c d n : Nat} {sd sr : Nat → Nat} {w : World} (hV : WM w V m) (hs : Sz V) (ok : WOk V) (hP : IsP V p) (hn : o.length = n) (ho : Kd.C kI w A o.length o) (hB : Kd.C kI w B (brA V p).length (brA V p)) (s : Sy V sd sr) (e : Ex V sd sr p o) (hd : ∀ x ∈ V.ds, DSy V sd x) :
    Calls Try.prog 34 #[wv V m, .slice A n c, .slice B (brA V p).length d, .int .i64 (tkA V p)] w fun e w' => e = .returned (.bool true) ∧ Below w.heap.size w w' := by
  subst hn
  have hlen := (ex_isP s e hP).1
  have hsl := (slots_nat ok.s).2.1
  exact keptL_calls V m o (brA V p) (tkA V p) A B c d w hV hs ho (by omega) hB ok (ex_isP s e hP) (by rw [brA_yes ok hP]; exact exg_brk ok s e hd _ (Nat.le_refl _)) (by rw [tkA_yes ok hP]; exact ex_takes s e hP)
set_option maxRecDepth 100000 in
set_option maxHeartbeats 8000000 in

theorem swapped_law (V : Wk) (m : Wa) (p : List Int) (A : Option Addr) (c : Nat) (x0 x1 : Int) (w : World) (hV : WM w V m) (hp : Kd.C kI w A p.length p) :
    Calls Try.prog 9 #[wv V m, .slice A p.length c, .agg #[.int .i64 x0, .int .i64 x1]] w fun e w' => e = .returned (.bool true) ∧ Below w.heap.size w w' := by
  have hpm := Kd.C_max hp
  have hu3 := Try.underlying3
  have hu22 := Try.underlying22
  have hu24 := Try.underlying24
  have hu26 := Try.underlying26
  have hu30 := Try.underlying30
  have hu31 := Try.underlying31
  have hu33 := Try.underlying33
  have hu45 := Try.underlying45
  have hu53 := Try.underlying53
  obtain ⟨z3, o3⟩ := info_some info3s (by decide)
  obtain ⟨z22, o22⟩ := info_some info22s (by decide)
  obtain ⟨z24, o24⟩ := info_some info24s (by decide)
  obtain ⟨z45, o45⟩ := info_some info45s (by decide)
  refine E.enter (N := 230) Try.func9 rfl Try.ntmps9 (args := [wv V m, .slice A p.length c, .agg #[.int .i64 x0, .int .i64 x1]]) (by simp) ?_
  have L := Below.refl w.heap.size w
  refine E.CG.seq ?_
  refine E.CG.list ?_
  refine E.GL.st rfl rfl rfl (E.ST.box rfl rfl fun g3 w3 e3 b3 l3 => ?_)
  have h3_L : w.heap.size ≤ g3 := by rw [e3]; exact L.size
  replace L := below_step L l3
  refine E.GL.st rfl rfl rfl (E.ST.box rfl rfl fun g5 w5 e5 b5 l5 => ?_)
  have h5_L : w.heap.size ≤ g5 := by rw [e5]; exact L.size
  have n5_b3 : g3 ≠ g5 := by have := blk_lt b3; omega
  replace b3 := blk_below b3 l5
  replace L := below_step L l5
  refine E.GL.run rfl rfl rfl (E.Runs.assign rfl rfl) ?_
  refine E.GL.done ?_
  refine E.QG.code ?_
  refine E.CG.seq ?_
  refine E.CG.seq ?_
  refine E.CG.list ?_
  refine E.GL.run rfl rfl rfl (E.Runs.loads (cs := [.int .i64 V.d, .slice m.A V.rs.length m.a, .int .i64 V.h, .slice m.B V.fs.length m.b, .slice m.C V.ds.length m.c]) rfl rfl hu26 rfl info26s (blk_cells b3)) ?_
  by_cases h23 : Hg V
  · refine E.GL.st rfl rfl rfl (E.ST.call rfl ent11 (E.evc rfl E.evn) ((huge_calls V m _ (hV.below L) true (iff_of_true rfl h23)).mono ?_))
    rintro e w23 ⟨rfl, l23⟩
    refine ⟨_, rfl, ?_⟩
    replace b3 := blk_below b3 l23
    replace b5 := blk_below b5 l23
    replace L := below_step L l23
    refine E.GL.run rfl rfl rfl (E.Runs.move rfl rfl) ?_
    refine E.GL.skip rfl rfl rfl ?_
    refine E.GL.skip rfl rfl rfl ?_
    refine E.GL.skip rfl rfl rfl ?_
    refine E.GL.run rfl rfl rfl (E.Runs.pick_t rfl rfl rfl) ?_
    refine E.GL.run rfl rfl rfl (E.Runs.move rfl rfl) ?_
    refine E.GL.skip rfl rfl rfl ?_
    refine E.GL.skip rfl rfl rfl ?_
    refine E.GL.skip rfl rfl rfl ?_
    refine E.GL.skip rfl rfl rfl ?_
    refine E.GL.run rfl rfl rfl (E.Runs.pick_t rfl rfl rfl) ?_
    refine E.GL.run rfl rfl rfl (E.Runs.move rfl rfl) ?_
    refine E.GL.skip rfl rfl rfl ?_
    refine E.GL.skip rfl rfl rfl ?_
    refine E.GL.skip rfl rfl rfl ?_
    refine E.GL.run rfl rfl rfl (E.Runs.pick_t rfl rfl rfl) ?_
    refine E.GL.run rfl rfl rfl (E.Runs.move rfl rfl) ?_
    refine E.GL.skip rfl rfl rfl ?_
    refine E.GL.skip rfl rfl rfl ?_
    refine E.GL.skip rfl rfl rfl ?_
    refine E.GL.run rfl rfl rfl (E.Runs.pick_t rfl rfl rfl) ?_
    refine E.GL.done ?_
    refine E.QG.code ?_
    refine E.CG.cond_t rfl ?_
    refine E.CG.seq ?_
    refine E.CG.list ?_
    refine E.GL.st rfl rfl rfl (E.ST.call rfl ent13 E.evn ((works_calls _).mono ?_))
    rintro e w45 ⟨rfl, l45⟩
    refine ⟨_, rfl, ?_⟩
    replace b3 := blk_below b3 l45
    replace b5 := blk_below b5 l45
    replace L := below_step L l45
    refine E.GL.run rfl rfl rfl (E.Runs.assign rfl rfl) ?_
    refine E.GL.done ?_
    refine E.QG.code ?_
    refine E.CG.ret ?_
    refine E.QG.pass_ret ?_
    exact E.QG.result rfl rfl ⟨rfl, L⟩
  · have hs : Sz V := hg_no h23
    refine E.GL.st rfl rfl rfl (E.ST.call rfl ent11 (E.evc rfl E.evn) ((huge_calls V m _ (hV.below L) false (iff_of_false Bool.false_ne_true h23)).mono ?_))
    rintro e w23 ⟨rfl, l23⟩
    refine ⟨_, rfl, ?_⟩
    replace b3 := blk_below b3 l23
    replace b5 := blk_below b5 l23
    replace L := below_step L l23
    refine E.GL.run rfl rfl rfl (E.Runs.move rfl rfl) ?_
    refine E.GL.run rfl rfl rfl (E.Runs.loads (cs := [.int .i64 V.d, .slice m.A V.rs.length m.a, .int .i64 V.h, .slice m.B V.fs.length m.b, .slice m.C V.ds.length m.c]) rfl rfl hu26 rfl info26s (blk_cells b3)) ?_
    refine E.GL.st rfl rfl rfl (E.ST.call rfl ent27 (E.evc rfl E.evn) ((check_r V m _ (hV.below L) hs).mono ?_))
    rintro e w26 ⟨rfl, l26⟩
    refine ⟨_, rfl, ?_⟩
    replace b3 := blk_below b3 l26
    replace b5 := blk_below b5 l26
    replace L := below_step L l26
    refine E.GL.cmpn rfl rfl rfl (fun _ h => (E.Runs.neq rfl rfl rfl h)) (fun h27 => ?_) (fun h27 => ?_)
    · refine E.GL.run rfl rfl rfl (E.Runs.pick_f rfl rfl rfl) ?_
      refine E.GL.run rfl rfl rfl (E.Runs.move rfl rfl) ?_
      refine E.GL.skip rfl rfl rfl ?_
      refine E.GL.skip rfl rfl rfl ?_
      refine E.GL.skip rfl rfl rfl ?_
      refine E.GL.skip rfl rfl rfl ?_
      refine E.GL.run rfl rfl rfl (E.Runs.pick_t rfl rfl rfl) ?_
      refine E.GL.run rfl rfl rfl (E.Runs.move rfl rfl) ?_
      refine E.GL.skip rfl rfl rfl ?_
      refine E.GL.skip rfl rfl rfl ?_
      refine E.GL.skip rfl rfl rfl ?_
      refine E.GL.run rfl rfl rfl (E.Runs.pick_t rfl rfl rfl) ?_
      refine E.GL.run rfl rfl rfl (E.Runs.move rfl rfl) ?_
      refine E.GL.skip rfl rfl rfl ?_
      refine E.GL.skip rfl rfl rfl ?_
      refine E.GL.skip rfl rfl rfl ?_
      refine E.GL.run rfl rfl rfl (E.Runs.pick_t rfl rfl rfl) ?_
      refine E.GL.done ?_
      refine E.QG.code ?_
      refine E.CG.cond_t rfl ?_
      refine E.CG.seq ?_
      refine E.CG.list ?_
      refine E.GL.st rfl rfl rfl (E.ST.call rfl ent13 E.evn ((works_calls _).mono ?_))
      rintro e w45 ⟨rfl, l45⟩
      refine ⟨_, rfl, ?_⟩
      replace b3 := blk_below b3 l45
      replace b5 := blk_below b5 l45
      replace L := below_step L l45
      refine E.GL.run rfl rfl rfl (E.Runs.assign rfl rfl) ?_
      refine E.GL.done ?_
      refine E.QG.code ?_
      refine E.CG.ret ?_
      refine E.QG.pass_ret ?_
      exact E.QG.result rfl rfl ⟨rfl, L⟩
    · have ok := chk_ok.mp (show chk V = 0 by omega)
      refine E.GL.run rfl rfl rfl (E.Runs.pick_f rfl rfl rfl) ?_
      refine E.GL.run rfl rfl rfl (E.Runs.move rfl rfl) ?_
      refine E.GL.run rfl rfl rfl (E.Runs.loads (cs := [.int .i64 V.d, .slice m.A V.rs.length m.a, .int .i64 V.h, .slice m.B V.fs.length m.b, .slice m.C V.ds.length m.c]) rfl rfl hu26 rfl info26s (blk_cells b3)) ?_
      refine E.GL.run rfl rfl rfl (E.Runs.move rfl rfl) ?_
      by_cases h32 : IsP V p
      · have hpl0 := h32.1
        have hsl0 := (slots_nat ok.s).2.1
        refine E.GL.st rfl rfl rfl (E.ST.call rfl ent24 (E.evc rfl (E.evc rfl E.evn)) ((isProgram_any V m p A c _ (hV.below L) hs (Kd.C_below hp L) hpm ok.s true (iff_of_true rfl h32)).mono ?_))
        rintro e w32 ⟨rfl, l32⟩
        refine ⟨_, rfl, ?_⟩
        replace b3 := blk_below b3 l32
        replace b5 := blk_below b5 l32
        replace L := below_step L l32
        refine E.GL.run rfl rfl rfl (E.Runs.not rfl rfl) ?_
        refine E.GL.run rfl rfl rfl (E.Runs.pick_f rfl rfl rfl) ?_
        refine E.GL.run rfl rfl rfl (E.Runs.move rfl rfl) ?_
        refine E.GL.run rfl rfl rfl (E.Runs.fieldAddr rfl rfl hu53 rfl (by assumption) rfl) ?_
        refine E.GL.run rfl rfl rfl (E.Runs.load rfl rfl hu3 (by first | assumption | exact E.blkc (by assumption) rfl | exact pw_cell_below L (by assumption))) ?_
        refine E.GL.cmp rfl rfl rfl (fun _ h => (E.Runs.lss rfl rfl rfl h)) (fun h38 => ?_) (fun h38 => ?_)
        · refine E.GL.run rfl rfl rfl (E.Runs.pick_f rfl rfl rfl) ?_
          refine E.GL.run rfl rfl rfl (E.Runs.move rfl rfl) ?_
          refine E.GL.skip rfl rfl rfl ?_
          refine E.GL.skip rfl rfl rfl ?_
          refine E.GL.skip rfl rfl rfl ?_
          refine E.GL.run rfl rfl rfl (E.Runs.pick_t rfl rfl rfl) ?_
          refine E.GL.done ?_
          refine E.QG.code ?_
          refine E.CG.cond_t rfl ?_
          refine E.CG.seq ?_
          refine E.CG.list ?_
          refine E.GL.st rfl rfl rfl (E.ST.call rfl ent13 E.evn ((works_calls _).mono ?_))
          rintro e w45 ⟨rfl, l45⟩
          refine ⟨_, rfl, ?_⟩
          replace b3 := blk_below b3 l45
          replace b5 := blk_below b5 l45
          replace L := below_step L l45
          refine E.GL.run rfl rfl rfl (E.Runs.assign rfl rfl) ?_
          refine E.GL.done ?_
          refine E.QG.code ?_
          refine E.CG.ret ?_
          refine E.QG.pass_ret ?_
          exact E.QG.result rfl rfl ⟨rfl, L⟩
        · refine E.GL.run rfl rfl rfl (E.Runs.pick_f rfl rfl rfl) ?_
          refine E.GL.run rfl rfl rfl (E.Runs.move rfl rfl) ?_
          refine E.GL.run rfl rfl rfl (E.Runs.fieldAddr rfl rfl hu53 rfl (by assumption) rfl) ?_
          refine E.GL.run rfl rfl rfl (E.Runs.load rfl rfl hu3 (by first | assumption | exact E.blkc (by assumption) rfl | exact pw_cell_below L (by assumption))) ?_
          refine E.GL.cmp rfl rfl rfl (fun _ h => (E.Runs.lss rfl rfl rfl h)) (fun h43 => ?_) (fun h43 => ?_)
          · refine E.GL.run rfl rfl rfl (E.Runs.pick_f rfl rfl rfl) ?_
            refine E.GL.done ?_
            refine E.QG.code ?_
            refine E.CG.cond_t rfl ?_
            refine E.CG.seq ?_
            refine E.CG.list ?_
            refine E.GL.st rfl rfl rfl (E.ST.call rfl ent13 E.evn ((works_calls _).mono ?_))
            rintro e w45 ⟨rfl, l45⟩
            refine ⟨_, rfl, ?_⟩
            replace b3 := blk_below b3 l45
            replace b5 := blk_below b5 l45
            replace L := below_step L l45
            refine E.GL.run rfl rfl rfl (E.Runs.assign rfl rfl) ?_
            refine E.GL.done ?_
            refine E.QG.code ?_
            refine E.CG.ret ?_
            refine E.QG.pass_ret ?_
            exact E.QG.result rfl rfl ⟨rfl, L⟩
          · refine E.GL.run rfl rfl rfl (E.Runs.pick_f rfl rfl rfl) ?_
            refine E.GL.done ?_
            refine E.QG.code ?_
            refine E.CG.cond_f rfl ?_
            refine E.CG.skip ?_
            refine E.QG.code ?_
            refine E.CG.seq ?_
            refine E.CG.list ?_
            refine E.GL.run rfl rfl rfl (E.Runs.loads (cs := [.int .i64 V.d, .slice m.A V.rs.length m.a, .int .i64 V.h, .slice m.B V.fs.length m.b, .slice m.C V.ds.length m.c]) rfl rfl hu26 rfl info26s (blk_cells b3)) ?_
            refine E.GL.run rfl rfl rfl (E.Runs.move rfl rfl) ?_
            refine E.GL.st rfl rfl rfl (E.ST.call rfl ent25 (E.evc rfl (E.evc rfl E.evn)) ((broken_o V m p A c _ (hV.below L) hs (Kd.C_below hp L) (by omega)).mono ?_))
            rintro e w49 ⟨v49, rfl, R49, l49⟩
            refine ⟨_, rfl, ?_⟩
            replace b3 := blk_below b3 l49
            replace b5 := blk_below b5 l49
            replace L := below_step L l49
            obtain ⟨A49, c49, hv49⟩ := Kd.R_slice R49
            subst hv49
            refine E.GL.run rfl rfl rfl (E.Runs.move rfl rfl) ?_
            refine E.GL.run rfl rfl rfl (E.Runs.extract rfl rfl rfl) ?_
            refine E.GL.run rfl rfl rfl (E.Runs.extract rfl rfl rfl) ?_
            refine E.GL.run rfl rfl rfl (E.Runs.assign rfl rfl) ?_
            refine E.GL.run rfl rfl rfl (E.Runs.assign rfl rfl) ?_
            refine E.GL.done ?_
            refine E.QG.code ?_
            refine E.CG.seq ?_
            refine E.CG.list ?_
            refine E.GL.run rfl rfl rfl (E.Runs.loads (cs := [.int .i64 V.d, .slice m.A V.rs.length m.a, .int .i64 V.h, .slice m.B V.fs.length m.b, .slice m.C V.ds.length m.c]) rfl rfl hu26 rfl info26s (blk_cells b3)) ?_
            refine E.GL.run rfl rfl rfl (E.Runs.move rfl rfl) ?_
            refine E.GL.st rfl rfl rfl (E.ST.call rfl ent32 (E.evc rfl (E.evc rfl E.evn)) ((takingsP_o V m p A c _ (hV.below L) hs (Kd.C_below hp L) (by omega)).mono ?_))
            rintro e w55 ⟨rfl, l55⟩
            refine ⟨_, rfl, ?_⟩
            replace b3 := blk_below b3 l55
            replace b5 := blk_below b5 l55
            replace R49 := Kd.R_below R49 l55
            replace L := below_step L l55
            have K := Below.refl w55.heap.size w55
            have b3w := b3
            have b5w := b5
            have R49w := R49
            have Lw := L
            have hsl := slots_nat ok.s
            have hpl := h32.1
            have hbl : (brA V p).length ≤ 1000000 := brA_len hs
            obtain ⟨hd1, hd7⟩ := ok.s.d
            obtain ⟨hh1, hh4⟩ := ok.s.h
            obtain ⟨hr1, hr4⟩ := ok.s.r
            have hd8 := ok.s.ds
            refine E.GL.run rfl rfl rfl (E.Runs.move rfl rfl) ?_
            refine E.GL.run rfl rfl rfl (E.Runs.extract rfl rfl rfl) ?_
            refine E.GL.run rfl rfl rfl (E.Runs.extract rfl rfl rfl) ?_
            refine E.GL.run rfl rfl rfl (E.Runs.assign rfl rfl) ?_
            refine E.GL.run rfl rfl rfl (E.Runs.assign rfl rfl) ?_
            refine E.GL.done ?_
            refine E.QG.code ?_
            refine E.CG.seq ?_
            refine E.CG.seq ?_
            refine E.CG.list ?_
            refine E.GL.run rfl rfl rfl (E.Runs.move rfl rfl) ?_
            refine E.GL.run rfl rfl rfl (E.Runs.neq rfl rfl rfl (E.ne_f (chkP_yes ok h32))) ?_
            refine E.GL.run rfl rfl rfl (E.Runs.move rfl rfl) ?_
            refine E.GL.run rfl rfl rfl (E.Runs.move rfl rfl) ?_
            refine E.GL.run rfl rfl rfl (E.Runs.neq rfl rfl rfl (E.ne_f (chkP_yes ok h32))) ?_
            refine E.GL.run rfl rfl rfl (E.Runs.pick_f rfl rfl rfl) ?_
            refine E.GL.done ?_
            refine E.QG.code ?_
            refine E.CG.cond_f rfl ?_
            refine E.CG.skip ?_
            refine E.QG.code ?_
            refine E.CG.seq ?_
            refine E.CG.cut1 (fun (u : Unit) => [(1, .slice A p.length c), (3, .pointer (some ⟨g3, 0, none⟩)), (5, .pointer (some ⟨g5, 0, none⟩)), (7, .slice A49 (brA V p).length c49), (9, .int .i64 (tkA V p))]) (fun u w' => Below w55.heap.size w55 w') ?_ ?_
            · refine E.CG.seq ?_
              refine E.CG.quietF (by kernel_rfl) rfl (by kernel_rfl) (by kernel_rfl) ?_
              refine E.GQ.run rfl rfl rfl (E.Runs.fieldAddr rfl rfl hu53 rfl (by assumption) rfl) ?_
              refine E.GQ.run rfl rfl rfl (E.Runs.load rfl rfl hu3 (by first | assumption | exact E.blkc (by assumption) rfl | exact pw_cell_below L (by assumption) | exact pw_cell_below K (by assumption))) ?_
              refine E.GQ.run rfl rfl rfl (E.Runs.fieldAddr rfl rfl hu26 rfl (by assumption) rfl) ?_
              refine E.GQ.run rfl rfl rfl (E.Runs.load1 rfl rfl hu22 rfl (by first | assumption | exact E.blkc (by assumption) rfl | exact pw_cell_below L (by assumption) | exact pw_cell_below K (by assumption))) ?_
              refine E.GQ.run rfl rfl rfl (E.Runs.len rfl rfl hu22) ?_
              refine E.GQ.cmp rfl rfl rfl (fun _ h => (E.Runs.lss rfl rfl rfl h)) (fun h69 => ?_) (fun h69 => ?_)
              · obtain ⟨a, rfl⟩ : ∃ a : Nat, x0 = a := ⟨x0.toNat, by omega⟩
                refine E.GQ.run rfl rfl rfl (E.Runs.move rfl rfl) ?_
                refine E.GQ.run rfl rfl rfl (E.Runs.fieldAddr rfl rfl hu53 rfl (by assumption) rfl) ?_
                refine E.GQ.run rfl rfl rfl (E.Runs.load rfl rfl hu3 (by first | assumption | exact E.blkc (by assumption) rfl | exact pw_cell_below L (by assumption) | exact pw_cell_below K (by assumption))) ?_
                refine E.GQ.run rfl rfl rfl (E.Runs.fieldAddr rfl rfl hu26 rfl (by assumption) rfl) ?_
                refine E.GQ.run rfl rfl rfl (E.Runs.load1 rfl rfl hu22 rfl (by first | assumption | exact E.blkc (by assumption) rfl | exact pw_cell_below L (by assumption) | exact pw_cell_below K (by assumption))) ?_
                refine E.GQ.run rfl rfl rfl (E.Runs.len rfl rfl hu22) ?_
                refine E.GQ.cmp rfl rfl rfl (fun _ h => (E.Runs.lss rfl rfl rfl h)) (fun h76 => ?_) (fun h76 => ?_)
                · obtain ⟨b, rfl⟩ : ∃ b : Nat, x1 = b := ⟨x1.toNat, by omega⟩
                  have hab : a < V.rs.length := by omega
                  have hbb : b < V.rs.length := by omega
                  obtain ⟨ra, hra⟩ := get_ex hab
                  obtain ⟨rb, hrb⟩ := get_ex hbb
                  obtain ⟨adA, eA, XA⟩ := int_at hV.rs hra
                  obtain ⟨adB, eB, XB⟩ := int_at hV.rs hrb
                  refine E.GQ.run rfl rfl rfl (E.Runs.pick_t rfl rfl rfl) ?_
                  refine E.GQ.run rfl rfl rfl (E.Runs.move rfl rfl) ?_
                  refine E.GQ.run rfl rfl rfl (E.Runs.fieldAddr rfl rfl hu26 rfl (by assumption) rfl) ?_
                  refine E.GQ.run rfl rfl rfl (E.Runs.load1 rfl rfl hu22 rfl (by first | assumption | exact E.blkc (by assumption) rfl | exact pw_cell_below L (by assumption) | exact pw_cell_below K (by assumption))) ?_
                  refine E.GQ.run rfl rfl rfl (E.Runs.fieldAddr rfl rfl hu53 rfl (by assumption) rfl) ?_
                  refine E.GQ.run rfl rfl rfl (E.Runs.load rfl rfl hu3 (by first | assumption | exact E.blkc (by assumption) rfl | exact pw_cell_below L (by assumption) | exact pw_cell_below K (by assumption))) ?_
                  refine E.GQ.run rfl rfl rfl (E.Runs.indexAddrA (i := a) rfl rfl rfl hu22 z3 o3 (by omega) eA rfl) ?_
                  refine E.GQ.run rfl rfl rfl (E.Runs.load rfl rfl hu3 (pw_cell_below L XA)) ?_
                  refine E.GQ.run rfl rfl rfl (E.Runs.fieldAddr rfl rfl hu26 rfl (by assumption) rfl) ?_
                  refine E.GQ.run rfl rfl rfl (E.Runs.load1 rfl rfl hu22 rfl (by first | assumption | exact E.blkc (by assumption) rfl | exact pw_cell_below L (by assumption) | exact pw_cell_below K (by assumption))) ?_
                  refine E.GQ.run rfl rfl rfl (E.Runs.fieldAddr rfl rfl hu53 rfl (by assumption) rfl) ?_
                  refine E.GQ.run rfl rfl rfl (E.Runs.load rfl rfl hu3 (by first | assumption | exact E.blkc (by assumption) rfl | exact pw_cell_below L (by assumption) | exact pw_cell_below K (by assumption))) ?_
                  refine E.GQ.run rfl rfl rfl (E.Runs.indexAddrA (i := b) rfl rfl rfl hu22 z3 o3 (by omega) eB rfl) ?_
                  refine E.GQ.run rfl rfl rfl (E.Runs.load rfl rfl hu3 (pw_cell_below L XB)) ?_
                  refine E.GQ.cmp rfl rfl rfl (fun _ h => (E.Runs.eql rfl rfl rfl h)) (fun h91 => ?_) (fun h91 => ?_)
                  · have hre : V.rs.getD a 0 = V.rs.getD b 0 := by rw [getD_of hra, getD_of hrb]; exact h91
                    refine E.GQ.run rfl rfl rfl (E.Runs.pick_t rfl rfl rfl) ?_
                    refine E.GQ.doneB fun v7 lD => ?_
                    replace b3 := blk_below b3 lD
                    replace b5 := blk_below b5 lD
                    replace R49 := Kd.R_below R49 lD
                    replace L := below_step L lD
                    replace K := below_step K lD
                    have lD7 := lD
                    clear lD
                    refine E.QG.code ?_
                    refine E.CG.cond_t rfl ?_
                    refine E.CG.seq ?_
                    refine E.CG.list ?_
                    refine E.GL.st rfl rfl rfl (E.ST.litAt kI w55.heap.size (w0 := w55) (ys := ([] : List Int)) (inner := []) rfl rfl E.epn lit22n (Reps.none _ _) K K.size (by simp) fun u93 w93 r93 k93 l93 n93 => ?_)
                    replace K := k93
                    refine E.GL.run rfl rfl rfl (E.Runs.move rfl rfl) ?_
                    refine E.GL.st rfl rfl rfl (E.ST.appendRows kI w55.heap.size (w0 := w55) (s := .tmp 93) (x := .tmp 94) rfl hu22 info3 rfl (by decide) (by decide) rfl rfl r93 (Kd.C_below hp (below_step Lw K)) made22 K K.size (by simp only [List.length_nil]; omega) fun u95 w95 RO k95 g95 => ?_)
                    rw [List.nil_append] at RO
                    replace K := k95
                    obtain ⟨gO, cO, hvO, hgO, _, _⟩ := Kd.R_form RO (by omega)
                    subst hvO
                    have b3 := blk_below b3w K
                    have b5 := blk_below b5w K
                    have R49 := Kd.R_below R49w K
                    have L := below_step Lw K
                    refine E.GL.run rfl rfl rfl (E.Runs.assign rfl rfl) ?_
                    refine E.GL.done ?_
                    refine E.QG.code ?_
                    refine E.CG.seq ?_
                    refine E.CG.seq ?_
                    refine E.CG.list ?_
                    refine E.GL.run rfl rfl rfl (E.Runs.assign rfl rfl) ?_
                    refine E.GL.done ?_
                    refine E.QG.code ?_
                    refine E.CG.block ?_
                    have s10_b3 := b3
                    have s10_b5 := b5
                    have s10_L := L
                    have s10_K := K
                    refine E.CG.loop2 (fun (i : Nat) (o : List Int) => [(1, .slice A p.length c), (3, .pointer (some ⟨g3, 0, none⟩)), (5, .pointer (some ⟨g5, 0, none⟩)), (7, .slice A49 (brA V p).length c49), (9, .int .i64 (tkA V p)), (11, .slice (some ⟨gO, 0, none⟩) p.length cO), (12, .int .i64 (i : Int))]) (fun i o w' => i ≤ V.d.toNat ∧ Kd.R kI 3 w' w55.heap.size (fun _ => True) (.slice (some ⟨gO, 0, none⟩) p.length cO) o ∧ Fl V (fun i => i) (sw a b) (PR i 0) p o ∧ Below w55.heap.size w55 w') (fun i o => V.d.toNat - i) 0 p (E.subc rfl (E.subc rfl (E.subc rfl (E.subc rfl (E.subc rfl (E.subc rfl (E.subc rfl E.subn))))))) ⟨Nat.zero_le _, RO, Fl.start (fun _ _ _ q => by unfold PR at q; omega), K⟩ ?_
                    rintro i o w10 ⟨hi, RO, hF, K⟩
                    have b3 := blk_below b3w K
                    have b5 := blk_below b5w K
                    have R49 := Kd.R_below R49w K
                    have L := below_step Lw K
                    refine E.CG.seq ?_
                    refine E.CG.seq ?_
                    refine E.CG.list ?_
                    refine E.GL.run rfl rfl rfl (E.Runs.move rfl rfl) ?_
                    refine E.GL.run rfl rfl rfl (E.Runs.fieldAddr rfl rfl hu26 rfl (by assumption) rfl) ?_
                    refine E.GL.run rfl rfl rfl (E.Runs.load rfl rfl hu3 (by first | assumption | exact E.blkc (by assumption) rfl | exact pw_cell_below L (by assumption) | exact pw_cell_below K (by assumption))) ?_
                    refine E.GL.cmp rfl rfl rfl (fun _ h => (E.Runs.lss rfl rfl rfl h)) (fun h99 => ?_) (fun h99 => ?_)
                    · refine E.GL.done ?_
                      refine E.QG.code ?_
                      refine E.CG.cond_t rfl ?_
                      refine E.CG.skip ?_
                      refine E.QG.code ?_
                      refine E.CG.seq ?_
                      refine E.CG.block ?_
                      refine E.CG.seq ?_
                      refine E.CG.list ?_
                      refine E.GL.run rfl rfl rfl (E.Runs.assign rfl rfl) ?_
                      refine E.GL.done ?_
                      refine E.QG.code ?_
                      refine E.CG.block ?_
                      have s13_b3 := b3
                      have s13_b5 := b5
                      have s13_L := L
                      have s13_K := K
                      refine E.CG.loop2 (fun (k : Nat) (o : List Int) => [(1, .slice A p.length c), (3, .pointer (some ⟨g3, 0, none⟩)), (5, .pointer (some ⟨g5, 0, none⟩)), (7, .slice A49 (brA V p).length c49), (9, .int .i64 (tkA V p)), (11, .slice (some ⟨gO, 0, none⟩) p.length cO), (12, .int .i64 (i : Int)), (13, .int .i64 (k : Int))]) (fun k o w' => k ≤ V.h.toNat ∧ Kd.R kI 3 w' w55.heap.size (fun _ => True) (.slice (some ⟨gO, 0, none⟩) p.length cO) o ∧ Fl V (fun i => i) (sw a b) (PR i k) p o ∧ Below w55.heap.size w55 w') (fun k o => V.h.toNat - k) 0 o (E.subc rfl (E.subc rfl (E.subc rfl (E.subc rfl (E.subc rfl (E.subc rfl (E.subc rfl (E.subc rfl E.subn)))))))) ⟨Nat.zero_le _, RO, hF, K⟩ ?_
                      rintro k o w13 ⟨hk, RO, hF, K⟩
                      have b3 := blk_below b3w K
                      have b5 := blk_below b5w K
                      have R49 := Kd.R_below R49w K
                      have L := below_step Lw K
                      refine E.CG.seq ?_
                      refine E.CG.seq ?_
                      refine E.CG.list ?_
                      refine E.GL.run rfl rfl rfl (E.Runs.move rfl rfl) ?_
                      refine E.GL.run rfl rfl rfl (E.Runs.fieldAddr rfl rfl hu26 rfl (by assumption) rfl) ?_
                      refine E.GL.run rfl rfl rfl (E.Runs.load rfl rfl hu3 (by first | assumption | exact E.blkc (by assumption) rfl | exact pw_cell_below L (by assumption) | exact pw_cell_below K (by assumption))) ?_
                      refine E.GL.cmp rfl rfl rfl (fun _ h => (E.Runs.lss rfl rfl rfl h)) (fun h105 => ?_) (fun h105 => ?_)
                      · have hs1 := slN_lt (V := V) (day := i) (r := a) (h := k) (by omega) hab (by omega)
                        have hs2 := slN_lt (V := V) (day := i) (r := b) (h := k) (by omega) hbb (by omega)
                        refine E.GL.done ?_
                        refine E.QG.code ?_
                        refine E.CG.cond_t rfl ?_
                        refine E.CG.skip ?_
                        refine E.QG.code ?_
                        refine E.CG.seq ?_
                        refine E.CG.block ?_
                        refine E.CG.seq ?_
                        refine E.CG.heldH (none) (by kernel_rfl) fun v15 lD hh => ?_
                        replace b3 := blk_below b3 lD
                        replace b5 := blk_below b5 lD
                        replace R49 := Kd.R_below R49 lD
                        replace RO := Kd.R_below RO lD
                        replace L := below_step L lD
                        replace K := below_step K lD
                        clear lD
                        have s_b3 := b3
                        have s_b5 := b5
                        have s_L := L
                        have s_K := K
                        refine E.GH.take (i := 0) rfl (by kernel_rfl) (by kernel_rfl) (by kernel_rfl) (by intro c a d v w h; first | (cases d <;> exact h) | exact nomatch (show _ ∧ _ from h).1) rfl rfl rfl (fun w' hS => (E.Runs.loads (cs := [.int .i64 V.d, .slice m.A V.rs.length m.a, .int .i64 V.h, .slice m.B V.fs.length m.b, .slice m.C V.ds.length m.c]) rfl rfl hu26 rfl info26s (blk_cells (blk_grown s_b3 hS E.nen)))) ?_
                        refine E.GH.take (i := 1) rfl (by kernel_rfl) (by kernel_rfl) (by kernel_rfl) (by intro c a d v w h; first | (cases d <;> exact h) | exact nomatch (show _ ∧ _ from h).1) rfl rfl rfl (fun w' hS => (E.Runs.move rfl rfl)) ?_
                        refine E.GH.take (i := 2) rfl (by kernel_rfl) (by kernel_rfl) (by kernel_rfl) (by intro c a d v w h; first | (cases d <;> exact h) | exact nomatch (show _ ∧ _ from h).1) rfl rfl rfl (fun w' hS => (E.Runs.fieldAddr rfl rfl hu53 rfl (by assumption) rfl)) ?_
                        refine E.GH.take (i := 3) rfl (by kernel_rfl) (by kernel_rfl) (by kernel_rfl) (by intro c a d v w h; first | (cases d <;> exact h) | exact nomatch (show _ ∧ _ from h).1) rfl rfl rfl (fun w' hS => (E.Runs.load rfl rfl hu3 (by first | exact E.keeps hS (E.blkc (by assumption) rfl) (by first | exact E.nen | exact E.nes (by assumption) | exact E.nes (Ne.symm (by assumption))) | exact pw_cell_below (below_step s_L (E.belowG hS)) (by assumption) | exact pw_cell_below (below_step s_K (E.belowG hS)) (by assumption)))) ?_
                        refine E.GH.take (i := 4) rfl (by kernel_rfl) (by kernel_rfl) (by kernel_rfl) (by intro c a d v w h; first | (cases d <;> exact h) | exact nomatch (show _ ∧ _ from h).1) rfl rfl rfl (fun w' hS => (E.Runs.move rfl rfl)) ?_
                        refine E.GH.take (i := 6) rfl (by kernel_rfl) (by kernel_rfl) (by kernel_rfl) (by intro c a d v w h; first | (cases d <;> exact h) | exact nomatch (show _ ∧ _ from h).1) rfl rfl rfl (fun w' hS => (E.Runs.loads (cs := [.int .i64 V.d, .slice m.A V.rs.length m.a, .int .i64 V.h, .slice m.B V.fs.length m.b, .slice m.C V.ds.length m.c]) rfl rfl hu26 rfl info26s (blk_cells (blk_grown s_b3 hS E.nen)))) ?_
                        refine E.GH.take (i := 7) rfl (by kernel_rfl) (by kernel_rfl) (by kernel_rfl) (by intro c a d v w h; first | (cases d <;> exact h) | exact nomatch (show _ ∧ _ from h).1) rfl rfl rfl (fun w' hS => (E.Runs.move rfl rfl)) ?_
                        refine E.GH.take (i := 8) rfl (by kernel_rfl) (by kernel_rfl) (by kernel_rfl) (by intro c a d v w h; first | (cases d <;> exact h) | exact nomatch (show _ ∧ _ from h).1) rfl rfl rfl (fun w' hS => (E.Runs.fieldAddr rfl rfl hu53 rfl (by assumption) rfl)) ?_
                        refine E.GH.take (i := 9) rfl (by kernel_rfl) (by kernel_rfl) (by kernel_rfl) (by intro c a d v w h; first | (cases d <;> exact h) | exact nomatch (show _ ∧ _ from h).1) rfl rfl rfl (fun w' hS => (E.Runs.load rfl rfl hu3 (by first | exact E.keeps hS (E.blkc (by assumption) rfl) (by first | exact E.nen | exact E.nes (by assumption) | exact E.nes (Ne.symm (by assumption))) | exact pw_cell_below (below_step s_L (E.belowG hS)) (by assumption) | exact pw_cell_below (below_step s_K (E.belowG hS)) (by assumption)))) ?_
                        refine E.GH.take (i := 10) rfl (by kernel_rfl) (by kernel_rfl) (by kernel_rfl) (by intro c a d v w h; first | (cases d <;> exact h) | exact nomatch (show _ ∧ _ from h).1) rfl rfl rfl (fun w' hS => (E.Runs.move rfl rfl)) ?_
                        refine E.GH.one (i := 5) (by kernel_rfl) rfl ?_
                        refine E.GO.st rfl rfl rfl (E.ST.call rfl ent33 (E.evc rfl (E.evc rfl (E.evc rfl (E.evc rfl E.evn)))) ((slot_r V m i a k _ ok.s (by omega) (by omega) (by omega)).mono ?_))
                        rintro e w113 ⟨rfl, l113⟩
                        refine ⟨_, rfl, hh.trans (E.gbB l113), ?_⟩
                        replace hh := hh.trans (E.gbB l113)
                        replace b3 := blk_below b3 l113
                        replace b5 := blk_below b5 l113
                        replace R49 := Kd.R_below R49 l113
                        replace RO := Kd.R_below RO l113
                        replace L := below_step L l113
                        replace K := below_step K l113
                        refine E.GH.one (i := 11) (by kernel_rfl) rfl ?_
                        refine E.GO.st rfl rfl rfl (E.ST.call rfl ent33 (E.evc rfl (E.evc rfl (E.evc rfl (E.evc rfl E.evn)))) ((slot_r V m i b k _ ok.s (by omega) (by omega) (by omega)).mono ?_))
                        rintro e w119 ⟨rfl, l119⟩
                        refine ⟨_, rfl, hh.trans (E.gbB l119), ?_⟩
                        replace hh := hh.trans (E.gbB l119)
                        replace b3 := blk_below b3 l119
                        replace b5 := blk_below b5 l119
                        replace R49 := Kd.R_below R49 l119
                        replace RO := Kd.R_below RO l119
                        replace L := below_step L l119
                        replace K := below_step K l119
                        refine E.GH.take (i := 12) rfl (by kernel_rfl) (by kernel_rfl) (by kernel_rfl) (by intro c a d v w h; first | (cases d <;> exact h) | exact nomatch (show _ ∧ _ from h).1) rfl rfl rfl (fun w' hS => (E.Runs.assign rfl rfl)) ?_
                        refine E.GH.take (i := 13) rfl (by kernel_rfl) (by kernel_rfl) (by kernel_rfl) (by intro c a d v w h; first | (cases d <;> exact h) | exact nomatch (show _ ∧ _ from h).1) rfl rfl rfl (fun w' hS => (E.Runs.assign rfl rfl)) ?_
                        refine E.GH.done (by kernel_rfl) ?_
                        refine E.QG.code ?_
                        refine E.CG.heldJ 13 (fun v W => v.grownBy W (none)) (fun v W => v.grownBy W (some gO)) (by kernel_rfl) (by kernel_rfl) (fun v => World.grownBy.refl _ _) fun v16 lD => ?_
                        replace b3 := blk_below b3 lD
                        replace b5 := blk_below b5 lD
                        replace R49 := Kd.R_below R49 lD
                        replace RO := Kd.R_below RO lD
                        replace L := below_step L lD
                        replace K := below_step K lD
                        have lD16 := lD
                        clear lD
                        have hol := hF.len
                        obtain ⟨y1, hy1⟩ := get_ex (show (slN V i a k) < p.length by omega)
                        obtain ⟨y2, hy2⟩ := get_ex (show (slN V i b k) < p.length by omega)
                        obtain ⟨ad1, eA1, X1⟩ := int_at hp hy1
                        obtain ⟨ad2, eA2, X2⟩ := int_at hp hy2
                        obtain ⟨old1, hc1, hf1, hs1⟩ := int_own RO (i := (slN V i a k)) (by omega)
                        obtain ⟨RO1, gO1⟩ := hs1 y2
                        have s_b3 := b3
                        have s_b5 := b5
                        have s_L := L
                        have s_K := K
                        refine E.GJ.take1 (i := 0) rfl (by kernel_rfl) (by kernel_rfl) (by kernel_rfl) (by kernel_rfl) rfl (by kernel_rfl) (by kernel_rfl) (by intro c a d v w h; first | (cases d <;> exact h) | exact nomatch (show _ ∧ _ from h).1) rfl rfl rfl (fun w' hS => (E.Runs.move rfl rfl)) ?_
                        refine E.GJ.take1 (i := 1) rfl (by kernel_rfl) (by kernel_rfl) (by kernel_rfl) (by kernel_rfl) rfl (by kernel_rfl) (by kernel_rfl) (by intro c a d v w h; first | (cases d <;> exact h) | exact nomatch (show _ ∧ _ from h).1) rfl rfl rfl (fun w' hS => (E.Runs.move rfl rfl)) ?_
                        refine E.GJ.take2 (i := 2) rfl (by kernel_rfl) (by kernel_rfl) (by kernel_rfl) (by kernel_rfl) (by intro c a d v w h; first | (cases d <;> exact h) | exact nomatch (show _ ∧ _ from h).1) rfl rfl rfl (fun w' hS => (E.Runs.move rfl rfl)) ?_
                        refine E.GJ.take2 (i := 3) rfl (by kernel_rfl) (by kernel_rfl) (by kernel_rfl) (by kernel_rfl) (by intro c a d v w h; first | (cases d <;> exact h) | exact nomatch (show _ ∧ _ from h).1) rfl rfl rfl (fun w' hS => (E.Runs.move rfl rfl)) ?_
                        refine E.GJ.take1 (i := 4) rfl (by kernel_rfl) (by kernel_rfl) (by kernel_rfl) (by kernel_rfl) rfl (by kernel_rfl) (by kernel_rfl) (by intro c a d v w h; first | (cases d <;> exact h) | exact nomatch (show _ ∧ _ from h).1) rfl rfl rfl (fun w' hS => (E.Runs.move rfl rfl)) ?_
                        refine E.GJ.take1 (i := 5) rfl (by kernel_rfl) (by kernel_rfl) (by kernel_rfl) (by kernel_rfl) rfl (by kernel_rfl) (by kernel_rfl) (by intro c a d v w h; first | (cases d <;> exact h) | exact nomatch (show _ ∧ _ from h).1) rfl rfl rfl (fun w' hS => (E.Runs.move rfl rfl)) ?_
                        refine E.GJ.take1 (i := 6) rfl (by kernel_rfl) (by kernel_rfl) (by kernel_rfl) (by kernel_rfl) rfl (by kernel_rfl) (by kernel_rfl) (by intro c a d v w h; first | (cases d <;> exact h) | exact nomatch (show _ ∧ _ from h).1) rfl rfl rfl (fun w' hS => (E.Runs.indexAddrA (i := (slN V i b k)) rfl rfl rfl hu22 z3 o3 (by omega) eA2 rfl)) ?_
                        refine E.GJ.take1 (i := 7) rfl (by kernel_rfl) (by kernel_rfl) (by kernel_rfl) (by kernel_rfl) rfl (by kernel_rfl) (by kernel_rfl) (by intro c a d v w h; first | (cases d <;> exact h) | exact nomatch (show _ ∧ _ from h).1) rfl rfl rfl (fun w' hS => (E.Runs.load rfl rfl hu3 (by first | exact pw_cell_below (below_step s_L (E.belowG hS)) X2 | exact pw_cell_below (hS.elim (fun q => below_step s_L (E.belowG q)) (fun q => E.below_own s_L (Nat.le_trans Lw.size hgO) q)) X2 | fail))) ?_
                        refine E.GJ.take2 (i := 8) rfl (by kernel_rfl) (by kernel_rfl) (by kernel_rfl) (by kernel_rfl) (by intro c a d v w h; first | (cases d <;> exact h) | exact nomatch (show _ ∧ _ from h).1) rfl rfl rfl (fun w' hS => (E.Runs.move rfl rfl)) ?_
                        refine E.GJ.take2 (i := 9) rfl (by kernel_rfl) (by kernel_rfl) (by kernel_rfl) (by kernel_rfl) (by intro c a d v w h; first | (cases d <;> exact h) | exact nomatch (show _ ∧ _ from h).1) rfl rfl rfl (fun w' hS => (E.Runs.move rfl rfl)) ?_
                        refine E.GJ.take2 (i := 10) rfl (by kernel_rfl) (by kernel_rfl) (by kernel_rfl) (by kernel_rfl) (by intro c a d v w h; first | (cases d <;> exact h) | exact nomatch (show _ ∧ _ from h).1) rfl rfl rfl (fun w' hS => (E.Runs.indexAddrA (i := (slN V i a k)) rfl rfl rfl hu22 z3 o3 (by omega) eA1 rfl)) ?_
                        refine E.GJ.take1 (i := 11) rfl (by kernel_rfl) (by kernel_rfl) (by kernel_rfl) (by kernel_rfl) rfl (by kernel_rfl) (by kernel_rfl) (by intro c a d v w h; first | (cases d <;> exact h) | exact nomatch (show _ ∧ _ from h).1) rfl rfl rfl (fun w' hS => (E.Runs.load rfl rfl hu3 (by first | exact pw_cell_below (below_step s_L (E.belowG hS)) X1 | exact pw_cell_below (hS.elim (fun q => below_step s_L (E.belowG q)) (fun q => E.below_own s_L (Nat.le_trans Lw.size hgO) q)) X1 | fail))) ?_
                        refine E.GJ.take1 (i := 12) rfl (by kernel_rfl) (by kernel_rfl) (by kernel_rfl) (by kernel_rfl) rfl (by kernel_rfl) (by kernel_rfl) (by intro c a d v w h; first | (cases d <;> exact h) | exact nomatch (show _ ∧ _ from h).1) rfl rfl rfl (fun w' hS => (E.Runs.indexAddrA (i := (slN V i a k)) rfl rfl rfl hu22 z3 o3 (by omega) rfl (show _ = (⟨gO, (slN V i a k), none⟩ : Addr) from by rw [Go.Addr.add_mid, Nat.zero_add, Nat.mul_one]))) ?_
                        refine E.GJ.one (i := 13) (by kernel_rfl) (E.OJ.sn rfl rfl rfl (E.ST.storeN (old := old1) (off := (slN V i a k)) rfl z3 o3 rfl rfl hc1 hf1 ⟨(E.SJ.behind (by kernel_rfl)).mpr gO1, ?_⟩))
                        replace K := E.below_own K hgO gO1
                        have b3 := blk_below b3w K
                        have b5 := blk_below b5w K
                        have R49 := Kd.R_below R49w K
                        have L := below_step Lw K
                        obtain ⟨old2, hc2, hf2, hs2⟩ := int_own RO1 (i := (slN V i b k)) (by rw [List.length_set]; omega)
                        obtain ⟨RO2, gO2⟩ := hs2 y1
                        refine E.GJ.one (i := 14) (by kernel_rfl) (E.OJ.st rfl rfl rfl rfl (E.ST.reads (E.Runs.indexAddrA (i := (slN V i b k)) rfl rfl rfl hu22 z3 o3 (by omega) rfl (show _ = (⟨gO, (slN V i b k), none⟩ : Addr) from by rw [Go.Addr.add_mid, Nat.zero_add, Nat.mul_one])) ⟨(E.SJ.behind (by kernel_rfl)).mpr gO1, ?_⟩))
                        refine E.GJ.one (i := 15) (by kernel_rfl) (E.OJ.sn rfl rfl rfl (E.ST.storeN (old := old2) (off := (slN V i b k)) rfl z3 o3 rfl rfl hc2 hf2 ⟨(E.SJ.behind (by kernel_rfl)).mpr (gO1.trans gO2), ?_⟩))
                        replace K := E.below_own K hgO gO2
                        have b3 := blk_below b3w K
                        have b5 := blk_below b5w K
                        have R49 := Kd.R_below R49w K
                        have L := below_step Lw K
                        have hF2 := fl_rooms hF hpl (by omega) hab hbb (by omega) hy1 hy2
                        refine E.GJ.done (by kernel_rfl) ?_
                        refine E.QG.block_normal ?_
                        refine E.QG.code ?_
                        refine E.CG.list ?_
                        refine E.GL.run rfl rfl rfl (E.Runs.move rfl rfl) ?_
                        refine E.GL.run rfl rfl rfl (E.Runs.add rfl rfl rfl (IntWalk.i64_in _ (by omega))) ?_
                        refine E.GL.run rfl rfl rfl (E.Runs.assign rfl rfl) ?_
                        refine E.GL.done ?_
                        exact E.QG.round2 (d := []) (k + 1) _ (E.subc rfl (E.subc rfl (E.subc rfl (E.subc rfl (E.subc rfl (E.subc rfl (E.subc rfl (E.subc rfl E.subn)))))))) ⟨by omega, RO2, hF2, K⟩ (by omega)
                      · have hF3 := hF.congr (P' := PR (i + 1) 0) (fun day r h _ _ q => by unfold PR; omega)
                        refine E.GL.done ?_
                        refine E.QG.code ?_
                        refine E.CG.cond_f rfl ?_
                        refine E.CG.exit ?_
                        refine E.QG.pass_exit ?_
                        refine E.QG.pass_exit ?_
                        refine E.QG.block_here ?_
                        refine E.QG.block_normal ?_
                        refine E.QG.code ?_
                        refine E.CG.list ?_
                        refine E.GL.run rfl rfl rfl (E.Runs.move rfl rfl) ?_
                        refine E.GL.run rfl rfl rfl (E.Runs.add rfl rfl rfl (IntWalk.i64_in _ (by omega))) ?_
                        refine E.GL.run rfl rfl rfl (E.Runs.assign rfl rfl) ?_
                        refine E.GL.done ?_
                        exact E.QG.round2 (d := []) (i + 1) _ (E.subc rfl (E.subc rfl (E.subc rfl (E.subc rfl (E.subc rfl (E.subc rfl (E.subc rfl E.subn))))))) ⟨by omega, RO, hF3, K⟩ (by omega)
                    · have hEx := hF.ex (fun day r h q1 _ _ => show PR i 0 day r h from .inl (by omega))
                      refine E.GL.done ?_
                      refine E.QG.code ?_
                      refine E.CG.cond_f rfl ?_
                      refine E.CG.exit ?_
                      refine E.QG.pass_exit ?_
                      refine E.QG.pass_exit ?_
                      refine E.QG.block_here ?_
                      refine E.QG.code ?_
                      refine E.CG.seq ?_
                      refine E.CG.list ?_
                      refine E.GL.run rfl rfl rfl (E.Runs.loads (cs := [.int .i64 V.d, .slice m.A V.rs.length m.a, .int .i64 V.h, .slice m.B V.fs.length m.b, .slice m.C V.ds.length m.c]) rfl rfl hu26 rfl info26s (blk_cells b3)) ?_
                      refine E.GL.run rfl rfl rfl (E.Runs.move rfl rfl) ?_
                      refine E.GL.run rfl rfl rfl (E.Runs.move rfl rfl) ?_
                      refine E.GL.run rfl rfl rfl (E.Runs.move rfl rfl) ?_
                      refine E.GL.st rfl rfl rfl (E.ST.call rfl ent34 (E.evc rfl (E.evc rfl (E.evc rfl (E.evc rfl E.evn)))) ((kept_ex (hV.below L) hs ok h32 hF.len (Kd.R_reads' RO).2.2 (Kd.R_reads' R49).2.2 (sy_rooms hab hbb hre) hEx (fun x _ => dsy_id V x)).mono ?_))
                      rintro e w138 ⟨rfl, l138⟩
                      refine ⟨_, rfl, ?_⟩
                      replace b3 := blk_below b3 l138
                      replace b5 := blk_below b5 l138
                      replace R49 := Kd.R_below R49 l138
                      replace RO := Kd.R_below RO l138
                      replace L := below_step L l138
                      replace K := below_step K l138
                      refine E.GL.run rfl rfl rfl (E.Runs.not rfl rfl) ?_
                      refine E.GL.done ?_
                      refine E.QG.code ?_
                      refine E.CG.cond_f rfl ?_
                      refine E.CG.skip ?_
                      exact E.QG.meet1 () (E.subc rfl (E.subc rfl (E.subc rfl (E.subc rfl (E.subc rfl (E.subn)))))) K
                  · refine E.GQ.run rfl rfl rfl (E.Runs.pick_t rfl rfl rfl) ?_
                    refine E.GQ.doneB fun v7 lD => ?_
                    replace b3 := blk_below b3 lD
                    replace b5 := blk_below b5 lD
                    replace R49 := Kd.R_below R49 lD
                    replace L := below_step L lD
                    replace K := below_step K lD
                    have lD7 := lD
                    clear lD
                    refine E.QG.code ?_
                    refine E.CG.cond_f rfl ?_
                    refine E.CG.skip ?_
                    exact E.QG.meet1 () (E.subc rfl (E.subc rfl (E.subc rfl (E.subc rfl (E.subc rfl (E.subn)))))) K
                · refine E.GQ.run rfl rfl rfl (E.Runs.pick_t rfl rfl rfl) ?_
                  refine E.GQ.run rfl rfl rfl (E.Runs.move rfl rfl) ?_
                  refine E.GQ.skip rfl rfl rfl ?_
                  refine E.GQ.skip rfl rfl rfl ?_
                  refine E.GQ.skip rfl rfl rfl ?_
                  refine E.GQ.skip rfl rfl rfl ?_
                  refine E.GQ.skip rfl rfl rfl ?_
                  refine E.GQ.skip rfl rfl rfl ?_
                  refine E.GQ.skip rfl rfl rfl ?_
                  refine E.GQ.skip rfl rfl rfl ?_
                  refine E.GQ.skip rfl rfl rfl ?_
                  refine E.GQ.skip rfl rfl rfl ?_
                  refine E.GQ.skip rfl rfl rfl ?_
                  refine E.GQ.skip rfl rfl rfl ?_
                  refine E.GQ.skip rfl rfl rfl ?_
                  refine E.GQ.run rfl rfl rfl (E.Runs.pick_f rfl rfl rfl) ?_
                  refine E.GQ.doneB fun v7 lD => ?_
                  replace b3 := blk_below b3 lD
                  replace b5 := blk_below b5 lD
                  replace R49 := Kd.R_below R49 lD
                  replace L := below_step L lD
                  replace K := below_step K lD
                  have lD7 := lD
                  clear lD
                  refine E.QG.code ?_
                  refine E.CG.cond_f rfl ?_
                  refine E.CG.skip ?_
                  exact E.QG.meet1 () (E.subc rfl (E.subc rfl (E.subc rfl (E.subc rfl (E.subc rfl (E.subn)))))) K
              · refine E.GQ.run rfl rfl rfl (E.Runs.move rfl rfl) ?_
                refine E.GQ.skip rfl rfl rfl ?_
                refine E.GQ.skip rfl rfl rfl ?_
                refine E.GQ.skip rfl rfl rfl ?_
                refine E.GQ.skip rfl rfl rfl ?_
                refine E.GQ.skip rfl rfl rfl ?_
                refine E.GQ.skip rfl rfl rfl ?_
                refine E.GQ.run rfl rfl rfl (E.Runs.pick_f rfl rfl rfl) ?_
                refine E.GQ.run rfl rfl rfl (E.Runs.move rfl rfl) ?_
                refine E.GQ.skip rfl rfl rfl ?_
                refine E.GQ.skip rfl rfl rfl ?_
                refine E.GQ.skip rfl rfl rfl ?_
                refine E.GQ.skip rfl rfl rfl ?_
                refine E.GQ.skip rfl rfl rfl ?_
                refine E.GQ.skip rfl rfl rfl ?_
                refine E.GQ.skip rfl rfl rfl ?_
                refine E.GQ.skip rfl rfl rfl ?_
                refine E.GQ.skip rfl rfl rfl ?_
                refine E.GQ.skip rfl rfl rfl ?_
                refine E.GQ.skip rfl rfl rfl ?_
                refine E.GQ.skip rfl rfl rfl ?_
                refine E.GQ.skip rfl rfl rfl ?_
                refine E.GQ.run rfl rfl rfl (E.Runs.pick_f rfl rfl rfl) ?_
                refine E.GQ.doneB fun v7 lD => ?_
                replace b3 := blk_below b3 lD
                replace b5 := blk_below b5 lD
                replace R49 := Kd.R_below R49 lD
                replace L := below_step L lD
                replace K := below_step K lD
                have lD7 := lD
                clear lD
                refine E.QG.code ?_
                refine E.CG.cond_f rfl ?_
                refine E.CG.skip ?_
                exact E.QG.meet1 () (E.subc rfl (E.subc rfl (E.subc rfl (E.subc rfl (E.subc rfl (E.subn)))))) K
            intro u wM
            rintro K
            have b3 := blk_below b3w K
            have b5 := blk_below b5w K
            have R49 := Kd.R_below R49w K
            have L := below_step Lw K
            refine E.QG.code ?_
            refine E.CG.seq ?_
            refine E.CG.seq ?_
            refine E.CG.list ?_
            refine E.GL.run rfl rfl rfl (E.Runs.assign rfl rfl) ?_
            refine E.GL.done ?_
            refine E.QG.code ?_
            refine E.CG.block ?_
            have s20_b3 := b3
            have s20_b5 := b5
            have s20_L := L
            refine E.CG.loop (fun (j : Nat) => [(1, .slice A p.length c), (3, .pointer (some ⟨g3, 0, none⟩)), (5, .pointer (some ⟨g5, 0, none⟩)), (7, .slice A49 (brA V p).length c49), (9, .int .i64 (tkA V p)), (16, .int .i64 (j : Int))]) (fun j w' => j ≤ V.ds.length ∧ (∀ k, k < j → ∀ x, V.ds[k]? = some x → x.f2 = 0 ∧ x.f3 = V.d - 1) ∧ Below w55.heap.size w55 w') (fun j => V.ds.length - j) 0 (E.subc rfl (E.subc rfl (E.subc rfl (E.subc rfl (E.subc rfl (E.subc rfl E.subn)))))) ⟨Nat.zero_le _, (fun k hk => by omega), K⟩ ?_
            rintro j w20 ⟨hj, hall, K⟩
            have b3 := blk_below b3w K
            have b5 := blk_below b5w K
            have R49 := Kd.R_below R49w K
            have L := below_step Lw K
            refine E.CG.seq ?_
            refine E.CG.seq ?_
            refine E.CG.list ?_
            refine E.GL.run rfl rfl rfl (E.Runs.move rfl rfl) ?_
            refine E.GL.run rfl rfl rfl (E.Runs.fieldAddr rfl rfl hu26 rfl (by assumption) rfl) ?_
            refine E.GL.run rfl rfl rfl (E.Runs.load1 rfl rfl hu24 rfl (by first | assumption | exact E.blkc (by assumption) rfl | exact pw_cell_below L (by assumption) | exact pw_cell_below K (by assumption))) ?_
            refine E.GL.run rfl rfl rfl (E.Runs.len rfl rfl hu24) ?_
            refine E.GL.cmp rfl rfl rfl (fun _ h => (E.Runs.lss rfl rfl rfl h)) (fun h144 => ?_) (fun h144 => ?_)
            · obtain ⟨x, hx⟩ := get_ex (show j < V.ds.length by omega)
              obtain ⟨ad, eA, XD⟩ := deal_at hV.ds hx
              have hdk := dok_small ok.s (ok.ds x (mem_of hx))
              refine E.GL.done ?_
              refine E.QG.code ?_
              refine E.CG.cond_t rfl ?_
              refine E.CG.skip ?_
              refine E.QG.code ?_
              refine E.CG.seq ?_
              refine E.CG.block ?_
              refine E.CG.seq ?_
              refine E.CG.quietF (by kernel_rfl) rfl (by kernel_rfl) (by kernel_rfl) ?_
              refine E.GQ.run rfl rfl rfl (E.Runs.fieldAddr rfl rfl hu26 rfl (by assumption) rfl) ?_
              refine E.GQ.run rfl rfl rfl (E.Runs.load1 rfl rfl hu24 rfl (by first | assumption | exact E.blkc (by assumption) rfl | exact pw_cell_below L (by assumption) | exact pw_cell_below K (by assumption))) ?_
              refine E.GQ.run rfl rfl rfl (E.Runs.move rfl rfl) ?_
              refine E.GQ.run rfl rfl rfl (E.Runs.indexAddrA (i := j) rfl rfl rfl hu24 z45 o45 (by omega) eA rfl) ?_
              refine E.GQ.run rfl rfl rfl (E.Runs.fieldAddr rfl rfl hu45 rfl (by assumption) rfl) ?_
              refine E.GQ.run rfl rfl rfl (E.Runs.load rfl rfl hu3 (pw_cell_below L (XD 2 _ rfl))) ?_
              refine E.GQ.cmpn rfl rfl rfl (fun _ h => (E.Runs.neq rfl rfl rfl h)) (fun h153 => ?_) (fun h153 => ?_)
              · refine E.GQ.run rfl rfl rfl (E.Runs.move rfl rfl) ?_
                refine E.GQ.skip rfl rfl rfl ?_
                refine E.GQ.skip rfl rfl rfl ?_
                refine E.GQ.skip rfl rfl rfl ?_
                refine E.GQ.skip rfl rfl rfl ?_
                refine E.GQ.skip rfl rfl rfl ?_
                refine E.GQ.skip rfl rfl rfl ?_
                refine E.GQ.skip rfl rfl rfl ?_
                refine E.GQ.skip rfl rfl rfl ?_
                refine E.GQ.skip rfl rfl rfl ?_
                refine E.GQ.skip rfl rfl rfl ?_
                refine E.GQ.run rfl rfl rfl (E.Runs.pick_t rfl rfl rfl) ?_
                refine E.GQ.doneB fun v22 lD => ?_
                replace b3 := blk_below b3 lD
                replace b5 := blk_below b5 lD
                replace R49 := Kd.R_below R49 lD
                replace L := below_step L lD
                replace K := below_step K lD
                have lD22 := lD
                clear lD
                refine E.QG.code ?_
                refine E.CG.cond_t rfl ?_
                refine E.CG.seq ?_
                refine E.CG.list ?_
                refine E.GL.st rfl rfl rfl (E.ST.call rfl ent13 E.evn ((works_calls _).mono ?_))
                rintro e w166 ⟨rfl, l166⟩
                refine ⟨_, rfl, ?_⟩
                replace b3 := blk_below b3 l166
                replace b5 := blk_below b5 l166
                replace R49 := Kd.R_below R49 l166
                replace L := below_step L l166
                replace K := below_step K l166
                refine E.GL.run rfl rfl rfl (E.Runs.assign rfl rfl) ?_
                refine E.GL.done ?_
                refine E.QG.code ?_
                refine E.CG.ret ?_
                refine E.QG.block_ret ?_
                refine E.QG.pass_ret ?_
                refine E.QG.pass_ret ?_
                refine E.QG.block_ret ?_
                refine E.QG.pass_ret ?_
                exact E.QG.result rfl rfl ⟨rfl, L⟩
              · refine E.GQ.run rfl rfl rfl (E.Runs.move rfl rfl) ?_
                refine E.GQ.run rfl rfl rfl (E.Runs.fieldAddr rfl rfl hu26 rfl (by assumption) rfl) ?_
                refine E.GQ.run rfl rfl rfl (E.Runs.load1 rfl rfl hu24 rfl (by first | assumption | exact E.blkc (by assumption) rfl | exact pw_cell_below L (by assumption) | exact pw_cell_below K (by assumption))) ?_
                refine E.GQ.run rfl rfl rfl (E.Runs.move rfl rfl) ?_
                refine E.GQ.run rfl rfl rfl (E.Runs.indexAddrA (i := j) rfl rfl rfl hu24 z45 o45 (by omega) eA rfl) ?_
                refine E.GQ.run rfl rfl rfl (E.Runs.fieldAddr rfl rfl hu45 rfl (by assumption) rfl) ?_
                refine E.GQ.run rfl rfl rfl (E.Runs.load rfl rfl hu3 (pw_cell_below L (XD 3 _ rfl))) ?_
                refine E.GQ.run rfl rfl rfl (E.Runs.fieldAddr rfl rfl hu26 rfl (by assumption) rfl) ?_
                refine E.GQ.run rfl rfl rfl (E.Runs.load rfl rfl hu3 (by first | assumption | exact E.blkc (by assumption) rfl | exact pw_cell_below L (by assumption) | exact pw_cell_below K (by assumption))) ?_
                refine E.GQ.run rfl rfl rfl (E.Runs.sub rfl rfl rfl (IntWalk.i64_in _ (by omega))) ?_
                refine E.GQ.cmpn rfl rfl rfl (fun _ h => (E.Runs.neq rfl rfl rfl h)) (fun h164 => ?_) (fun h164 => ?_)
                · refine E.GQ.run rfl rfl rfl (E.Runs.pick_f rfl rfl rfl) ?_
                  refine E.GQ.doneB fun v22 lD => ?_
                  replace b3 := blk_below b3 lD
                  replace b5 := blk_below b5 lD
                  replace R49 := Kd.R_below R49 lD
                  replace L := below_step L lD
                  replace K := below_step K lD
                  have lD22 := lD
                  clear lD
                  refine E.QG.code ?_
                  refine E.CG.cond_t rfl ?_
                  refine E.CG.seq ?_
                  refine E.CG.list ?_
                  refine E.GL.st rfl rfl rfl (E.ST.call rfl ent13 E.evn ((works_calls _).mono ?_))
                  rintro e w166 ⟨rfl, l166⟩
                  refine ⟨_, rfl, ?_⟩
                  replace b3 := blk_below b3 l166
                  replace b5 := blk_below b5 l166
                  replace R49 := Kd.R_below R49 l166
                  replace L := below_step L l166
                  replace K := below_step K l166
                  refine E.GL.run rfl rfl rfl (E.Runs.assign rfl rfl) ?_
                  refine E.GL.done ?_
                  refine E.QG.code ?_
                  refine E.CG.ret ?_
                  refine E.QG.block_ret ?_
                  refine E.QG.pass_ret ?_
                  refine E.QG.pass_ret ?_
                  refine E.QG.block_ret ?_
                  refine E.QG.pass_ret ?_
                  exact E.QG.result rfl rfl ⟨rfl, L⟩
                · refine E.GQ.run rfl rfl rfl (E.Runs.pick_f rfl rfl rfl) ?_
                  refine E.GQ.doneB fun v22 lD => ?_
                  replace b3 := blk_below b3 lD
                  replace b5 := blk_below b5 lD
                  replace R49 := Kd.R_below R49 lD
                  replace L := below_step L lD
                  replace K := below_step K lD
                  have lD22 := lD
                  clear lD
                  refine E.QG.code ?_
                  refine E.CG.cond_f rfl ?_
                  refine E.CG.skip ?_
                  refine E.QG.block_normal ?_
                  refine E.QG.code ?_
                  refine E.CG.list ?_
                  refine E.GL.run rfl rfl rfl (E.Runs.move rfl rfl) ?_
                  refine E.GL.run rfl rfl rfl (E.Runs.add rfl rfl rfl (IntWalk.i64_in _ (by omega))) ?_
                  refine E.GL.run rfl rfl rfl (E.Runs.assign rfl rfl) ?_
                  refine E.GL.done ?_
                  exact E.QG.round (j + 1) (E.subc rfl (E.subc rfl (E.subc rfl (E.subc rfl (E.subc rfl (E.subc rfl E.subn)))))) ⟨by omega, all_more hall hx ⟨by omega, by omega⟩, K⟩ (by omega)
            · have hall2 := all_done hall (show V.ds.length ≤ j by omega)
              refine E.GL.done ?_
              refine E.QG.code ?_
              refine E.CG.cond_f rfl ?_
              refine E.CG.exit ?_
              refine E.QG.pass_exit ?_
              refine E.QG.pass_exit ?_
              refine E.QG.block_here ?_
              refine E.QG.code ?_
              refine E.CG.seq ?_
              refine E.CG.seq ?_
              refine E.CG.list ?_
              refine E.GL.run rfl rfl rfl (E.Runs.fieldAddr rfl rfl hu53 rfl (by assumption) rfl) ?_
              refine E.GL.run rfl rfl rfl (E.Runs.load rfl rfl hu3 (by first | assumption | exact E.blkc (by assumption) rfl | exact pw_cell_below L (by assumption) | exact pw_cell_below K (by assumption))) ?_
              refine E.GL.run rfl rfl rfl (E.Runs.fieldAddr rfl rfl hu26 rfl (by assumption) rfl) ?_
              refine E.GL.run rfl rfl rfl (E.Runs.load rfl rfl hu3 (by first | assumption | exact E.blkc (by assumption) rfl | exact pw_cell_below L (by assumption) | exact pw_cell_below K (by assumption))) ?_
              refine E.GL.cmp rfl rfl rfl (fun _ h => (E.Runs.geq rfl rfl rfl h)) (fun h171 => ?_) (fun h171 => ?_)
              · refine E.GL.run rfl rfl rfl (E.Runs.move rfl rfl) ?_
                refine E.GL.skip rfl rfl rfl ?_
                refine E.GL.skip rfl rfl rfl ?_
                refine E.GL.skip rfl rfl rfl ?_
                refine E.GL.skip rfl rfl rfl ?_
                refine E.GL.skip rfl rfl rfl ?_
                refine E.GL.run rfl rfl rfl (E.Runs.pick_t rfl rfl rfl) ?_
                refine E.GL.done ?_
                refine E.QG.code ?_
                refine E.CG.cond_t rfl ?_
                refine E.CG.seq ?_
                refine E.CG.list ?_
                refine E.GL.st rfl rfl rfl (E.ST.call rfl ent13 E.evn ((works_calls _).mono ?_))
                rintro e w179 ⟨rfl, l179⟩
                refine ⟨_, rfl, ?_⟩
                replace b3 := blk_below b3 l179
                replace b5 := blk_below b5 l179
                replace R49 := Kd.R_below R49 l179
                replace L := below_step L l179
                replace K := below_step K l179
                refine E.GL.run rfl rfl rfl (E.Runs.assign rfl rfl) ?_
                refine E.GL.done ?_
                refine E.QG.code ?_
                refine E.CG.ret ?_
                refine E.QG.pass_ret ?_
                exact E.QG.result rfl rfl ⟨rfl, L⟩
              · refine E.GL.run rfl rfl rfl (E.Runs.move rfl rfl) ?_
                refine E.GL.run rfl rfl rfl (E.Runs.fieldAddr rfl rfl hu53 rfl (by assumption) rfl) ?_
                refine E.GL.run rfl rfl rfl (E.Runs.load rfl rfl hu3 (by first | assumption | exact E.blkc (by assumption) rfl | exact pw_cell_below L (by assumption) | exact pw_cell_below K (by assumption))) ?_
                refine E.GL.run rfl rfl rfl (E.Runs.fieldAddr rfl rfl hu26 rfl (by assumption) rfl) ?_
                refine E.GL.run rfl rfl rfl (E.Runs.load rfl rfl hu3 (by first | assumption | exact E.blkc (by assumption) rfl | exact pw_cell_below L (by assumption) | exact pw_cell_below K (by assumption))) ?_
                refine E.GL.cmp rfl rfl rfl (fun _ h => (E.Runs.geq rfl rfl rfl h)) (fun h177 => ?_) (fun h177 => ?_)
                · refine E.GL.run rfl rfl rfl (E.Runs.pick_f rfl rfl rfl) ?_
                  refine E.GL.done ?_
                  refine E.QG.code ?_
                  refine E.CG.cond_t rfl ?_
                  refine E.CG.seq ?_
                  refine E.CG.list ?_
                  refine E.GL.st rfl rfl rfl (E.ST.call rfl ent13 E.evn ((works_calls _).mono ?_))
                  rintro e w179 ⟨rfl, l179⟩
                  refine ⟨_, rfl, ?_⟩
                  replace b3 := blk_below b3 l179
                  replace b5 := blk_below b5 l179
                  replace R49 := Kd.R_below R49 l179
                  replace L := below_step L l179
                  replace K := below_step K l179
                  refine E.GL.run rfl rfl rfl (E.Runs.assign rfl rfl) ?_
                  refine E.GL.done ?_
                  refine E.QG.code ?_
                  refine E.CG.ret ?_
                  refine E.QG.pass_ret ?_
                  exact E.QG.result rfl rfl ⟨rfl, L⟩
                · obtain ⟨a, rfl⟩ : ∃ a : Nat, x0 = a := ⟨x0.toNat, by omega⟩
                  obtain ⟨b, rfl⟩ : ∃ b : Nat, x1 = b := ⟨x1.toNat, by omega⟩
                  have hab : a < V.d.toNat := by omega
                  have hbb : b < V.d.toNat := by omega
                  have hds : ∀ x ∈ V.ds, DSy V (sw a b) x := fun x hx => dsy_days hd1 hab hbb (hall2 x hx).1 (hall2 x hx).2
                  refine E.GL.run rfl rfl rfl (E.Runs.pick_f rfl rfl rfl) ?_
                  refine E.GL.done ?_
                  refine E.QG.code ?_
                  refine E.CG.cond_f rfl ?_
                  refine E.CG.skip ?_
                  refine E.QG.code ?_
                  refine E.CG.seq ?_
                  refine E.CG.list ?_
                  refine E.GL.st rfl rfl rfl (E.ST.litAt kI w55.heap.size (w0 := w55) (ys := ([] : List Int)) (inner := []) rfl rfl E.epn lit22n (Reps.none _ _) K K.size (by simp) fun u180 w180 r180 k180 l180 n180 => ?_)
                  replace K := k180
                  refine E.GL.run rfl rfl rfl (E.Runs.move rfl rfl) ?_
                  refine E.GL.st rfl rfl rfl (E.ST.appendRows kI w55.heap.size (w0 := w55) (s := .tmp 180) (x := .tmp 181) rfl hu22 info3 rfl (by decide) (by decide) rfl rfl r180 (Kd.C_below hp (below_step Lw K)) made22 K K.size (by simp only [List.length_nil]; omega) fun u182 w182 RO k182 g182 => ?_)
                  rw [List.nil_append] at RO
                  replace K := k182
                  obtain ⟨gO, cO, hvO, hgO, _, _⟩ := Kd.R_form RO (by omega)
                  subst hvO
                  have b3 := blk_below b3w K
                  have b5 := blk_below b5w K
                  have R49 := Kd.R_below R49w K
                  have L := below_step Lw K
                  refine E.GL.run rfl rfl rfl (E.Runs.assign rfl rfl) ?_
                  refine E.GL.done ?_
                  refine E.QG.code ?_
                  refine E.CG.seq ?_
                  refine E.CG.seq ?_
                  refine E.CG.list ?_
                  refine E.GL.run rfl rfl rfl (E.Runs.assign rfl rfl) ?_
                  refine E.GL.done ?_
                  refine E.QG.code ?_
                  refine E.CG.block ?_
                  have s28_b3 := b3
                  have s28_b5 := b5
                  have s28_L := L
                  have s28_K := K
                  refine E.CG.loop2 (fun (i : Nat) (o : List Int) => [(1, .slice A p.length c), (3, .pointer (some ⟨g3, 0, none⟩)), (5, .pointer (some ⟨g5, 0, none⟩)), (7, .slice A49 (brA V p).length c49), (9, .int .i64 (tkA V p)), (17, .slice (some ⟨gO, 0, none⟩) p.length cO), (18, .int .i64 (i : Int))]) (fun i o w' => i ≤ V.rs.length ∧ Kd.R kI 3 w' w55.heap.size (fun _ => True) (.slice (some ⟨gO, 0, none⟩) p.length cO) o ∧ Fl V (sw a b) (fun i => i) (PD i 0) p o ∧ Below w55.heap.size w55 w') (fun i o => V.rs.length - i) 0 p (E.subc rfl (E.subc rfl (E.subc rfl (E.subc rfl (E.subc rfl (E.subc rfl (E.subc rfl E.subn))))))) ⟨Nat.zero_le _, RO, Fl.start (fun _ _ _ q => by unfold PD at q; omega), K⟩ ?_
                  rintro i o w28 ⟨hi, RO, hF, K⟩
                  have b3 := blk_below b3w K
                  have b5 := blk_below b5w K
                  have R49 := Kd.R_below R49w K
                  have L := below_step Lw K
                  refine E.CG.seq ?_
                  refine E.CG.seq ?_
                  refine E.CG.list ?_
                  refine E.GL.run rfl rfl rfl (E.Runs.move rfl rfl) ?_
                  refine E.GL.run rfl rfl rfl (E.Runs.fieldAddr rfl rfl hu26 rfl (by assumption) rfl) ?_
                  refine E.GL.run rfl rfl rfl (E.Runs.load1 rfl rfl hu22 rfl (by first | assumption | exact E.blkc (by assumption) rfl | exact pw_cell_below L (by assumption) | exact pw_cell_below K (by assumption))) ?_
                  refine E.GL.run rfl rfl rfl (E.Runs.len rfl rfl hu22) ?_
                  refine E.GL.cmp rfl rfl rfl (fun _ h => (E.Runs.lss rfl rfl rfl h)) (fun h187 => ?_) (fun h187 => ?_)
                  · refine E.GL.done ?_
                    refine E.QG.code ?_
                    refine E.CG.cond_t rfl ?_
                    refine E.CG.skip ?_
                    refine E.QG.code ?_
                    refine E.CG.seq ?_
                    refine E.CG.block ?_
                    refine E.CG.seq ?_
                    refine E.CG.list ?_
                    refine E.GL.run rfl rfl rfl (E.Runs.assign rfl rfl) ?_
                    refine E.GL.done ?_
                    refine E.QG.code ?_
                    refine E.CG.block ?_
                    have s31_b3 := b3
                    have s31_b5 := b5
                    have s31_L := L
                    have s31_K := K
                    refine E.CG.loop2 (fun (k : Nat) (o : List Int) => [(1, .slice A p.length c), (3, .pointer (some ⟨g3, 0, none⟩)), (5, .pointer (some ⟨g5, 0, none⟩)), (7, .slice A49 (brA V p).length c49), (9, .int .i64 (tkA V p)), (17, .slice (some ⟨gO, 0, none⟩) p.length cO), (18, .int .i64 (i : Int)), (19, .int .i64 (k : Int))]) (fun k o w' => k ≤ V.h.toNat ∧ Kd.R kI 3 w' w55.heap.size (fun _ => True) (.slice (some ⟨gO, 0, none⟩) p.length cO) o ∧ Fl V (sw a b) (fun i => i) (PD i k) p o ∧ Below w55.heap.size w55 w') (fun k o => V.h.toNat - k) 0 o (E.subc rfl (E.subc rfl (E.subc rfl (E.subc rfl (E.subc rfl (E.subc rfl (E.subc rfl (E.subc rfl E.subn)))))))) ⟨Nat.zero_le _, RO, hF, K⟩ ?_
                    rintro k o w31 ⟨hk, RO, hF, K⟩
                    have b3 := blk_below b3w K
                    have b5 := blk_below b5w K
                    have R49 := Kd.R_below R49w K
                    have L := below_step Lw K
                    refine E.CG.seq ?_
                    refine E.CG.seq ?_
                    refine E.CG.list ?_
                    refine E.GL.run rfl rfl rfl (E.Runs.move rfl rfl) ?_
                    refine E.GL.run rfl rfl rfl (E.Runs.fieldAddr rfl rfl hu26 rfl (by assumption) rfl) ?_
                    refine E.GL.run rfl rfl rfl (E.Runs.load rfl rfl hu3 (by first | assumption | exact E.blkc (by assumption) rfl | exact pw_cell_below L (by assumption) | exact pw_cell_below K (by assumption))) ?_
                    refine E.GL.cmp rfl rfl rfl (fun _ h => (E.Runs.lss rfl rfl rfl h)) (fun h193 => ?_) (fun h193 => ?_)
                    · have hs1 := slN_lt (V := V) (day := a) (r := i) (h := k) hab (by omega) (by omega)
                      have hs2 := slN_lt (V := V) (day := b) (r := i) (h := k) hbb (by omega) (by omega)
                      refine E.GL.done ?_
                      refine E.QG.code ?_
                      refine E.CG.cond_t rfl ?_
                      refine E.CG.skip ?_
                      refine E.QG.code ?_
                      refine E.CG.seq ?_
                      refine E.CG.block ?_
                      refine E.CG.seq ?_
                      refine E.CG.heldH (none) (by kernel_rfl) fun v33 lD hh => ?_
                      replace b3 := blk_below b3 lD
                      replace b5 := blk_below b5 lD
                      replace R49 := Kd.R_below R49 lD
                      replace RO := Kd.R_below RO lD
                      replace L := below_step L lD
                      replace K := below_step K lD
                      clear lD
                      have s_b3 := b3
                      have s_b5 := b5
                      have s_L := L
                      have s_K := K
                      refine E.GH.take (i := 0) rfl (by kernel_rfl) (by kernel_rfl) (by kernel_rfl) (by intro c a d v w h; first | (cases d <;> exact h) | exact nomatch (show _ ∧ _ from h).1) rfl rfl rfl (fun w' hS => (E.Runs.loads (cs := [.int .i64 V.d, .slice m.A V.rs.length m.a, .int .i64 V.h, .slice m.B V.fs.length m.b, .slice m.C V.ds.length m.c]) rfl rfl hu26 rfl info26s (blk_cells (blk_grown s_b3 hS E.nen)))) ?_
                      refine E.GH.take (i := 1) rfl (by kernel_rfl) (by kernel_rfl) (by kernel_rfl) (by intro c a d v w h; first | (cases d <;> exact h) | exact nomatch (show _ ∧ _ from h).1) rfl rfl rfl (fun w' hS => (E.Runs.fieldAddr rfl rfl hu53 rfl (by assumption) rfl)) ?_
                      refine E.GH.take (i := 2) rfl (by kernel_rfl) (by kernel_rfl) (by kernel_rfl) (by intro c a d v w h; first | (cases d <;> exact h) | exact nomatch (show _ ∧ _ from h).1) rfl rfl rfl (fun w' hS => (E.Runs.load rfl rfl hu3 (by first | exact E.keeps hS (E.blkc (by assumption) rfl) (by first | exact E.nen | exact E.nes (by assumption) | exact E.nes (Ne.symm (by assumption))) | exact pw_cell_below (below_step s_L (E.belowG hS)) (by assumption) | exact pw_cell_below (below_step s_K (E.belowG hS)) (by assumption)))) ?_
                      refine E.GH.take (i := 3) rfl (by kernel_rfl) (by kernel_rfl) (by kernel_rfl) (by intro c a d v w h; first | (cases d <;> exact h) | exact nomatch (show _ ∧ _ from h).1) rfl rfl rfl (fun w' hS => (E.Runs.move rfl rfl)) ?_
                      refine E.GH.take (i := 4) rfl (by kernel_rfl) (by kernel_rfl) (by kernel_rfl) (by intro c a d v w h; first | (cases d <;> exact h) | exact nomatch (show _ ∧ _ from h).1) rfl rfl rfl (fun w' hS => (E.Runs.move rfl rfl)) ?_
                      refine E.GH.take (i := 6) rfl (by kernel_rfl) (by kernel_rfl) (by kernel_rfl) (by intro c a d v w h; first | (cases d <;> exact h) | exact nomatch (show _ ∧ _ from h).1) rfl rfl rfl (fun w' hS => (E.Runs.loads (cs := [.int .i64 V.d, .slice m.A V.rs.length m.a, .int .i64 V.h, .slice m.B V.fs.length m.b, .slice m.C V.ds.length m.c]) rfl rfl hu26 rfl info26s (blk_cells (blk_grown s_b3 hS E.nen)))) ?_
                      refine E.GH.take (i := 7) rfl (by kernel_rfl) (by kernel_rfl) (by kernel_rfl) (by intro c a d v w h; first | (cases d <;> exact h) | exact nomatch (show _ ∧ _ from h).1) rfl rfl rfl (fun w' hS => (E.Runs.fieldAddr rfl rfl hu53 rfl (by assumption) rfl)) ?_
                      refine E.GH.take (i := 8) rfl (by kernel_rfl) (by kernel_rfl) (by kernel_rfl) (by intro c a d v w h; first | (cases d <;> exact h) | exact nomatch (show _ ∧ _ from h).1) rfl rfl rfl (fun w' hS => (E.Runs.load rfl rfl hu3 (by first | exact E.keeps hS (E.blkc (by assumption) rfl) (by first | exact E.nen | exact E.nes (by assumption) | exact E.nes (Ne.symm (by assumption))) | exact pw_cell_below (below_step s_L (E.belowG hS)) (by assumption) | exact pw_cell_below (below_step s_K (E.belowG hS)) (by assumption)))) ?_
                      refine E.GH.take (i := 9) rfl (by kernel_rfl) (by kernel_rfl) (by kernel_rfl) (by intro c a d v w h; first | (cases d <;> exact h) | exact nomatch (show _ ∧ _ from h).1) rfl rfl rfl (fun w' hS => (E.Runs.move rfl rfl)) ?_
                      refine E.GH.take (i := 10) rfl (by kernel_rfl) (by kernel_rfl) (by kernel_rfl) (by intro c a d v w h; first | (cases d <;> exact h) | exact nomatch (show _ ∧ _ from h).1) rfl rfl rfl (fun w' hS => (E.Runs.move rfl rfl)) ?_
                      refine E.GH.one (i := 5) (by kernel_rfl) rfl ?_
                      refine E.GO.st rfl rfl rfl (E.ST.call rfl ent33 (E.evc rfl (E.evc rfl (E.evc rfl (E.evc rfl E.evn)))) ((slot_r V m a i k _ ok.s (by omega) (by omega) (by omega)).mono ?_))
                      rintro e w201 ⟨rfl, l201⟩
                      refine ⟨_, rfl, hh.trans (E.gbB l201), ?_⟩
                      replace hh := hh.trans (E.gbB l201)
                      replace b3 := blk_below b3 l201
                      replace b5 := blk_below b5 l201
                      replace R49 := Kd.R_below R49 l201
                      replace RO := Kd.R_below RO l201
                      replace L := below_step L l201
                      replace K := below_step K l201
                      refine E.GH.one (i := 11) (by kernel_rfl) rfl ?_
                      refine E.GO.st rfl rfl rfl (E.ST.call rfl ent33 (E.evc rfl (E.evc rfl (E.evc rfl (E.evc rfl E.evn)))) ((slot_r V m b i k _ ok.s (by omega) (by omega) (by omega)).mono ?_))
                      rintro e w207 ⟨rfl, l207⟩
                      refine ⟨_, rfl, hh.trans (E.gbB l207), ?_⟩
                      replace hh := hh.trans (E.gbB l207)
                      replace b3 := blk_below b3 l207
                      replace b5 := blk_below b5 l207
                      replace R49 := Kd.R_below R49 l207
                      replace RO := Kd.R_below RO l207
                      replace L := below_step L l207
                      replace K := below_step K l207
                      refine E.GH.take (i := 12) rfl (by kernel_rfl) (by kernel_rfl) (by kernel_rfl) (by intro c a d v w h; first | (cases d <;> exact h) | exact nomatch (show _ ∧ _ from h).1) rfl rfl rfl (fun w' hS => (E.Runs.assign rfl rfl)) ?_
                      refine E.GH.take (i := 13) rfl (by kernel_rfl) (by kernel_rfl) (by kernel_rfl) (by intro c a d v w h; first | (cases d <;> exact h) | exact nomatch (show _ ∧ _ from h).1) rfl rfl rfl (fun w' hS => (E.Runs.assign rfl rfl)) ?_
                      refine E.GH.done (by kernel_rfl) ?_
                      refine E.QG.code ?_
                      refine E.CG.heldJ 13 (fun v W => v.grownBy W (none)) (fun v W => v.grownBy W (some gO)) (by kernel_rfl) (by kernel_rfl) (fun v => World.grownBy.refl _ _) fun v34 lD => ?_
                      replace b3 := blk_below b3 lD
                      replace b5 := blk_below b5 lD
                      replace R49 := Kd.R_below R49 lD
                      replace RO := Kd.R_below RO lD
                      replace L := below_step L lD
                      replace K := below_step K lD
                      have lD34 := lD
                      clear lD
                      have hol := hF.len
                      obtain ⟨y1, hy1⟩ := get_ex (show (slN V a i k) < p.length by omega)
                      obtain ⟨y2, hy2⟩ := get_ex (show (slN V b i k) < p.length by omega)
                      obtain ⟨ad1, eA1, X1⟩ := int_at hp hy1
                      obtain ⟨ad2, eA2, X2⟩ := int_at hp hy2
                      obtain ⟨old1, hc1, hf1, hs1⟩ := int_own RO (i := (slN V a i k)) (by omega)
                      obtain ⟨RO1, gO1⟩ := hs1 y2
                      have s_b3 := b3
                      have s_b5 := b5
                      have s_L := L
                      have s_K := K
                      refine E.GJ.take1 (i := 0) rfl (by kernel_rfl) (by kernel_rfl) (by kernel_rfl) (by kernel_rfl) rfl (by kernel_rfl) (by kernel_rfl) (by intro c a d v w h; first | (cases d <;> exact h) | exact nomatch (show _ ∧ _ from h).1) rfl rfl rfl (fun w' hS => (E.Runs.move rfl rfl)) ?_
                      refine E.GJ.take1 (i := 1) rfl (by kernel_rfl) (by kernel_rfl) (by kernel_rfl) (by kernel_rfl) rfl (by kernel_rfl) (by kernel_rfl) (by intro c a d v w h; first | (cases d <;> exact h) | exact nomatch (show _ ∧ _ from h).1) rfl rfl rfl (fun w' hS => (E.Runs.move rfl rfl)) ?_
                      refine E.GJ.take2 (i := 2) rfl (by kernel_rfl) (by kernel_rfl) (by kernel_rfl) (by kernel_rfl) (by intro c a d v w h; first | (cases d <;> exact h) | exact nomatch (show _ ∧ _ from h).1) rfl rfl rfl (fun w' hS => (E.Runs.move rfl rfl)) ?_
                      refine E.GJ.take2 (i := 3) rfl (by kernel_rfl) (by kernel_rfl) (by kernel_rfl) (by kernel_rfl) (by intro c a d v w h; first | (cases d <;> exact h) | exact nomatch (show _ ∧ _ from h).1) rfl rfl rfl (fun w' hS => (E.Runs.move rfl rfl)) ?_
                      refine E.GJ.take1 (i := 4) rfl (by kernel_rfl) (by kernel_rfl) (by kernel_rfl) (by kernel_rfl) rfl (by kernel_rfl) (by kernel_rfl) (by intro c a d v w h; first | (cases d <;> exact h) | exact nomatch (show _ ∧ _ from h).1) rfl rfl rfl (fun w' hS => (E.Runs.move rfl rfl)) ?_
                      refine E.GJ.take1 (i := 5) rfl (by kernel_rfl) (by kernel_rfl) (by kernel_rfl) (by kernel_rfl) rfl (by kernel_rfl) (by kernel_rfl) (by intro c a d v w h; first | (cases d <;> exact h) | exact nomatch (show _ ∧ _ from h).1) rfl rfl rfl (fun w' hS => (E.Runs.move rfl rfl)) ?_
                      refine E.GJ.take1 (i := 6) rfl (by kernel_rfl) (by kernel_rfl) (by kernel_rfl) (by kernel_rfl) rfl (by kernel_rfl) (by kernel_rfl) (by intro c a d v w h; first | (cases d <;> exact h) | exact nomatch (show _ ∧ _ from h).1) rfl rfl rfl (fun w' hS => (E.Runs.indexAddrA (i := (slN V b i k)) rfl rfl rfl hu22 z3 o3 (by omega) eA2 rfl)) ?_
                      refine E.GJ.take1 (i := 7) rfl (by kernel_rfl) (by kernel_rfl) (by kernel_rfl) (by kernel_rfl) rfl (by kernel_rfl) (by kernel_rfl) (by intro c a d v w h; first | (cases d <;> exact h) | exact nomatch (show _ ∧ _ from h).1) rfl rfl rfl (fun w' hS => (E.Runs.load rfl rfl hu3 (by first | exact pw_cell_below (below_step s_L (E.belowG hS)) X2 | exact pw_cell_below (hS.elim (fun q => below_step s_L (E.belowG q)) (fun q => E.below_own s_L (Nat.le_trans Lw.size hgO) q)) X2 | fail))) ?_
                      refine E.GJ.take2 (i := 8) rfl (by kernel_rfl) (by kernel_rfl) (by kernel_rfl) (by kernel_rfl) (by intro c a d v w h; first | (cases d <;> exact h) | exact nomatch (show _ ∧ _ from h).1) rfl rfl rfl (fun w' hS => (E.Runs.move rfl rfl)) ?_
                      refine E.GJ.take2 (i := 9) rfl (by kernel_rfl) (by kernel_rfl) (by kernel_rfl) (by kernel_rfl) (by intro c a d v w h; first | (cases d <;> exact h) | exact nomatch (show _ ∧ _ from h).1) rfl rfl rfl (fun w' hS => (E.Runs.move rfl rfl)) ?_
                      refine E.GJ.take2 (i := 10) rfl (by kernel_rfl) (by kernel_rfl) (by kernel_rfl) (by kernel_rfl) (by intro c a d v w h; first | (cases d <;> exact h) | exact nomatch (show _ ∧ _ from h).1) rfl rfl rfl (fun w' hS => (E.Runs.indexAddrA (i := (slN V a i k)) rfl rfl rfl hu22 z3 o3 (by omega) eA1 rfl)) ?_
                      refine E.GJ.take1 (i := 11) rfl (by kernel_rfl) (by kernel_rfl) (by kernel_rfl) (by kernel_rfl) rfl (by kernel_rfl) (by kernel_rfl) (by intro c a d v w h; first | (cases d <;> exact h) | exact nomatch (show _ ∧ _ from h).1) rfl rfl rfl (fun w' hS => (E.Runs.load rfl rfl hu3 (by first | exact pw_cell_below (below_step s_L (E.belowG hS)) X1 | exact pw_cell_below (hS.elim (fun q => below_step s_L (E.belowG q)) (fun q => E.below_own s_L (Nat.le_trans Lw.size hgO) q)) X1 | fail))) ?_
                      refine E.GJ.take1 (i := 12) rfl (by kernel_rfl) (by kernel_rfl) (by kernel_rfl) (by kernel_rfl) rfl (by kernel_rfl) (by kernel_rfl) (by intro c a d v w h; first | (cases d <;> exact h) | exact nomatch (show _ ∧ _ from h).1) rfl rfl rfl (fun w' hS => (E.Runs.indexAddrA (i := (slN V a i k)) rfl rfl rfl hu22 z3 o3 (by omega) rfl (show _ = (⟨gO, (slN V a i k), none⟩ : Addr) from by rw [Go.Addr.add_mid, Nat.zero_add, Nat.mul_one]))) ?_
                      refine E.GJ.one (i := 13) (by kernel_rfl) (E.OJ.sn rfl rfl rfl (E.ST.storeN (old := old1) (off := (slN V a i k)) rfl z3 o3 rfl rfl hc1 hf1 ⟨(E.SJ.behind (by kernel_rfl)).mpr gO1, ?_⟩))
                      replace K := E.below_own K hgO gO1
                      have b3 := blk_below b3w K
                      have b5 := blk_below b5w K
                      have R49 := Kd.R_below R49w K
                      have L := below_step Lw K
                      obtain ⟨old2, hc2, hf2, hs2⟩ := int_own RO1 (i := (slN V b i k)) (by rw [List.length_set]; omega)
                      obtain ⟨RO2, gO2⟩ := hs2 y1
                      refine E.GJ.one (i := 14) (by kernel_rfl) (E.OJ.st rfl rfl rfl rfl (E.ST.reads (E.Runs.indexAddrA (i := (slN V b i k)) rfl rfl rfl hu22 z3 o3 (by omega) rfl (show _ = (⟨gO, (slN V b i k), none⟩ : Addr) from by rw [Go.Addr.add_mid, Nat.zero_add, Nat.mul_one])) ⟨(E.SJ.behind (by kernel_rfl)).mpr gO1, ?_⟩))
                      refine E.GJ.one (i := 15) (by kernel_rfl) (E.OJ.sn rfl rfl rfl (E.ST.storeN (old := old2) (off := (slN V b i k)) rfl z3 o3 rfl rfl hc2 hf2 ⟨(E.SJ.behind (by kernel_rfl)).mpr (gO1.trans gO2), ?_⟩))
                      replace K := E.below_own K hgO gO2
                      have b3 := blk_below b3w K
                      have b5 := blk_below b5w K
                      have R49 := Kd.R_below R49w K
                      have L := below_step Lw K
                      have hF2 := fl_days hF hpl hab hbb (by omega) (by omega) hy1 hy2
                      refine E.GJ.done (by kernel_rfl) ?_
                      refine E.QG.block_normal ?_
                      refine E.QG.code ?_
                      refine E.CG.list ?_
                      refine E.GL.run rfl rfl rfl (E.Runs.move rfl rfl) ?_
                      refine E.GL.run rfl rfl rfl (E.Runs.add rfl rfl rfl (IntWalk.i64_in _ (by omega))) ?_
                      refine E.GL.run rfl rfl rfl (E.Runs.assign rfl rfl) ?_
                      refine E.GL.done ?_
                      exact E.QG.round2 (d := []) (k + 1) _ (E.subc rfl (E.subc rfl (E.subc rfl (E.subc rfl (E.subc rfl (E.subc rfl (E.subc rfl (E.subc rfl E.subn)))))))) ⟨by omega, RO2, hF2, K⟩ (by omega)
                    · have hF3 := hF.congr (P' := PD (i + 1) 0) (fun day r h _ _ q => by unfold PD; omega)
                      refine E.GL.done ?_
                      refine E.QG.code ?_
                      refine E.CG.cond_f rfl ?_
                      refine E.CG.exit ?_
                      refine E.QG.pass_exit ?_
                      refine E.QG.pass_exit ?_
                      refine E.QG.block_here ?_
                      refine E.QG.block_normal ?_
                      refine E.QG.code ?_
                      refine E.CG.list ?_
                      refine E.GL.run rfl rfl rfl (E.Runs.move rfl rfl) ?_
                      refine E.GL.run rfl rfl rfl (E.Runs.add rfl rfl rfl (IntWalk.i64_in _ (by omega))) ?_
                      refine E.GL.run rfl rfl rfl (E.Runs.assign rfl rfl) ?_
                      refine E.GL.done ?_
                      exact E.QG.round2 (d := []) (i + 1) _ (E.subc rfl (E.subc rfl (E.subc rfl (E.subc rfl (E.subc rfl (E.subc rfl (E.subc rfl E.subn))))))) ⟨by omega, RO, hF3, K⟩ (by omega)
                  · have hEx := hF.ex (fun day r h _ q1 _ => show PD i 0 day r h from .inl (by omega))
                    refine E.GL.done ?_
                    refine E.QG.code ?_
                    refine E.CG.cond_f rfl ?_
                    refine E.CG.exit ?_
                    refine E.QG.pass_exit ?_
                    refine E.QG.pass_exit ?_
                    refine E.QG.block_here ?_
                    refine E.QG.code ?_
                    refine E.CG.seq ?_
                    refine E.CG.list ?_
                    refine E.GL.run rfl rfl rfl (E.Runs.loads (cs := [.int .i64 V.d, .slice m.A V.rs.length m.a, .int .i64 V.h, .slice m.B V.fs.length m.b, .slice m.C V.ds.length m.c]) rfl rfl hu26 rfl info26s (blk_cells b3)) ?_
                    refine E.GL.run rfl rfl rfl (E.Runs.move rfl rfl) ?_
                    refine E.GL.run rfl rfl rfl (E.Runs.move rfl rfl) ?_
                    refine E.GL.run rfl rfl rfl (E.Runs.move rfl rfl) ?_
                    refine E.GL.st rfl rfl rfl (E.ST.call rfl ent34 (E.evc rfl (E.evc rfl (E.evc rfl (E.evc rfl E.evn)))) ((kept_ex (hV.below L) hs ok h32 hF.len (Kd.R_reads' RO).2.2 (Kd.R_reads' R49).2.2 (sy_days hab hbb) hEx hds).mono ?_))
                    rintro e w226 ⟨rfl, l226⟩
                    refine ⟨_, rfl, ?_⟩
                    replace b3 := blk_below b3 l226
                    replace b5 := blk_below b5 l226
                    replace R49 := Kd.R_below R49 l226
                    replace RO := Kd.R_below RO l226
                    replace L := below_step L l226
                    replace K := below_step K l226
                    refine E.GL.run rfl rfl rfl (E.Runs.move rfl rfl) ?_
                    refine E.GL.st rfl rfl rfl (E.ST.call rfl ent13 E.evn ((works_calls _).mono ?_))
                    rintro e w228 ⟨rfl, l228⟩
                    refine ⟨_, rfl, ?_⟩
                    replace b3 := blk_below b3 l228
                    replace b5 := blk_below b5 l228
                    replace R49 := Kd.R_below R49 l228
                    replace RO := Kd.R_below RO l228
                    replace L := below_step L l228
                    replace K := below_step K l228
                    refine E.GL.run rfl rfl rfl (E.Runs.pick_t rfl rfl rfl) ?_
                    refine E.GL.run rfl rfl rfl (E.Runs.assign rfl rfl) ?_
                    refine E.GL.done ?_
                    refine E.QG.code ?_
                    refine E.CG.ret ?_
                    exact E.QG.result rfl rfl ⟨rfl, L⟩
      · refine E.GL.st rfl rfl rfl (E.ST.call rfl ent24 (E.evc rfl (E.evc rfl E.evn)) ((isProgram_any V m p A c _ (hV.below L) hs (Kd.C_below hp L) hpm ok.s false (iff_of_false Bool.false_ne_true h32)).mono ?_))
        rintro e w32 ⟨rfl, l32⟩
        refine ⟨_, rfl, ?_⟩
        replace b3 := blk_below b3 l32
        replace b5 := blk_below b5 l32
        replace L := below_step L l32
        refine E.GL.run rfl rfl rfl (E.Runs.not rfl rfl) ?_
        refine E.GL.run rfl rfl rfl (E.Runs.pick_f rfl rfl rfl) ?_
        refine E.GL.run rfl rfl rfl (E.Runs.move rfl rfl) ?_
        refine E.GL.skip rfl rfl rfl ?_
        refine E.GL.skip rfl rfl rfl ?_
        refine E.GL.skip rfl rfl rfl ?_
        refine E.GL.run rfl rfl rfl (E.Runs.pick_t rfl rfl rfl) ?_
        refine E.GL.run rfl rfl rfl (E.Runs.move rfl rfl) ?_
        refine E.GL.skip rfl rfl rfl ?_
        refine E.GL.skip rfl rfl rfl ?_
        refine E.GL.skip rfl rfl rfl ?_
        refine E.GL.run rfl rfl rfl (E.Runs.pick_t rfl rfl rfl) ?_
        refine E.GL.done ?_
        refine E.QG.code ?_
        refine E.CG.cond_t rfl ?_
        refine E.CG.seq ?_
        refine E.CG.list ?_
        refine E.GL.st rfl rfl rfl (E.ST.call rfl ent13 E.evn ((works_calls _).mono ?_))
        rintro e w45 ⟨rfl, l45⟩
        refine ⟨_, rfl, ?_⟩
        replace b3 := blk_below b3 l45
        replace b5 := blk_below b5 l45
        replace L := below_step L l45
        refine E.GL.run rfl rfl rfl (E.Runs.assign rfl rfl) ?_
        refine E.GL.done ?_
        refine E.QG.code ?_
        refine E.CG.ret ?_
        refine E.QG.pass_ret ?_
        exact E.QG.result rfl rfl ⟨rfl, L⟩

end Go.Proofs.Ytdiambcjghlffaa.T
