/- Texts of this claim, put together: A25, N15, A26, A27, N11, N12, N16, B4, O1. -/
import Derived.Test.YtmnjlnkfihklgaaG4
import Derived.Test.YtmnjlnkfihklgaaRows
import Derived.ProofKit
import Derived.OpenShut
import Derived.ChangeOld
import Derived.SizedLaws
import Derived.Deep.Slices
namespace Go.Proofs.Ytmnjlnkfihklgaa.T
open Go.RowKit Go.Proofs.YtmnjlnkfihklgaaW.PrintWords Go.Proofs.YtmnjlnkfihklgaaW.PrintMore
open Go.Proofs.Ytmnjlnkfihklgaa.P
set_option linter.unusedVariables false
set_option linter.unusedSimpArgs false

theorem isPl_all' {ps : List Int} {qs : List S45} {T : Nat} {l : List S35} (h : IsPl ps qs T l) : ∀ x ∈ l, MvOk qs T x := fun x hx => by
  obtain ⟨i, hi⟩ := List.mem_iff_getElem?.mp hx
  exact (h.mv i x hi).1

/-- Up to a later minute there are no fewer. -/
theorem sumN_more {a : Nat → Int} (h : ∀ k, 0 ≤ a k) {n : Nat} : ∀ {m}, n ≤ m → sumN a n ≤ sumN a m
  | 0, hm => by rw [show n = 0 by omega]; exact Int.le_refl _
  | m + 1, hm => by
    by_cases e : n = m + 1
    · rw [e]; exact Int.le_refl _
    · have h1 := sumN_more h (n := n) (m := m) (by omega)
      have h2 := h m
      simp only [sumN]
      omega
theorem bound_later {ps : List Int} {qs : List S45} (h : HOk ps qs) {T V : Nat} (hTV : T ≤ V) (hr : Nat → Nat) : boundU ps qs T hr ≤ boundU ps qs V hr := by
  unfold boundU
  refine Int.add_le_add_left ?_ _
  unfold sumQ
  refine sumN_le fun i hi => sumN_more (fun k => ?_) (by omega)
  have := (h.q _ (getD_mem (z := z45) hi)).2.2.2.2.2.1
  dsimp only
  split
  · exact this
  · exact Int.le_refl _
theorem most_later {ps : List Int} {qs : List S45} (h : HOk ps qs) {T V : Nat} {N M : Int} (hTV : T ≤ V) (a : IsMost ps qs T N) (b : IsMost ps qs V M) : N ≤ M := by
  obtain ⟨⟨u, hu, eu⟩, _⟩ := a
  obtain ⟨_, hr, _, er⟩ := b
  have h1 := use_le h hu hr
  have h2 := bound_later h hTV hr
  omega
set_option maxRecDepth 100000 in
set_option maxHeartbeats 8000000 in

theorem mostF_calls (ps : List Int) (qs : List S45) (A B : Option Addr) (c d : Nat) (w : World) (hP : Kd.C kI w A ps.length ps) (hQ : Kd.C k45 w B qs.length qs) (hn1 : ps.length ≤ 1000000) (hn2 : qs.length ≤ 1000000) (m : Int) :
    Calls Try.prog 30 #[hv ps qs A B c d, .int .i64 m] w fun e w' => ∃ N, e = .returned (.tuple #[.int .i64 N, .int .i64 (chkE ps qs m)]) ∧ MostR ps qs m N ∧ Below w.heap.size w w' := by
  have hu3 := Try.underlying3
  have hu25 := Try.underlying25
  obtain ⟨z3, o3⟩ := info_some info3s (by decide)
  obtain ⟨z25, o25⟩ := info_some info25s (by decide)
  refine E.enter (N := 16) Try.func30 rfl Try.ntmps30 (args := [hv ps qs A B c d, .int .i64 m]) (by simp) ?_
  have L := Below.refl w.heap.size w
  refine E.CG.seq ?_
  refine E.CG.list ?_
  refine E.GL.st rfl rfl rfl (E.ST.box rfl rfl fun g2 w2 e2 b2 l2 => ?_)
  have h2_L : w.heap.size ≤ g2 := by rw [e2]; exact L.size
  replace L := below_step L l2
  refine E.GL.run rfl rfl rfl (E.Runs.assign rfl rfl) ?_
  refine E.GL.run rfl rfl rfl (E.Runs.assign rfl rfl) ?_
  refine E.GL.done ?_
  refine E.QG.code ?_
  refine E.CG.seq ?_
  refine E.CG.seq ?_
  refine E.CG.list ?_
  refine E.GL.run rfl rfl rfl (E.Runs.loads (cs := [.slice A ps.length c, .slice B qs.length d]) rfl rfl hu25 rfl info25s (blk_cells b2)) ?_
  refine E.GL.run rfl rfl rfl (E.Runs.move rfl rfl) ?_
  refine E.GL.st rfl rfl rfl (E.ST.call rfl ent48 (E.evc rfl (E.evc rfl E.evn)) ((chk48 ps qs A B c d _ (Kd.C_below hP L) (Kd.C_below hQ L) hn1 hn2 m).mono ?_))
  rintro e w9 ⟨rfl, l9⟩
  refine ⟨_, rfl, ?_⟩
  replace b2 := blk_below b2 l9
  replace L := below_step L l9
  refine E.GL.run rfl rfl rfl (E.Runs.assign rfl rfl) ?_
  refine E.GL.done ?_
  refine E.QG.code ?_
  refine E.CG.seq ?_
  refine E.CG.list ?_
  refine E.GL.run rfl rfl rfl (E.Runs.move rfl rfl) ?_
  refine E.GL.cmpn rfl rfl rfl (fun _ h => (E.Runs.neq rfl rfl rfl h)) (fun h11 => ?_) (fun h11 => ?_)
  · have hE0 : ¬ chkE ps qs m = 0 := h11
    refine E.GL.done ?_
    refine E.QG.code ?_
    refine E.CG.cond_t rfl ?_
    refine E.CG.seq ?_
    refine E.CG.list ?_
    refine E.GL.run rfl rfl rfl (E.Runs.move rfl rfl) ?_
    refine E.GL.run rfl rfl rfl (E.Runs.assign rfl rfl) ?_
    refine E.GL.run rfl rfl rfl (E.Runs.assign rfl rfl) ?_
    refine E.GL.done ?_
    refine E.QG.code ?_
    refine E.CG.ret ?_
    refine E.QG.pass_ret ?_
    exact E.QG.result2 rfl rfl rfl ⟨0, rfl, mostR_no hE0, L⟩
  · have hE0 := h11
    obtain ⟨hH, hm0, hm1⟩ := chkE_ok.mp h11
    obtain ⟨T, rfl⟩ : ∃ T : Nat, m = T := ⟨m.toNat, by omega⟩
    have hT : T ≤ 60 := by omega
    refine E.GL.done ?_
    refine E.QG.code ?_
    refine E.CG.cond_f rfl ?_
    refine E.CG.skip ?_
    refine E.QG.code ?_
    refine E.CG.seq ?_
    refine E.CG.list ?_
    refine E.GL.run rfl rfl rfl (E.Runs.loads (cs := [.slice A ps.length c, .slice B qs.length d]) rfl rfl hu25 rfl info25s (blk_cells b2)) ?_
    refine E.GL.run rfl rfl rfl (E.Runs.move rfl rfl) ?_
    refine E.GL.st rfl rfl rfl (E.ST.call rfl ent52 (E.evc rfl (E.evc rfl E.evn)) ((mostR_calls ps qs A B c d T _ hH hT (Kd.C_below hP L) (Kd.C_below hQ L)).mono ?_))
    rintro e w15 ⟨N, rfl, hN, l15⟩
    refine ⟨_, rfl, ?_⟩
    replace b2 := blk_below b2 l15
    replace L := below_step L l15
    refine E.GL.run rfl rfl rfl (E.Runs.assign rfl rfl) ?_
    refine E.GL.run rfl rfl rfl (E.Runs.assign rfl rfl) ?_
    refine E.GL.done ?_
    refine E.QG.code ?_
    refine E.CG.ret ?_
    exact E.QG.result2 rfl rfl rfl ⟨N, by rw [hE0], mostR_yes hE0 hN, L⟩

end Go.Proofs.Ytmnjlnkfihklgaa.T
namespace Go.Proofs.Ytmnjlnkfihklgaa.T
open Go.RowKit Go.Proofs.YtmnjlnkfihklgaaW.PrintWords Go.Proofs.YtmnjlnkfihklgaaW.PrintMore
open Go.Proofs.Ytmnjlnkfihklgaa.P
set_option linter.unusedVariables false
abbrev eP : List Int := [5, 4]
abbrev eQ : List S45 := [⟨0, 1, 2, 1⟩, ⟨0, -1, 1, 2⟩, ⟨1, -1, 3, 1⟩, ⟨1, 0, 1, 1⟩]
def uL : List (Nat × Nat × Int) → Nat → Nat → Int
  | [], _, _ => 0
  | (a, b, c) :: r, i, k => if a = i ∧ b = k then c else uL r i k
theorem use_of {ps : List Int} {qs : List S45} {T : Nat} {u : Nat → Nat → Int} (h : ∀ i, i < qs.length → ∀ k, k < T + 1 → k + (qs.getD i z45).f3.toNat < T + 1 → 0 ≤ u i k ∧ u i k ≤ (qs.getD i z45).f2) (h2 : ∀ r, r < ps.length → ∀ m, m < T + 1 → 0 ≤ thereU ps qs T u r m) : Use ps qs T u :=
  ⟨fun i k hi hk => h i hi k (by omega) hk, fun r m hr hm => h2 r hr m (by omega)⟩
def hrL (l : List Nat) (r : Nat) : Nat := l.getD r 0
theorem eOk : HOk eP eQ := by decide
set_option maxRecDepth 100000 in
theorem eMost2 : IsMost eP eQ 2 7 := ⟨⟨uL [(0, 0, 2), (1, 0, 1), (2, 0, 3), (2, 1, 3)], use_of (by decide) (by decide), by decide⟩, hrL [0, 0], by decide, by decide⟩
set_option maxRecDepth 100000 in
theorem eMost3 : IsMost eP eQ 3 9 := ⟨⟨uL [(0, 0, 2), (0, 1, 1), (1, 0, 1), (1, 1, 1), (2, 0, 3), (2, 1, 3), (2, 2, 1)], use_of (by decide) (by decide), by decide⟩, hrL [2, 3], by decide, by decide⟩
set_option maxRecDepth 100000 in
theorem eShut0 : IsMost eP (shutQ eQ 0) 3 6 := ⟨⟨uL [(1, 0, 1), (1, 1, 1), (2, 0, 3), (2, 1, 1)], use_of (by decide) (by decide), by decide⟩, hrL [0, 3], by decide, by decide⟩
set_option maxRecDepth 100000 in
theorem eShut1 : IsMost eP (shutQ eQ 1) 3 8 := ⟨⟨uL [(0, 0, 2), (0, 1, 2), (2, 0, 3), (2, 1, 3), (2, 2, 2)], use_of (by decide) (by decide), by decide⟩, hrL [0, 3], by decide, by decide⟩
set_option maxRecDepth 100000 in
theorem eShut2 : IsMost eP (shutQ eQ 2) 3 2 := ⟨⟨uL [(1, 0, 1), (1, 1, 1)], use_of (by decide) (by decide), by decide⟩, hrL [0, 0], by decide, by decide⟩
set_option maxRecDepth 100000 in
theorem eShut3 : IsMost eP (shutQ eQ 3) 3 9 := ⟨⟨uL [(0, 0, 2), (0, 1, 1), (1, 0, 1), (1, 1, 1), (2, 0, 3), (2, 1, 3), (2, 2, 1)], use_of (by decide) (by decide), by decide⟩, hrL [2, 3], by decide, by decide⟩
theorem eAll : allP eP = 9 := by decide
theorem eChk (m : Int) (h : inR m 0 60) : chkE eP eQ m = 0 := chkE_ok.mpr ⟨eOk, h⟩
theorem eMostR {N : Int} (h : MostR eP eQ 2 N) : N = 7 := (h.1 (eChk 2 (by decide))).one eOk eMost2
theorem eEmptyR {N E : Int} (h : EmptyR eP eQ N E) : N = 3 ∧ E = 0 := by
  rcases h.2 eOk with ⟨t, h1, h2, h3, h4, h5⟩ | ⟨h1, h2, h3⟩
  · refine ⟨?_, h3⟩
    rw [h2]
    rcases Nat.lt_trichotomy t 3 with q | q | q
    · have := most_later eOk (show t ≤ 2 by omega) h4 eMost2
      rw [eAll] at this
      omega
    · omega
    · exact absurd (by rw [eAll]; exact eMost3) (h5 3 q)
  · exact absurd (by rw [eAll]; exact eMost3) (h3 3 (by omega))
theorem eNeed : needL eP eQ 3 4 = [0, 1, 2] := by
  have a0 : needP eP eQ 3 0 := ⟨6, eShut0, by decide⟩
  have a1 : needP eP eQ 3 1 := ⟨8, eShut1, by decide⟩
  have a2 : needP eP eQ 3 2 := ⟨2, eShut2, by decide⟩
  have a3 : ¬ needP eP eQ 3 3 := fun ⟨M, h1, h2⟩ => by
    have := IsMost.one (shutQ_ok eOk (by decide)) h1 eShut3
    rw [eAll] at h2
    omega
  rw [needL_no a3, needL_yes a2, needL_yes a1, needL_yes a0]
  rfl
theorem eNeedR {l : List Int} (h : NeedR eP eQ 3 l) : l = [0, 1, 2] := (h.1 (eChk 3 (by decide))).trans eNeed
abbrev eL : List S35 := [⟨0, 0, 2⟩, ⟨0, 1, 1⟩, ⟨0, 2, 3⟩, ⟨1, 2, 3⟩]
theorem isPl_of {ps : List Int} {qs : List S45} {T : Nat} {l : List S35} (h : ∀ i, i < l.length → Mv1 qs T l i (l.getD i ⟨0, 0, 0⟩)) (h2 : ∀ r, r < ps.length → ∀ m, m < T + 1 → 0 ≤ thM ps qs l r m) : IsPl ps qs T l :=
  ⟨fun i x hx => by
    have hi := (List.getElem?_eq_some_iff.1 hx).1
    have := h i hi
    rw [show l.getD i ⟨0, 0, 0⟩ = x by simp [List.getD_eq_getElem?_getD, hx]] at this
    exact this, fun r m hr hm => h2 r hr m (by omega)⟩
instance (qs : List S45) (T : Int) (x : S35) : Decidable (MvOk qs T x) := by unfold MvOk; infer_instance
instance (qs : List S45) (T : Int) (l : List S35) (i : Nat) (x : S35) : Decidable (Mv1 qs T l i x) := by unfold Mv1; infer_instance
set_option maxRecDepth 100000 in
theorem ePlan : IsPl eP eQ 2 eL := isPl_of (by decide) (by decide)
theorem eGoneR {N E : Int} (h : GoneR eP eQ 2 eL N E) : N = 7 ∧ E = 0 := by
  obtain ⟨h1, h2⟩ := (h.2 (eChk 2 (by decide))).1 ePlan
  refine ⟨?_, h2⟩
  rw [h1]
  decide
end Go.Proofs.Ytmnjlnkfihklgaa.T
namespace Go.Proofs.Ytmnjlnkfihklgaa.T
open Go.RowKit Go.Proofs.YtmnjlnkfihklgaaW.PrintWords Go.Proofs.YtmnjlnkfihklgaaW.PrintMore
open Go.Proofs.Ytmnjlnkfihklgaa.P
set_option linter.unusedVariables false
set_option linter.unusedSimpArgs false

def big (ps : List Int) (qs : List S45) : Prop := 40 < ps.length ∨ 40 < qs.length
instance (ps : List Int) (qs : List S45) : Decidable (big ps qs) := by unfold big; infer_instance
def farH (ps : List Int) (qs : List S45) : Prop := big ps qs ∨ HOk ps qs ∧ (3 < ps.length ∨ 5 < qs.length ∨ 12 < allP ps)
instance (ps : List Int) (qs : List S45) : Decidable (farH ps qs) := by unfold farH; infer_instance
def late (m : Int) : Prop := 10 < m ∧ m ≤ 60
instance (m : Int) : Decidable (late m) := by unfold late; infer_instance
def ready (ps : List Int) (qs : List S45) (m : Int) : Prop := ¬ farH ps qs ∧ ¬ late m ∧ HOk ps qs ∧ 0 ≤ m ∧ m ≤ 60
instance (ps : List Int) (qs : List S45) (m : Int) : Decidable (ready ps qs m) := by unfold ready; infer_instance
theorem not_big {ps : List Int} {qs : List S45} (h : ¬ big ps qs) : ps.length ≤ 40 ∧ qs.length ≤ 40 := by unfold big at h; omega
theorem not_far {ps : List Int} {qs : List S45} (h : ¬ farH ps qs) : ps.length ≤ 40 ∧ qs.length ≤ 40 := not_big (fun k => h (.inl k))
/-- Whole numbers written out, in a block of ours. -/
theorem C_nums {w : World} {g : Nat} (l : List Int) (hb : w.heap[g]? = some (.cells (l.map (Value.int .i64)).toArray 3 (0, 0))) (hn : l.length ≤ 1000000) : Kd.C kI w (some ⟨g, 0, none⟩) l.length l := by
  refine ⟨rfl, by omega, fun _ => ⟨_, rfl, ?_⟩⟩
  intro j p hj
  refine ⟨[.int .i64 p], rfl, rfl, fun i u hu => ?_⟩
  have hi : i < 1 := (List.getElem?_eq_some_iff.1 hu).1
  obtain rfl : i = 0 := by omega
  cases hu
  rw [Addr.add_mid, blk_cell hb]
  simp [hj, show kI.sz = 1 from rfl]
set_option maxRecDepth 100000 in
set_option maxHeartbeats 8000000 in

theorem huge_calls (ps : List Int) (qs : List S45) (A B : Option Addr) (c d : Nat) (w : World) (r : Bool) (hb : r = true ↔ big ps qs) :
    Calls Try.prog 11 #[hv ps qs A B c d] w fun e w' => e = .returned (.bool r) ∧ Below w.heap.size w w' := by
  unfold big at hb
  have hu3 := Try.underlying3
  have hu22 := Try.underlying22
  have hu23 := Try.underlying23
  have hu25 := Try.underlying25
  obtain ⟨z22, o22⟩ := info_some info22s (by decide)
  obtain ⟨z23, o23⟩ := info_some info23s (by decide)
  refine E.enter (N := 13) Try.func11 rfl Try.ntmps11 (args := [hv ps qs A B c d]) (by simp) ?_
  have L := Below.refl w.heap.size w
  refine E.CG.seq ?_
  refine E.CG.list ?_
  refine E.GL.st rfl rfl rfl (E.ST.box rfl rfl fun g1 w1 e1 b1 l1 => ?_)
  have h1_L : w.heap.size ≤ g1 := by rw [e1]; exact L.size
  replace L := below_step L l1
  refine E.GL.run rfl rfl rfl (E.Runs.assign rfl rfl) ?_
  refine E.GL.done ?_
  refine E.QG.code ?_
  refine E.CG.seq ?_
  refine E.CG.list ?_
  refine E.GL.run rfl rfl rfl (E.Runs.fieldAddr rfl rfl hu25 rfl (by assumption) rfl) ?_
  refine E.GL.run rfl rfl rfl (E.Runs.load1 rfl rfl hu22 rfl (by first | assumption | exact E.blkc (by assumption) rfl | exact pw_cell_below L (by assumption))) ?_
  refine E.GL.run rfl rfl rfl (E.Runs.len rfl rfl hu22) ?_
  refine E.GL.cmp rfl rfl rfl (fun _ h => (E.Runs.gtr rfl rfl rfl h)) (fun h6 => ?_) (fun h6 => ?_)
  · refine E.GL.run rfl rfl rfl (E.Runs.move rfl rfl) ?_
    refine E.GL.skip rfl rfl rfl ?_
    refine E.GL.skip rfl rfl rfl ?_
    refine E.GL.skip rfl rfl rfl ?_
    refine E.GL.skip rfl rfl rfl ?_
    refine E.GL.run rfl rfl rfl (E.Runs.pick_t rfl rfl rfl) ?_
    refine E.GL.run rfl rfl rfl (E.Runs.assign rfl rfl) ?_
    refine E.GL.done ?_
    refine E.QG.code ?_
    refine E.CG.ret ?_
    exact E.QG.result rfl rfl ⟨by rw [hb.mpr (by omega)], L⟩
  · refine E.GL.run rfl rfl rfl (E.Runs.move rfl rfl) ?_
    refine E.GL.run rfl rfl rfl (E.Runs.fieldAddr rfl rfl hu25 rfl (by assumption) rfl) ?_
    refine E.GL.run rfl rfl rfl (E.Runs.load1 rfl rfl hu23 rfl (by first | assumption | exact E.blkc (by assumption) rfl | exact pw_cell_below L (by assumption))) ?_
    refine E.GL.run rfl rfl rfl (E.Runs.len rfl rfl hu23) ?_
    refine E.GL.cmp rfl rfl rfl (fun _ h => (E.Runs.gtr rfl rfl rfl h)) (fun h11 => ?_) (fun h11 => ?_)
    · refine E.GL.run rfl rfl rfl (E.Runs.pick_f rfl rfl rfl) ?_
      refine E.GL.run rfl rfl rfl (E.Runs.assign rfl rfl) ?_
      refine E.GL.done ?_
      refine E.QG.code ?_
      refine E.CG.ret ?_
      exact E.QG.result rfl rfl ⟨by rw [hb.mpr (by omega)], L⟩
    · refine E.GL.run rfl rfl rfl (E.Runs.pick_f rfl rfl rfl) ?_
      refine E.GL.run rfl rfl rfl (E.Runs.assign rfl rfl) ?_
      refine E.GL.done ?_
      refine E.QG.code ?_
      refine E.CG.ret ?_
      exact E.QG.result rfl rfl ⟨by rw [bool_no hb (by omega)], L⟩

set_option maxRecDepth 100000 in
set_option maxHeartbeats 8000000 in

theorem same_calls (l k : List Int) (A A1 : Option Addr) (c c1 : Nat) (w : World) (r : Bool) (hb : r = true ↔ l = k) (h1 : Kd.C kI w A l.length l) (h2 : Kd.C kI w A1 k.length k) (hn : l.length ≤ 1000000) :
    Calls Try.prog 18 #[.slice A l.length c, .slice A1 k.length c1] w fun e w' => e = .returned (.bool r) ∧ Below w.heap.size w w' := by
  have hu3 := Try.underlying3
  have hu22 := Try.underlying22
  obtain ⟨z3, o3⟩ := info_some info3s (by decide)
  refine E.enter (N := 26) Try.func18 rfl Try.ntmps18 (args := [.slice A l.length c, .slice A1 k.length c1]) (by simp) ?_
  have L := Below.refl w.heap.size w
  refine E.CG.seq ?_
  refine E.CG.list ?_
  refine E.GL.run rfl rfl rfl (E.Runs.assign rfl rfl) ?_
  refine E.GL.done ?_
  refine E.QG.code ?_
  refine E.CG.seq ?_
  refine E.CG.seq ?_
  refine E.CG.list ?_
  refine E.GL.run rfl rfl rfl (E.Runs.move rfl rfl) ?_
  refine E.GL.run rfl rfl rfl (E.Runs.len rfl rfl hu22) ?_
  refine E.GL.run rfl rfl rfl (E.Runs.move rfl rfl) ?_
  refine E.GL.run rfl rfl rfl (E.Runs.len rfl rfl hu22) ?_
  refine E.GL.cmpn rfl rfl rfl (fun _ h => (E.Runs.neq rfl rfl rfl h)) (fun h10 => ?_) (fun h10 => ?_)
  · refine E.GL.done ?_
    refine E.QG.code ?_
    refine E.CG.cond_t rfl ?_
    refine E.CG.seq ?_
    refine E.CG.list ?_
    refine E.GL.run rfl rfl rfl (E.Runs.assign rfl rfl) ?_
    refine E.GL.done ?_
    refine E.QG.code ?_
    refine E.CG.ret ?_
    refine E.QG.pass_ret ?_
    exact E.QG.result rfl rfl ⟨by rw [bool_no hb (fun e => h10 (by rw [e]))], L⟩
  · refine E.GL.done ?_
    refine E.QG.code ?_
    refine E.CG.cond_f rfl ?_
    refine E.CG.skip ?_
    refine E.QG.code ?_
    refine E.CG.seq ?_
    refine E.CG.seq ?_
    refine E.CG.list ?_
    refine E.GL.run rfl rfl rfl (E.Runs.assign rfl rfl) ?_
    refine E.GL.done ?_
    refine E.QG.code ?_
    refine E.CG.block ?_
    have s4_L := L
    refine E.CG.loop (fun (i : Nat) => [(0, .slice A l.length c), (1, .slice A1 k.length c1), (5, .int .i64 i)]) (fun i w' => i ≤ l.length ∧ Below w.heap.size w w' ∧ ∀ j, j < i → l[j]? = k[j]?) (fun i => l.length - i) 0 (E.subc rfl (E.subc rfl (E.subc rfl E.subn))) ⟨Nat.zero_le _, L, fun j hj => by omega⟩ ?_
    rintro i w4 ⟨hi, L, hs⟩
    refine E.CG.seq ?_
    refine E.CG.seq ?_
    refine E.CG.list ?_
    refine E.GL.run rfl rfl rfl (E.Runs.move rfl rfl) ?_
    refine E.GL.run rfl rfl rfl (E.Runs.move rfl rfl) ?_
    refine E.GL.run rfl rfl rfl (E.Runs.len rfl rfl hu22) ?_
    refine E.GL.cmp rfl rfl rfl (fun _ h => (E.Runs.lss rfl rfl rfl h)) (fun h14 => ?_) (fun h14 => ?_)
    · obtain ⟨x, hx⟩ : ∃ x, l[i]? = some x := ⟨_, List.getElem?_eq_getElem (by omega)⟩
      obtain ⟨ad, eA, X⟩ := int_at h1 hx
      obtain ⟨y, hy⟩ : ∃ x, k[i]? = some x := ⟨_, List.getElem?_eq_getElem (by omega)⟩
      obtain ⟨ae, eB, Y⟩ := int_at h2 hy
      have hik : (i : Int) < l.length := by omega
      have hik2 : (i : Int) < k.length := by omega
      refine E.GL.done ?_
      refine E.QG.code ?_
      refine E.CG.cond_t rfl ?_
      refine E.CG.skip ?_
      refine E.QG.code ?_
      refine E.CG.seq ?_
      refine E.CG.block ?_
      refine E.CG.seq ?_
      refine E.CG.quietF (by kernel_rfl) rfl (by kernel_rfl) (by kernel_rfl) ?_
      refine E.GQ.run rfl rfl rfl (E.Runs.move rfl rfl) ?_
      refine E.GQ.run rfl rfl rfl (E.Runs.move rfl rfl) ?_
      refine E.GQ.run rfl rfl rfl (E.Runs.indexAddrA rfl rfl rfl hu22 (by assumption) (by assumption) (by assumption) (by first | rfl | assumption) rfl) ?_
      refine E.GQ.run rfl rfl rfl (E.Runs.load rfl rfl hu3 (by first | assumption | exact E.blkc (by assumption) rfl | exact pw_cell_below L (by assumption))) ?_
      refine E.GQ.run rfl rfl rfl (E.Runs.move rfl rfl) ?_
      refine E.GQ.run rfl rfl rfl (E.Runs.move rfl rfl) ?_
      refine E.GQ.run rfl rfl rfl (E.Runs.indexAddrA rfl rfl rfl hu22 (by assumption) (by assumption) (by assumption) (by first | rfl | assumption) rfl) ?_
      refine E.GQ.run rfl rfl rfl (E.Runs.load rfl rfl hu3 (by first | assumption | exact E.blkc (by assumption) rfl | exact pw_cell_below L (by assumption))) ?_
      refine E.GQ.cmpn rfl rfl rfl (fun _ h => (E.Runs.neq rfl rfl rfl h)) (fun h25 => ?_) (fun h25 => ?_)
      · refine E.GQ.doneB fun v6 lD => ?_
        replace L := below_step L lD
        have lD6 := lD
        clear lD
        refine E.QG.code ?_
        refine E.CG.cond_t rfl ?_
        refine E.CG.seq ?_
        refine E.CG.list ?_
        refine E.GL.run rfl rfl rfl (E.Runs.assign rfl rfl) ?_
        refine E.GL.done ?_
        refine E.QG.code ?_
        refine E.CG.ret ?_
        refine E.QG.block_ret ?_
        refine E.QG.pass_ret ?_
        refine E.QG.pass_ret ?_
        refine E.QG.block_ret ?_
        refine E.QG.pass_ret ?_
        exact E.QG.result rfl rfl ⟨by rw [bool_no hb (fun e => by subst e; rw [hx] at hy; cases hy; exact h25 rfl)], L⟩
      · refine E.GQ.doneB fun v6 lD => ?_
        replace L := below_step L lD
        have lD6 := lD
        clear lD
        refine E.QG.code ?_
        refine E.CG.cond_f rfl ?_
        refine E.CG.skip ?_
        refine E.QG.block_normal ?_
        refine E.QG.code ?_
        refine E.CG.list ?_
        refine E.GL.run rfl rfl rfl (E.Runs.move rfl rfl) ?_
        refine E.GL.run rfl rfl rfl (E.Runs.add rfl rfl rfl (IntWalk.i64_in _ (by omega))) ?_
        refine E.GL.run rfl rfl rfl (E.Runs.assign rfl rfl) ?_
        refine E.GL.done ?_
        exact E.QG.round (i + 1) (E.subc rfl (E.subc rfl (E.subc rfl E.subn))) ⟨by omega, L, fun j hj => (Nat.lt_or_ge j i).elim (hs j) (fun q => (show j = i by omega) ▸ (by rw [hx, hy, h25]))⟩ (by omega)
    · refine E.GL.done ?_
      refine E.QG.code ?_
      refine E.CG.cond_f rfl ?_
      refine E.CG.exit ?_
      refine E.QG.pass_exit ?_
      refine E.QG.pass_exit ?_
      refine E.QG.block_here ?_
      refine E.QG.code ?_
      refine E.CG.seq ?_
      refine E.CG.list ?_
      refine E.GL.run rfl rfl rfl (E.Runs.assign rfl rfl) ?_
      refine E.GL.done ?_
      refine E.QG.code ?_
      refine E.CG.ret ?_
      exact E.QG.result rfl rfl ⟨by rw [hb.mpr (List.ext_getElem? fun j => (Nat.lt_or_ge j i).elim (hs j) (fun q => by rw [List.getElem?_eq_none (by omega), List.getElem?_eq_none (by omega)]))], L⟩

set_option maxRecDepth 100000 in
set_option maxHeartbeats 8000000 in

theorem late_calls (m : Int) (w : World) (r : Bool) (hb : r = true ↔ late m) :
    Calls Try.prog 20 #[.int .i64 m] w fun e w' => e = .returned (.bool r) ∧ Below w.heap.size w w' := by
  unfold late at hb
  have hu3 := Try.underlying3
  refine E.enter (N := 9) Try.func20 rfl Try.ntmps20 (args := [.int .i64 m]) (by simp) ?_
  have L := Below.refl w.heap.size w
  refine E.CG.seq ?_
  refine E.CG.list ?_
  refine E.GL.run rfl rfl rfl (E.Runs.assign rfl rfl) ?_
  refine E.GL.done ?_
  refine E.QG.code ?_
  refine E.CG.seq ?_
  refine E.CG.list ?_
  refine E.GL.run rfl rfl rfl (E.Runs.move rfl rfl) ?_
  refine E.GL.cmp rfl rfl rfl (fun _ h => (E.Runs.gtr rfl rfl rfl h)) (fun h4 => ?_) (fun h4 => ?_)
  · refine E.GL.run rfl rfl rfl (E.Runs.move rfl rfl) ?_
    refine E.GL.run rfl rfl rfl (E.Runs.move rfl rfl) ?_
    refine E.GL.cmp rfl rfl rfl (fun _ h => (E.Runs.leq rfl rfl rfl h)) (fun h7 => ?_) (fun h7 => ?_)
    · refine E.GL.run rfl rfl rfl (E.Runs.pick_t rfl rfl rfl) ?_
      refine E.GL.run rfl rfl rfl (E.Runs.assign rfl rfl) ?_
      refine E.GL.done ?_
      refine E.QG.code ?_
      refine E.CG.ret ?_
      exact E.QG.result rfl rfl ⟨by rw [hb.mpr (by omega)], L⟩
    · refine E.GL.run rfl rfl rfl (E.Runs.pick_t rfl rfl rfl) ?_
      refine E.GL.run rfl rfl rfl (E.Runs.assign rfl rfl) ?_
      refine E.GL.done ?_
      refine E.QG.code ?_
      refine E.CG.ret ?_
      exact E.QG.result rfl rfl ⟨by rw [bool_no hb (by omega)], L⟩
  · refine E.GL.run rfl rfl rfl (E.Runs.move rfl rfl) ?_
    refine E.GL.skip rfl rfl rfl ?_
    refine E.GL.skip rfl rfl rfl ?_
    refine E.GL.run rfl rfl rfl (E.Runs.pick_f rfl rfl rfl) ?_
    refine E.GL.run rfl rfl rfl (E.Runs.assign rfl rfl) ?_
    refine E.GL.done ?_
    refine E.QG.code ?_
    refine E.CG.ret ?_
    exact E.QG.result rfl rfl ⟨by rw [bool_no hb (by omega)], L⟩

set_option maxRecDepth 100000 in
set_option maxHeartbeats 8000000 in

theorem far_calls (ps : List Int) (qs : List S45) (A B : Option Addr) (c d : Nat) (w : World) (r : Bool) (hP : Kd.C kI w A ps.length ps) (hQ : Kd.C k45 w B qs.length qs) (hb : r = true ↔ farH ps qs) :
    Calls Try.prog 19 #[hv ps qs A B c d] w fun e w' => e = .returned (.bool r) ∧ Below w.heap.size w w' := by
  have hu3 := Try.underlying3
  have hu22 := Try.underlying22
  have hu23 := Try.underlying23
  have hu25 := Try.underlying25
  obtain ⟨z3, o3⟩ := info_some info3s (by decide)
  obtain ⟨z22, o22⟩ := info_some info22s (by decide)
  obtain ⟨z23, o23⟩ := info_some info23s (by decide)
  obtain ⟨z25, o25⟩ := info_some info25s (by decide)
  refine E.enter (N := 27) Try.func19 rfl Try.ntmps19 (args := [hv ps qs A B c d]) (by simp) ?_
  have L := Below.refl w.heap.size w
  refine E.CG.seq ?_
  refine E.CG.list ?_
  refine E.GL.st rfl rfl rfl (E.ST.box rfl rfl fun g1 w1 e1 b1 l1 => ?_)
  have h1_L : w.heap.size ≤ g1 := by rw [e1]; exact L.size
  replace L := below_step L l1
  refine E.GL.run rfl rfl rfl (E.Runs.assign rfl rfl) ?_
  refine E.GL.done ?_
  refine E.QG.code ?_
  refine E.CG.seq ?_
  refine E.CG.list ?_
  refine E.GL.run rfl rfl rfl (E.Runs.loads (cs := [.slice A ps.length c, .slice B qs.length d]) rfl rfl hu25 rfl info25s (blk_cells b1)) ?_
  by_cases h4 : big ps qs
  · refine E.GL.st rfl rfl rfl (E.ST.call rfl ent11 (E.evc rfl E.evn) ((huge_calls ps qs A B c d _ true (iff_of_true rfl h4)).mono ?_))
    rintro e w4 ⟨rfl, l4⟩
    refine ⟨_, rfl, ?_⟩
    replace b1 := blk_below b1 l4
    replace L := below_step L l4
    refine E.GL.run rfl rfl rfl (E.Runs.move rfl rfl) ?_
    refine E.GL.skip rfl rfl rfl ?_
    refine E.GL.skip rfl rfl rfl ?_
    refine E.GL.skip rfl rfl rfl ?_
    refine E.GL.skip rfl rfl rfl ?_
    refine E.GL.skip rfl rfl rfl ?_
    refine E.GL.skip rfl rfl rfl ?_
    refine E.GL.skip rfl rfl rfl ?_
    refine E.GL.skip rfl rfl rfl ?_
    refine E.GL.skip rfl rfl rfl ?_
    refine E.GL.skip rfl rfl rfl ?_
    refine E.GL.skip rfl rfl rfl ?_
    refine E.GL.skip rfl rfl rfl ?_
    refine E.GL.skip rfl rfl rfl ?_
    refine E.GL.skip rfl rfl rfl ?_
    refine E.GL.skip rfl rfl rfl ?_
    refine E.GL.skip rfl rfl rfl ?_
    refine E.GL.skip rfl rfl rfl ?_
    refine E.GL.skip rfl rfl rfl ?_
    refine E.GL.skip rfl rfl rfl ?_
    refine E.GL.skip rfl rfl rfl ?_
    refine E.GL.run rfl rfl rfl (E.Runs.pick_t rfl rfl rfl) ?_
    refine E.GL.run rfl rfl rfl (E.Runs.assign rfl rfl) ?_
    refine E.GL.done ?_
    refine E.QG.code ?_
    refine E.CG.ret ?_
    exact E.QG.result rfl rfl ⟨by rw [hb.mpr (.inl h4)], L⟩
  · refine E.GL.st rfl rfl rfl (E.ST.call rfl ent11 (E.evc rfl E.evn) ((huge_calls ps qs A B c d _ false (iff_of_false Bool.false_ne_true h4)).mono ?_))
    rintro e w4 ⟨rfl, l4⟩
    refine ⟨_, rfl, ?_⟩
    replace b1 := blk_below b1 l4
    replace L := below_step L l4
    refine E.GL.run rfl rfl rfl (E.Runs.move rfl rfl) ?_
    refine E.GL.run rfl rfl rfl (E.Runs.loads (cs := [.slice A ps.length c, .slice B qs.length d]) rfl rfl hu25 rfl info25s (blk_cells b1)) ?_
    refine E.GL.st rfl rfl rfl (E.ST.call rfl ent15 (E.evc rfl E.evn) ((check15 ps qs A B c d _ (Kd.C_below hP L) (Kd.C_below hQ L) (by have := not_big h4; omega) (by have := not_big h4; omega)).mono ?_))
    rintro e w7 ⟨rfl, l7⟩
    refine ⟨_, rfl, ?_⟩
    replace b1 := blk_below b1 l7
    replace L := below_step L l7
    refine E.GL.cmp rfl rfl rfl (fun _ h => (E.Runs.eql rfl rfl rfl h)) (fun h8 => ?_) (fun h8 => ?_)
    · have hH : HOk ps qs := checkE_ok.mp h8
      refine E.GL.run rfl rfl rfl (E.Runs.move rfl rfl) ?_
      refine E.GL.run rfl rfl rfl (E.Runs.fieldAddr rfl rfl hu25 rfl (by assumption) rfl) ?_
      refine E.GL.run rfl rfl rfl (E.Runs.load1 rfl rfl hu22 rfl (by first | assumption | exact E.blkc (by assumption) rfl | exact pw_cell_below L (by assumption))) ?_
      refine E.GL.run rfl rfl rfl (E.Runs.len rfl rfl hu22) ?_
      refine E.GL.cmp rfl rfl rfl (fun _ h => (E.Runs.gtr rfl rfl rfl h)) (fun h13 => ?_) (fun h13 => ?_)
      · refine E.GL.run rfl rfl rfl (E.Runs.move rfl rfl) ?_
        refine E.GL.skip rfl rfl rfl ?_
        refine E.GL.skip rfl rfl rfl ?_
        refine E.GL.skip rfl rfl rfl ?_
        refine E.GL.skip rfl rfl rfl ?_
        refine E.GL.run rfl rfl rfl (E.Runs.pick_t rfl rfl rfl) ?_
        refine E.GL.run rfl rfl rfl (E.Runs.move rfl rfl) ?_
        refine E.GL.skip rfl rfl rfl ?_
        refine E.GL.skip rfl rfl rfl ?_
        refine E.GL.skip rfl rfl rfl ?_
        refine E.GL.run rfl rfl rfl (E.Runs.pick_t rfl rfl rfl) ?_
        refine E.GL.run rfl rfl rfl (E.Runs.pick_t rfl rfl rfl) ?_
        refine E.GL.run rfl rfl rfl (E.Runs.pick_f rfl rfl rfl) ?_
        refine E.GL.run rfl rfl rfl (E.Runs.assign rfl rfl) ?_
        refine E.GL.done ?_
        refine E.QG.code ?_
        refine E.CG.ret ?_
        exact E.QG.result rfl rfl ⟨by rw [hb.mpr (.inr ⟨hH, .inl (by omega)⟩)], L⟩
      · refine E.GL.run rfl rfl rfl (E.Runs.move rfl rfl) ?_
        refine E.GL.run rfl rfl rfl (E.Runs.fieldAddr rfl rfl hu25 rfl (by assumption) rfl) ?_
        refine E.GL.run rfl rfl rfl (E.Runs.load1 rfl rfl hu23 rfl (by first | assumption | exact E.blkc (by assumption) rfl | exact pw_cell_below L (by assumption))) ?_
        refine E.GL.run rfl rfl rfl (E.Runs.len rfl rfl hu23) ?_
        refine E.GL.cmp rfl rfl rfl (fun _ h => (E.Runs.gtr rfl rfl rfl h)) (fun h18 => ?_) (fun h18 => ?_)
        · refine E.GL.run rfl rfl rfl (E.Runs.pick_f rfl rfl rfl) ?_
          refine E.GL.run rfl rfl rfl (E.Runs.move rfl rfl) ?_
          refine E.GL.skip rfl rfl rfl ?_
          refine E.GL.skip rfl rfl rfl ?_
          refine E.GL.skip rfl rfl rfl ?_
          refine E.GL.run rfl rfl rfl (E.Runs.pick_t rfl rfl rfl) ?_
          refine E.GL.run rfl rfl rfl (E.Runs.pick_t rfl rfl rfl) ?_
          refine E.GL.run rfl rfl rfl (E.Runs.pick_f rfl rfl rfl) ?_
          refine E.GL.run rfl rfl rfl (E.Runs.assign rfl rfl) ?_
          refine E.GL.done ?_
          refine E.QG.code ?_
          refine E.CG.ret ?_
          exact E.QG.result rfl rfl ⟨by rw [hb.mpr (.inr ⟨hH, .inr (.inl (by omega))⟩)], L⟩
        · refine E.GL.run rfl rfl rfl (E.Runs.pick_f rfl rfl rfl) ?_
          refine E.GL.run rfl rfl rfl (E.Runs.move rfl rfl) ?_
          refine E.GL.run rfl rfl rfl (E.Runs.loads (cs := [.slice A ps.length c, .slice B qs.length d]) rfl rfl hu25 rfl info25s (blk_cells b1)) ?_
          refine E.GL.st rfl rfl rfl (E.ST.call rfl ent29 (E.evc rfl E.evn) ((all_calls ps qs A B c d _ (Kd.C_below hP L) hH.p (by have := not_big h4; omega)).mono ?_))
          rintro e w22 ⟨rfl, l22⟩
          refine ⟨_, rfl, ?_⟩
          replace b1 := blk_below b1 l22
          replace L := below_step L l22
          refine E.GL.cmp rfl rfl rfl (fun _ h => (E.Runs.gtr rfl rfl rfl h)) (fun h23 => ?_) (fun h23 => ?_)
          · refine E.GL.run rfl rfl rfl (E.Runs.pick_f rfl rfl rfl) ?_
            refine E.GL.run rfl rfl rfl (E.Runs.pick_t rfl rfl rfl) ?_
            refine E.GL.run rfl rfl rfl (E.Runs.pick_f rfl rfl rfl) ?_
            refine E.GL.run rfl rfl rfl (E.Runs.assign rfl rfl) ?_
            refine E.GL.done ?_
            refine E.QG.code ?_
            refine E.CG.ret ?_
            exact E.QG.result rfl rfl ⟨by rw [hb.mpr (.inr ⟨hH, .inr (.inr (by omega))⟩)], L⟩
          · refine E.GL.run rfl rfl rfl (E.Runs.pick_f rfl rfl rfl) ?_
            refine E.GL.run rfl rfl rfl (E.Runs.pick_t rfl rfl rfl) ?_
            refine E.GL.run rfl rfl rfl (E.Runs.pick_f rfl rfl rfl) ?_
            refine E.GL.run rfl rfl rfl (E.Runs.assign rfl rfl) ?_
            refine E.GL.done ?_
            refine E.QG.code ?_
            refine E.CG.ret ?_
            exact E.QG.result rfl rfl ⟨by rw [bool_no hb (fun k => k.elim h4 (fun k => by have := k.2; omega))], L⟩
    · have hH : ¬ HOk ps qs := fun k => h8 (checkE_yes k)
      refine E.GL.run rfl rfl rfl (E.Runs.move rfl rfl) ?_
      refine E.GL.skip rfl rfl rfl ?_
      refine E.GL.skip rfl rfl rfl ?_
      refine E.GL.skip rfl rfl rfl ?_
      refine E.GL.skip rfl rfl rfl ?_
      refine E.GL.skip rfl rfl rfl ?_
      refine E.GL.skip rfl rfl rfl ?_
      refine E.GL.skip rfl rfl rfl ?_
      refine E.GL.skip rfl rfl rfl ?_
      refine E.GL.skip rfl rfl rfl ?_
      refine E.GL.skip rfl rfl rfl ?_
      refine E.GL.skip rfl rfl rfl ?_
      refine E.GL.skip rfl rfl rfl ?_
      refine E.GL.skip rfl rfl rfl ?_
      refine E.GL.skip rfl rfl rfl ?_
      refine E.GL.skip rfl rfl rfl ?_
      refine E.GL.run rfl rfl rfl (E.Runs.pick_f rfl rfl rfl) ?_
      refine E.GL.run rfl rfl rfl (E.Runs.pick_f rfl rfl rfl) ?_
      refine E.GL.run rfl rfl rfl (E.Runs.assign rfl rfl) ?_
      refine E.GL.done ?_
      refine E.QG.code ?_
      refine E.CG.ret ?_
      exact E.QG.result rfl rfl ⟨by rw [bool_no hb (fun k => k.elim h4 (fun k => hH k.1))], L⟩

end Go.Proofs.Ytmnjlnkfihklgaa.T
namespace Go.Proofs.Ytmnjlnkfihklgaa.T
open Go.RowKit Go.Proofs.YtmnjlnkfihklgaaW.PrintWords Go.Proofs.YtmnjlnkfihklgaaW.PrintMore
open Go.Proofs.Ytmnjlnkfihklgaa.P
set_option linter.unusedVariables false
set_option linter.unusedSimpArgs false

/-- A row of structs written out, in a block of ours. -/
theorem flat_get {α : Type} (enc : α → List Value) (sz : Nat) (hsz : ∀ x, (enc x).length = sz) : ∀ (l : List α) (j i : Nat) (p : α), l[j]? = some p → i < sz → (l.flatMap enc)[j * sz + i]? = (enc p)[i]?
  | [], j, i, p, h, _ => by simp at h
  | x :: l, 0, i, p, h, hi => by
    obtain rfl : x = p := by simpa using h
    rw [List.flatMap_cons, Nat.zero_mul, Nat.zero_add, List.getElem?_append_left (by rw [hsz]; exact hi)]
  | x :: l, j + 1, i, p, h, hi => by
    rw [List.flatMap_cons, List.getElem?_append_right (by rw [hsz, Nat.add_mul]; omega), hsz, show (j + 1) * sz + i - sz = j * sz + i by rw [Nat.add_mul]; omega]
    exact flat_get enc sz hsz l j i p (by simpa using h) hi
theorem C_flat {α : Type} (d : Kd α) (enc : α → List Value) (hsz : ∀ x, (enc x).length = d.sz) (hK : ∀ (w : World) x, d.K w x (enc x)) {w : World} {g e : Nat} (l : List α) (hl : l.length ≤ 1000000) (hb : w.heap[g]? = some (.cells (l.flatMap enc).toArray e (0, 0))) : Kd.C d w (some ⟨g, 0, none⟩) l.length l := by
  refine ⟨rfl, by omega, fun _ => ⟨_, rfl, ?_⟩⟩
  intro j p hj
  refine ⟨enc p, hsz p, hK w p, fun i u hu => ?_⟩
  have hi : i < d.sz := by rw [← hsz p]; exact (List.getElem?_eq_some_iff.1 hu).1
  rw [Addr.add_mid, Nat.zero_add, blk_cell hb]
  rw [List.getElem?_toArray, flat_get enc d.sz hsz l j i p hj hi]
  exact hu
def four45 (x : S45) : List Value := [.int .i64 x.f0, .int .i64 x.f1, .int .i64 x.f2, .int .i64 x.f3]
def three35 (x : S35) : List Value := [.int .i64 x.f0, .int .i64 x.f1, .int .i64 x.f2]
theorem C_45 {w : World} {g : Nat} (l : List S45) (hl : l.length ≤ 1000000) (hb : w.heap[g]? = some (.cells (l.flatMap four45).toArray 45 (0, 0))) : Kd.C k45 w (some ⟨g, 0, none⟩) l.length l := C_flat k45 four45 (fun _ => rfl) (fun w x => k45_mk w x) l hl hb
theorem C_35 {w : World} {g : Nat} (l : List S35) (hl : l.length ≤ 1000000) (hb : w.heap[g]? = some (.cells (l.flatMap three35).toArray 35 (0, 0))) : Kd.C k35 w (some ⟨g, 0, none⟩) l.length l := C_flat k35 three35 (fun _ => rfl) (fun w x => k35_mk w x) l hl hb
set_option maxRecDepth 100000 in
theorem lit22_2 (W : World) : (Instr.buildSlice 22 2 #[(0, .int .i64 5), (1, .int .i64 4)]).run Try.prog W = .ok (.slice (some ⟨W.heap.size, 0, none⟩) 2 2) (W.alloc (.cells #[.int .i64 5, .int .i64 4] 3 (0, 0))) := by
  have hu22 := Try.underlying22
  go_simp
set_option maxRecDepth 100000 in
theorem lit22_3 (W : World) : (Instr.buildSlice 22 3 #[(0, .int .i64 0), (1, .int .i64 1), (2, .int .i64 2)]).run Try.prog W = .ok (.slice (some ⟨W.heap.size, 0, none⟩) 3 3) (W.alloc (.cells #[.int .i64 0, .int .i64 1, .int .i64 2] 3 (0, 0))) := by
  have hu22 := Try.underlying22
  go_simp
set_option maxRecDepth 100000 in
theorem lit23_4 (W : World) : (Instr.buildSlice 23 4 #[(0, .agg #[.int .i64 0, .int .i64 1, .int .i64 2, .int .i64 1]), (1, .agg #[.int .i64 0, .int .i64 (-1), .int .i64 1, .int .i64 2]), (2, .agg #[.int .i64 1, .int .i64 (-1), .int .i64 3, .int .i64 1]), (3, .agg #[.int .i64 1, .int .i64 0, .int .i64 1, .int .i64 1])]).run Try.prog W = .ok (.slice (some ⟨W.heap.size, 0, none⟩) 4 4) (W.alloc (.cells (eQ.flatMap four45).toArray 45 (0, 0))) := by
  have hu23 := Try.underlying23
  go_simp
  rfl
set_option maxRecDepth 100000 in
theorem lit26_4 (W : World) : (Instr.buildSlice 26 4 #[(0, .agg #[.int .i64 0, .int .i64 0, .int .i64 2]), (1, .agg #[.int .i64 0, .int .i64 1, .int .i64 1]), (2, .agg #[.int .i64 0, .int .i64 2, .int .i64 3]), (3, .agg #[.int .i64 1, .int .i64 2, .int .i64 3])]).run Try.prog W = .ok (.slice (some ⟨W.heap.size, 0, none⟩) 4 4) (W.alloc (.cells (eL.flatMap three35).toArray 35 (0, 0))) := by
  have hu26 := Try.underlying26
  go_simp
  rfl
set_option maxRecDepth 100000 in
theorem build45 (a b c d : Int) (W : World) : (Instr.build 45 #[(0, .int .i64 a), (1, .int .i64 b), (2, .int .i64 c), (3, .int .i64 d)]).run Try.prog W = .ok (.agg #[.int .i64 a, .int .i64 b, .int .i64 c, .int .i64 d]) W := by
  have hu3 := Try.underlying3
  have hu45 := Try.underlying45
  go_simp
set_option maxRecDepth 100000 in
theorem build35a (c : Int) (W : World) : (Instr.build 35 #[(2, .int .i64 c)]).run Try.prog W = .ok (.agg #[.int .i64 0, .int .i64 0, .int .i64 c]) W := by
  have hu3 := Try.underlying3
  have hu35 := Try.underlying35
  go_simp
set_option maxRecDepth 100000 in
theorem build35b (b c : Int) (W : World) : (Instr.build 35 #[(1, .int .i64 b), (2, .int .i64 c)]).run Try.prog W = .ok (.agg #[.int .i64 0, .int .i64 b, .int .i64 c]) W := by
  have hu3 := Try.underlying3
  have hu35 := Try.underlying35
  go_simp
set_option maxRecDepth 100000 in
theorem build35c (a b c : Int) (W : World) : (Instr.build 35 #[(0, .int .i64 a), (1, .int .i64 b), (2, .int .i64 c)]).run Try.prog W = .ok (.agg #[.int .i64 a, .int .i64 b, .int .i64 c]) W := by
  have hu3 := Try.underlying3
  have hu35 := Try.underlying35
  go_simp
set_option maxRecDepth 100000 in
set_option maxHeartbeats 8000000 in

theorem example_calls (w : World) :
    Calls Try.prog 37 #[] w fun e w' => ∃ A B c d, e = .returned (hv eP eQ A B c d) ∧ Kd.C kI w' A eP.length eP ∧ Kd.C k45 w' B eQ.length eQ ∧ Below w.heap.size w w' := by
  have hu25 := Try.underlying25
  refine E.enter (N := 8) Try.func37 rfl Try.ntmps37 (args := []) (by simp) ?_
  have L := Below.refl w.heap.size w
  refine E.CG.seq ?_
  refine E.CG.list ?_
  refine E.GL.st rfl rfl rfl (E.ST.alloc rfl info25z fun g0 w0 e0 b0 l0 => ?_)
  have h0_L : w.heap.size ≤ g0 := by rw [e0]; exact L.size
  replace L := below_step L l0
  refine E.GL.done ?_
  refine E.QG.code ?_
  refine E.CG.seq ?_
  refine E.CG.list ?_
  refine E.GL.st rfl rfl rfl (E.ST.litB (cs := (([5, 4] : List Int).map (Value.int .i64)).toArray) rfl (E.epc rfl (E.epc rfl E.epn)) lit22_2 fun g1 w1 e1 b1 l1 => ?_)
  have h1_L : w.heap.size ≤ g1 := by rw [e1]; exact L.size
  have n1_b0 : g0 ≠ g1 := by have := blk_lt b0; omega
  replace b0 := blk_below b0 l1
  replace L := below_step L l1
  refine E.GL.run rfl rfl rfl (E.Runs.build rfl (E.epc rfl (E.epc rfl (E.epc rfl (E.epc rfl E.epn)))) (build45 _ _ _ _)) ?_
  refine E.GL.run rfl rfl rfl (E.Runs.build rfl (E.epc rfl (E.epc rfl (E.epc rfl (E.epc rfl E.epn)))) (build45 _ _ _ _)) ?_
  refine E.GL.run rfl rfl rfl (E.Runs.build rfl (E.epc rfl (E.epc rfl (E.epc rfl (E.epc rfl E.epn)))) (build45 _ _ _ _)) ?_
  refine E.GL.run rfl rfl rfl (E.Runs.build rfl (E.epc rfl (E.epc rfl (E.epc rfl (E.epc rfl E.epn)))) (build45 _ _ _ _)) ?_
  refine E.GL.st rfl rfl rfl (E.ST.litB (cs := (eQ.flatMap four45).toArray) rfl (E.epc rfl (E.epc rfl (E.epc rfl (E.epc rfl E.epn)))) lit23_4 fun g6 w6 e6 b6 l6 => ?_)
  have h6_L : w.heap.size ≤ g6 := by rw [e6]; exact L.size
  have n6_b0 : g0 ≠ g6 := by have := blk_lt b0; omega
  have n6_b1 : g1 ≠ g6 := by have := blk_lt b1; omega
  replace b0 := blk_below b0 l6
  replace b1 := blk_below b1 l6
  replace L := below_step L l6
  refine E.GL.run rfl rfl rfl (E.Runs.build rfl (E.epc rfl (E.epc rfl E.epn)) (build25 _ _ _ _ _ _)) ?_
  refine E.GL.store_whole rfl rfl rfl rfl rfl b0 rfl info25s (slices_one _ _ _ _ _ _) fun wS1_7 c0 lS1_7 => ?_
  replace b1 := blk_grown b1 lS1_7 (E.nes (by first | assumption | exact Ne.symm (by assumption)))
  replace b6 := blk_grown b6 lS1_7 (E.nes (by first | assumption | exact Ne.symm (by assumption)))
  replace L := E.below_own L h0_L lS1_7
  replace b0 := c0
  clear c0
  refine E.GL.done ?_
  refine E.QG.code ?_
  refine E.CG.ret ?_
  exact E.QG.result_c rfl rfl b0 hu25 rfl info25s ⟨_, _, _, _, rfl, C_nums [5, 4] b1 (by decide), C_45 eQ (by decide) b6, L⟩

set_option maxRecDepth 100000 in
set_option maxHeartbeats 8000000 in

theorem works_calls (w : World) :
    Calls Try.prog 12 #[] w fun e w' => e = .returned (.bool true) ∧ Below w.heap.size w w' := by
  have hu3 := Try.underlying3
  have hu22 := Try.underlying22
  have hu25 := Try.underlying25
  have hu26 := Try.underlying26
  refine E.enter (N := 67) Try.func12 rfl Try.ntmps12 (args := []) (by simp) ?_
  have L := Below.refl w.heap.size w
  refine E.CG.seq ?_
  refine E.CG.list ?_
  refine E.GL.run rfl rfl rfl (E.Runs.assign rfl rfl) ?_
  refine E.GL.done ?_
  refine E.QG.code ?_
  refine E.CG.seq ?_
  refine E.CG.list ?_
  refine E.GL.st rfl rfl rfl (E.ST.call rfl ent37 E.evn ((example_calls _).mono ?_))
  rintro e w10 ⟨A, B, c, d, rfl, hC, hD, l10⟩
  refine ⟨_, rfl, ?_⟩
  replace L := below_step L l10
  have lo := Below.refl w10.heap.size w10
  refine E.GL.st rfl rfl rfl (E.ST.alloc rfl info25z fun g1 w1 e1 b1 l1 => ?_)
  have h1_L : w.heap.size ≤ g1 := by rw [e1]; exact L.size
  have h1_lo : w10.heap.size ≤ g1 := by rw [e1]; exact lo.size
  replace L := below_step L l1
  replace lo := below_step lo l1
  refine E.GL.store_whole rfl rfl rfl rfl rfl b1 rfl info25s (slices_one _ _ _ _ _ _) fun wS1_2 c1 lS1_2 => ?_
  replace L := E.below_own L h1_L lS1_2
  replace lo := E.below_own lo h1_lo lS1_2
  replace b1 := c1
  clear c1
  refine E.GL.done ?_
  refine E.QG.code ?_
  refine E.CG.seq ?_
  refine E.CG.list ?_
  refine E.GL.run rfl rfl rfl (E.Runs.loads (cs := [.slice A 2 c, .slice B 4 d]) rfl rfl hu25 rfl info25s (blk_cells b1)) ?_
  refine E.GL.st rfl rfl rfl (E.ST.call rfl ent28 (E.evc rfl (E.evc rfl E.evn)) ((most_calls eP eQ A B c d _ (Kd.C_below hC lo) (Kd.C_below hD lo) (by decide) (by decide) 2).mono ?_))
  rintro e w13 ⟨N13, rfl, hN13, l13⟩
  refine ⟨_, rfl, ?_⟩
  replace b1 := blk_below b1 l13
  replace L := below_step L l13
  replace lo := below_step lo l13
  obtain rfl := eMostR hN13
  rw [eChk 2 (by decide)]
  refine E.GL.run rfl rfl rfl (E.Runs.move rfl rfl) ?_
  refine E.GL.run rfl rfl rfl (E.Runs.extract rfl rfl rfl) ?_
  refine E.GL.run rfl rfl rfl (E.Runs.extract rfl rfl rfl) ?_
  refine E.GL.run rfl rfl rfl (E.Runs.assign rfl rfl) ?_
  refine E.GL.run rfl rfl rfl (E.Runs.assign rfl rfl) ?_
  refine E.GL.done ?_
  refine E.QG.code ?_
  refine E.CG.seq ?_
  refine E.CG.list ?_
  refine E.GL.run rfl rfl rfl (E.Runs.loads (cs := [.slice A 2 c, .slice B 4 d]) rfl rfl hu25 rfl info25s (blk_cells b1)) ?_
  refine E.GL.st rfl rfl rfl (E.ST.call rfl ent21 (E.evc rfl E.evn) ((empty_calls eP eQ A B c d _ (Kd.C_below hC lo) (Kd.C_below hD lo) (by decide) (by decide)).mono ?_))
  rintro e w18 ⟨N18, E18, rfl, hE18, l18⟩
  refine ⟨_, rfl, ?_⟩
  replace b1 := blk_below b1 l18
  replace L := below_step L l18
  replace lo := below_step lo l18
  obtain ⟨rfl, rfl⟩ := eEmptyR hE18
  refine E.GL.run rfl rfl rfl (E.Runs.move rfl rfl) ?_
  refine E.GL.run rfl rfl rfl (E.Runs.extract rfl rfl rfl) ?_
  refine E.GL.run rfl rfl rfl (E.Runs.extract rfl rfl rfl) ?_
  refine E.GL.run rfl rfl rfl (E.Runs.assign rfl rfl) ?_
  refine E.GL.run rfl rfl rfl (E.Runs.assign rfl rfl) ?_
  refine E.GL.done ?_
  refine E.QG.code ?_
  refine E.CG.seq ?_
  refine E.CG.list ?_
  refine E.GL.run rfl rfl rfl (E.Runs.loads (cs := [.slice A 2 c, .slice B 4 d]) rfl rfl hu25 rfl info25s (blk_cells b1)) ?_
  refine E.GL.st rfl rfl rfl (E.ST.call rfl ent25 (E.evc rfl (E.evc rfl E.evn)) ((needed_calls eP eQ A B c d _ (Kd.C_below hC lo) (Kd.C_below hD lo) (by decide) (by decide) 3).mono ?_))
  rintro e w23 ⟨v23, l23, rfl, R23, hL23, l23⟩
  refine ⟨_, rfl, ?_⟩
  replace b1 := blk_below b1 l23
  replace L := below_step L l23
  replace lo := below_step lo l23
  have lx := Below.refl w23.heap.size w23
  obtain rfl := eNeedR hL23
  rw [eChk 3 (by decide)]
  obtain ⟨A23, c23, hv23⟩ := Kd.R_slice R23
  subst hv23
  obtain ⟨_, _, C23⟩ := Kd.R_reads' R23
  refine E.GL.run rfl rfl rfl (E.Runs.move rfl rfl) ?_
  refine E.GL.run rfl rfl rfl (E.Runs.extract rfl rfl rfl) ?_
  refine E.GL.run rfl rfl rfl (E.Runs.extract rfl rfl rfl) ?_
  refine E.GL.run rfl rfl rfl (E.Runs.assign rfl rfl) ?_
  refine E.GL.run rfl rfl rfl (E.Runs.assign rfl rfl) ?_
  refine E.GL.done ?_
  refine E.QG.code ?_
  refine E.CG.seq ?_
  refine E.CG.list ?_
  refine E.GL.run rfl rfl rfl (E.Runs.loads (cs := [.slice A 2 c, .slice B 4 d]) rfl rfl hu25 rfl info25s (blk_cells b1)) ?_
  refine E.GL.run rfl rfl rfl (E.Runs.build rfl (E.epc rfl E.epn) (build35a _)) ?_
  refine E.GL.run rfl rfl rfl (E.Runs.build rfl (E.epc rfl (E.epc rfl E.epn)) (build35b _ _)) ?_
  refine E.GL.run rfl rfl rfl (E.Runs.build rfl (E.epc rfl (E.epc rfl E.epn)) (build35b _ _)) ?_
  refine E.GL.run rfl rfl rfl (E.Runs.build rfl (E.epc rfl (E.epc rfl (E.epc rfl E.epn))) (build35c _ _ _)) ?_
  refine E.GL.st rfl rfl rfl (E.ST.litB (cs := (eL.flatMap three35).toArray) rfl (E.epc rfl (E.epc rfl (E.epc rfl (E.epc rfl E.epn)))) lit26_4 fun g32 w32 e32 b32 l32 => ?_)
  have h32_L : w.heap.size ≤ g32 := by rw [e32]; exact L.size
  have h32_lo : w10.heap.size ≤ g32 := by rw [e32]; exact lo.size
  have h32_lx : w23.heap.size ≤ g32 := by rw [e32]; exact lx.size
  have n32_b1 : g1 ≠ g32 := by have := blk_lt b1; omega
  replace b1 := blk_below b1 l32
  replace L := below_step L l32
  replace lo := below_step lo l32
  replace lx := below_step lx l32
  refine E.GL.st rfl rfl rfl (E.ST.call rfl ent16 (E.evc rfl (E.evc rfl (E.evc rfl E.evn))) ((goneP_calls eP eQ A B _ c d 4 2 eL _ (Kd.C_below hC lo) (Kd.C_below hD lo) (C_35 eL (by decide) b32) (by decide) (by decide) (by decide)).mono ?_))
  rintro e w33 ⟨N33, E33, rfl, hG33, l33⟩
  refine ⟨_, rfl, ?_⟩
  replace b1 := blk_below b1 l33
  replace b32 := blk_below b32 l33
  replace L := below_step L l33
  replace lo := below_step lo l33
  replace lx := below_step lx l33
  obtain ⟨rfl, rfl⟩ := eGoneR hG33
  refine E.GL.run rfl rfl rfl (E.Runs.move rfl rfl) ?_
  refine E.GL.run rfl rfl rfl (E.Runs.extract rfl rfl rfl) ?_
  refine E.GL.run rfl rfl rfl (E.Runs.extract rfl rfl rfl) ?_
  refine E.GL.run rfl rfl rfl (E.Runs.assign rfl rfl) ?_
  refine E.GL.run rfl rfl rfl (E.Runs.assign rfl rfl) ?_
  refine E.GL.done ?_
  refine E.QG.code ?_
  refine E.CG.seq ?_
  refine E.CG.list ?_
  refine E.GL.run rfl rfl rfl (E.Runs.move rfl rfl) ?_
  refine E.GL.run rfl rfl rfl (E.Runs.eql rfl rfl rfl (decide_eq_true rfl)) ?_
  refine E.GL.run rfl rfl rfl (E.Runs.move rfl rfl) ?_
  refine E.GL.run rfl rfl rfl (E.Runs.move rfl rfl) ?_
  refine E.GL.run rfl rfl rfl (E.Runs.eql rfl rfl rfl (decide_eq_true rfl)) ?_
  refine E.GL.run rfl rfl rfl (E.Runs.pick_t rfl rfl rfl) ?_
  refine E.GL.run rfl rfl rfl (E.Runs.move rfl rfl) ?_
  refine E.GL.run rfl rfl rfl (E.Runs.move rfl rfl) ?_
  refine E.GL.run rfl rfl rfl (E.Runs.eql rfl rfl rfl (decide_eq_true rfl)) ?_
  refine E.GL.run rfl rfl rfl (E.Runs.pick_t rfl rfl rfl) ?_
  refine E.GL.run rfl rfl rfl (E.Runs.move rfl rfl) ?_
  refine E.GL.run rfl rfl rfl (E.Runs.move rfl rfl) ?_
  refine E.GL.run rfl rfl rfl (E.Runs.eql rfl rfl rfl (decide_eq_true rfl)) ?_
  refine E.GL.run rfl rfl rfl (E.Runs.pick_t rfl rfl rfl) ?_
  refine E.GL.run rfl rfl rfl (E.Runs.move rfl rfl) ?_
  refine E.GL.run rfl rfl rfl (E.Runs.move rfl rfl) ?_
  refine E.GL.run rfl rfl rfl (E.Runs.eql rfl rfl rfl (decide_eq_true rfl)) ?_
  refine E.GL.run rfl rfl rfl (E.Runs.pick_t rfl rfl rfl) ?_
  refine E.GL.run rfl rfl rfl (E.Runs.move rfl rfl) ?_
  refine E.GL.run rfl rfl rfl (E.Runs.move rfl rfl) ?_
  refine E.GL.run rfl rfl rfl (E.Runs.eql rfl rfl rfl (decide_eq_true rfl)) ?_
  refine E.GL.run rfl rfl rfl (E.Runs.pick_t rfl rfl rfl) ?_
  refine E.GL.run rfl rfl rfl (E.Runs.move rfl rfl) ?_
  refine E.GL.run rfl rfl rfl (E.Runs.move rfl rfl) ?_
  refine E.GL.st rfl rfl rfl (E.ST.litB (cs := (([0, 1, 2] : List Int).map (Value.int .i64)).toArray) rfl (E.epc rfl (E.epc rfl (E.epc rfl E.epn))) lit22_3 fun g60 w60 e60 b60 l60 => ?_)
  have h60_L : w.heap.size ≤ g60 := by rw [e60]; exact L.size
  have h60_lo : w10.heap.size ≤ g60 := by rw [e60]; exact lo.size
  have h60_lx : w23.heap.size ≤ g60 := by rw [e60]; exact lx.size
  have n60_b1 : g1 ≠ g60 := by have := blk_lt b1; omega
  have n60_b32 : g32 ≠ g60 := by have := blk_lt b32; omega
  replace b1 := blk_below b1 l60
  replace b32 := blk_below b32 l60
  replace L := below_step L l60
  replace lo := below_step lo l60
  replace lx := below_step lx l60
  refine E.GL.st rfl rfl rfl (E.ST.call rfl ent18 (E.evc rfl (E.evc rfl E.evn)) ((same_calls [0, 1, 2] [0, 1, 2] A23 _ c23 3 _ true (by simp) (Kd.C_below C23 lx) (C_nums [0, 1, 2] b60 (by decide)) (by decide)).mono ?_))
  rintro e w61 ⟨rfl, l61⟩
  refine ⟨_, rfl, ?_⟩
  replace b1 := blk_below b1 l61
  replace b32 := blk_below b32 l61
  replace b60 := blk_below b60 l61
  replace L := below_step L l61
  replace lo := below_step lo l61
  replace lx := below_step lx l61
  refine E.GL.run rfl rfl rfl (E.Runs.pick_t rfl rfl rfl) ?_
  refine E.GL.run rfl rfl rfl (E.Runs.move rfl rfl) ?_
  refine E.GL.run rfl rfl rfl (E.Runs.move rfl rfl) ?_
  refine E.GL.run rfl rfl rfl (E.Runs.eql rfl rfl rfl (decide_eq_true rfl)) ?_
  refine E.GL.run rfl rfl rfl (E.Runs.pick_t rfl rfl rfl) ?_
  refine E.GL.run rfl rfl rfl (E.Runs.assign rfl rfl) ?_
  refine E.GL.done ?_
  refine E.QG.code ?_
  refine E.CG.ret ?_
  exact E.QG.result rfl rfl ⟨rfl, L⟩

end Go.Proofs.Ytmnjlnkfihklgaa.T
namespace Go.Proofs.Ytmnjlnkfihklgaa.T
open Go.RowKit Go.Proofs.YtmnjlnkfihklgaaW.PrintWords Go.Proofs.YtmnjlnkfihklgaaW.PrintMore
open Go.Proofs.Ytmnjlnkfihklgaa.P
set_option linter.unusedVariables false
theorem sumM_congr {a b : S35 → Int} : ∀ {l : List S35}, (∀ x ∈ l, a x = b x) → sumM a l = sumM b l
  | [], _ => rfl
  | x :: l, h => by simp only [sumM, h x List.mem_cons_self, sumM_congr (fun y hy => h y (List.mem_cons_of_mem _ hy))]
theorem sumM_sub (a b : S35 → Int) : ∀ l : List S35, sumM (fun x => a x - b x) l = sumM a l - sumM b l
  | [] => rfl
  | x :: l => by simp only [sumM, sumM_sub a b l]; omega
/-- A sum of one term over all passages and minutes. -/
theorem sumQ_one {qs : List S45} {T : Nat} {p t : Nat} (hp : p < qs.length) (ht : t + (qs.getD p z45).f3.toNat < T + 1) (a : Nat → Nat → Int) (h : ∀ i k, ¬ (i = p ∧ k = t) → a i k = 0) : sumQ T qs a = a p t := by
  unfold sumQ
  rw [sumN_eq (u := p) hp, sumN_eq (u := t) (by omega)]
  · intro k _ hk
    exact h p k (fun z => hk z.2)
  · intro i _ hi
    rw [sumN_congr (b := fun _ => 0), sumN_zero]
    intro k _
    exact h i k (fun z => hi z.1)
/-- A sum over moves is one over the passages and minutes. -/
theorem sumM_uses {qs : List S45} {T : Nat} (C : Nat → Nat → Prop) [∀ i k, Decidable (C i k)] : ∀ {l : List S35}, (∀ x ∈ l, MvOk qs T x) →
    sumM (fun x => if C x.f1.toNat x.f0.toNat then x.f2 else 0) l = sumQ T qs (fun i k => if C i k then usedM l i k else 0)
  | [], _ => by
    rw [sumQ_congr (b := fun _ _ => 0), sumQ_zero]
    · rfl
    · intro i k _ _
      split <;> rfl
  | x :: l, h => by
    have ih := sumM_uses C (l := l) (fun y hy => h y (List.mem_cons_of_mem _ hy))
    obtain ⟨⟨a1, a2⟩, ⟨b1, b2⟩, c1, c2, d1⟩ := h x List.mem_cons_self
    have e1 : sumQ T qs (fun i k => if C i k then usedM (x :: l) i k else 0) = sumQ T qs (fun i k => if C i k then usedF i k x else 0) + sumQ T qs (fun i k => if C i k then usedM l i k else 0) := by
      rw [← sumQ_add]
      refine sumQ_congr fun i k _ _ => ?_
      by_cases q : C i k
      · rw [if_pos q, if_pos q, if_pos q]; rfl
      · rw [if_neg q, if_neg q, if_neg q]; rfl
    have e2 := sumQ_one (T := T) (qs := qs) (p := x.f1.toNat) (t := x.f0.toNat) (by omega) (by have : (qs.getD x.f1.toNat z45).f3.toNat ≤ (T - x.f0).toNat := by omega
                                                                                               omega) (fun i k => if C i k then usedF i k x else 0) (fun i k hn => by
      have : usedF i k x = 0 := by
        unfold usedF
        rw [if_neg]
        rintro ⟨q1, q2⟩
        exact hn ⟨by omega, by omega⟩
      rw [this]
      split <;> rfl)
    have e3 : usedF (x.f1.toNat : Nat) (x.f0.toNat : Nat) x = x.f2 := by
      unfold usedF
      rw [if_pos ⟨by omega, by omega⟩]
    simp only [sumM]
    rw [ih, e1, e2]
    simp only [e3]
theorem isPl_all {ps : List Int} {qs : List S45} {T : Nat} {l : List S35} (h : IsPl ps qs T l) : ∀ x ∈ l, MvOk qs T x := fun x hx => by
  obtain ⟨k, hk⟩ := List.mem_iff_getElem?.mp hx
  exact (h.mv k x hk).1
/-- Who is in a room by moves that are right. -/
theorem thM_is {ps : List Int} {qs : List S45} (hok : HOk ps qs) {T : Nat} {l : List S35} (h : ∀ x ∈ l, MvOk qs T x) (r m : Nat) : thM ps qs l r m = thereU ps qs T (fun i k => usedM l i k) r m := by
  have e1 : _ = arrU qs T (fun i k => usedM l i k) r m := sumM_uses (T := T) (fun i k => (qs.getD i z45).f1 = r ∧ k + (qs.getD i z45).f3.toNat ≤ m) h
  have e2 : _ = depU qs T (fun i k => usedM l i k) r m := sumM_uses (T := T) (fun i k => (qs.getD i z45).f0 = r ∧ k ≤ m) h
  have e3 : sumM (thF qs r m) l = sumM (fun x => if (qs.getD x.f1.toNat z45).f1 = r ∧ x.f0.toNat + (qs.getD x.f1.toNat z45).f3.toNat ≤ m then x.f2 else 0) l - sumM (fun x => if (qs.getD x.f1.toNat z45).f0 = r ∧ x.f0.toNat ≤ m then x.f2 else 0) l := by
    rw [← sumM_sub]
    refine sumM_congr fun x hx => ?_
    obtain ⟨⟨a1, a2⟩, ⟨b1, b2⟩, c1, c2, d1⟩ := h x hx
    obtain ⟨_, _, _, _, _, _, _, h8, h9⟩ := hok.q _ (getD_mem (z := z45) (show x.f1.toNat < qs.length by omega))
    unfold thF
    congr 1
    · by_cases q : (qs.getD x.f1.toNat z45).f1 = r ∧ x.f0 + (qs.getD x.f1.toNat z45).f3 ≤ m
      · rw [if_pos q, if_pos ⟨q.1, by omega⟩]
      · rw [if_neg q, if_neg (fun z => q ⟨z.1, by omega⟩)]
    · by_cases q : (qs.getD x.f1.toNat z45).f0 = r ∧ x.f0 ≤ m
      · rw [if_pos q, if_pos ⟨q.1, by omega⟩]
      · rw [if_neg q, if_neg (fun z => q ⟨z.1, by omega⟩)]
  unfold thM thereU
  rw [e3, e1, e2]
  omega
theorem outM_is {qs : List S45} {T : Nat} {l : List S35} (h : ∀ x ∈ l, MvOk qs T x) : outM qs l = outU qs T (fun i k => usedM l i k) := by
  have e1 := sumM_uses (T := T) (fun i k => (qs.getD i z45).f1 = -1) h
  exact e1
theorem usedF_nonneg {qs : List S45} {T : Int} {x : S35} (h : MvOk qs T x) (p t : Int) : 0 ≤ usedF p t x := by
  obtain ⟨_, _, c1, _⟩ := h
  unfold usedF
  split <;> omega
/-- A plan is a use. -/
theorem IsPl.use {ps : List Int} {qs : List S45} (hok : HOk ps qs) {T : Nat} {l : List S35} (h : IsPl ps qs T l) : Use ps qs T (fun i k => usedM l i k) := by
  have hall := isPl_all h
  refine ⟨fun i k hi hk => ?_, fun r m hr hm => by rw [← thM_is hok hall]; exact h.th r m hr hm⟩
  obtain ⟨_, _, _, _, _, h6, _, _, _⟩ := hok.q _ (getD_mem (z := z45) hi)
  have key : ∀ n, n ≤ l.length → 0 ≤ usedM (l.take n) i k ∧ usedM (l.take n) i k ≤ (qs.getD i z45).f2 := by
    intro n
    induction n with
    | zero => intro _; simp only [List.take_zero, usedM, sumM]; omega
    | succ n ih =>
      intro hn
      have hx : l[n]? = some (l[n]'(by omega)) := List.getElem?_eq_getElem _
      generalize (l[n]'(by omega)) = x at hx
      obtain ⟨h1, h2⟩ := ih (by omega)
      have hm := h.mv n x hx
      have hst := sumM_step (h := usedF i k) hx
      have h0 := usedF_nonneg hm.1 i k
      have hst' : usedM (l.take (n + 1)) i k = usedM (l.take n) i k + usedF i k x := hst
      refine ⟨by omega, ?_⟩
      by_cases q : x.f0 = k ∧ x.f1 = i
      · have := hm.2
        rw [q.1, q.2, Int.toNat_natCast] at this
        exact this
      · have : usedF i k x = 0 := by unfold usedF; rw [if_neg q]
        omega
  have := key l.length (Nat.le_refl _)
  rw [List.take_length] at this
  exact this
theorem IsPl.le {ps : List Int} {qs : List S45} (hok : HOk ps qs) {T : Nat} {l : List S35} (h : IsPl ps qs T l) {N : Int} (k : IsMost ps qs T N) : outM qs l ≤ N := by
  obtain ⟨_, hr, _, e⟩ := k
  rw [outM_is (isPl_all h), ← e]
  exact use_le hok (h.use hok) hr
end Go.Proofs.Ytmnjlnkfihklgaa.T
namespace Go.Proofs.Ytmnjlnkfihklgaa.T
open Go.RowKit Go.Proofs.YtmnjlnkfihklgaaW.PrintWords Go.Proofs.YtmnjlnkfihklgaaW.PrintMore
open Go.Proofs.Ytmnjlnkfihklgaa.P
set_option linter.unusedVariables false
def sumH (W : Nat × Bool → Int) : List (Nat × Bool) → Int
  | [] => 0
  | h :: r => W h + sumH W r
def sumK (W : Nat × Bool → Int) : List Ed → Nat → Int
  | [], _ => 0
  | e :: r, k => W (k, true) + W (k, false) + sumK W r (k + 1)
/-- All halves, by their nodes, are all edges' halves. -/
theorem sumH_all (W : Nat × Bool → Int) (n : Nat) : ∀ (E : List Ed) (k : Nat), EdsOk E n → sumN (fun v => sumH W (hs v E k)) n = sumK W E k
  | [], k, _ => by
    have : sumN (fun v => sumH W (hs v [] k)) n = sumN (fun _ => 0) n := sumN_congr (fun v _ => rfl)
    rw [this, sumN_zero]
    rfl
  | e :: r, k, h => by
    obtain ⟨h1, h2, h3⟩ := h e List.mem_cons_self
    have ih := sumH_all W n r (k + 1) (fun x hx => h x (List.mem_cons_of_mem _ hx))
    have e1 : sumN (fun v => sumH W (hs v (e :: r) k)) n = sumN (fun v => if True then (if e.fr = v then W (k, true) else 0) else 0) n + sumN (fun v => if True then (if e.td = v then W (k, false) else 0) else 0) n + sumN (fun v => sumH W (hs v r (k + 1))) n := by
      rw [← sumN_add, ← sumN_add]
      refine sumN_congr fun v _ => ?_
      simp only [hs, if_true]
      by_cases a : e.fr = v
      · rw [if_pos a, if_pos a, if_neg (fun z => h3 (a.trans z.symm))]
        simp only [sumH]
        omega
      · rw [if_neg a, if_neg a]
        by_cases b : e.td = v
        · rw [if_pos b, if_pos b]
          simp only [sumH]
          omega
        · rw [if_neg b, if_neg b]
          omega
    rw [e1, sumN_one, sumN_one, if_pos ⟨h1, trivial⟩, if_pos ⟨h2, trivial⟩, ih]
    rfl
theorem sumK_is {W : Nat × Bool → Int} {G : Ed → Int} : ∀ (E : List Ed) (k0 : Nat), (∀ j e, E[j]? = some e → W (k0 + j, true) + W (k0 + j, false) = G e) → sumK W E k0 = sumE G E
  | [], _, _ => rfl
  | e :: r, k0, h => by
    have ih := sumK_is (W := W) (G := G) r (k0 + 1) (fun j x hx => by
      have := h (j + 1) x (by simpa using hx)
      rw [show k0 + (j + 1) = k0 + 1 + j by omega] at this
      exact this)
    have h0 := h 0 e rfl
    rw [Nat.add_zero] at h0
    simp only [sumK, sumE, ih]
    omega
theorem sumM_row (h : S35 → Int) (qs : List S45) (Es : List Ed) (f : Nat → Int) : ∀ l : List (Nat × Bool), sumM h (mvR qs (l.map (entP Es f))) = sumH (fun p => sumM h (mvE qs (entP Es f p))) l
  | [] => rfl
  | p :: l => by
    have := sumM_row h qs Es f l
    simp only [mvR, List.map_cons, List.flatMap_cons, sumM_append, sumH] at *
    omega
theorem sumM_mvN (h : S35 → Int) (qs : List S45) (Es : List Ed) (f : Nat → Int) : ∀ n, sumM h (mvN Es f qs n) = sumN (fun v => sumH (fun p => sumM h (mvE qs (entP Es f p))) (hs v Es 0)) n
  | 0 => rfl
  | n + 1 => by
    rw [mvN_step, sumM_append, sumM_mvN h qs Es f n]
    simp only [sumN]
    congr 1
    exact sumM_row h qs Es f _
section
variable {ps : List Int} {qs : List S45} {T : Nat} {f : Nat → Int} {out : Int}
/-- The moves of a half of an edge of a house. -/
theorem mvE_back {e : Ed} {k : Nat} (he : (edH ps qs T)[k]? = some e) : mvE qs (entP (edH ps qs T) f (k, false)) = [] := by
  rw [entP_is he]
  unfold mvE
  rw [if_pos (by simp)]
theorem mvE_room {e : Ed} {k : Nat} (he : (edH ps qs T)[k]? = some e) (hu : e.up = -1) : mvE qs (entP (edH ps qs T) f (k, true)) = [] := by
  rw [entP_is he]
  unfold mvE
  simp only [if_true, hu]
  rfl
theorem mvE_pass {i j k : Nat} (he : (edH ps qs T)[k]? = some (passE qs T i j)) : mvE qs (entP (edH ps qs T) f (k, true)) = if 0 < f k then [⟨(j : Int), (i : Int), f k⟩] else [] := by
  rw [entP_is he]
  unfold mvE roomP
  rw [getD_at he]
  have e1 : (passE qs T i j).up = (i : Int) := rfl
  have e2 : (passE qs T i j).um = (j : Int) := rfl
  have e3 : (passE qs T i j).cap = (qs.getD i z45).f2 := rfl
  simp only [if_true, e1, e2, e3]
  rw [if_neg (by omega), Int.toNat_natCast, show (qs.getD i z45).f2 - ((qs.getD i z45).f2 - f k) = f k by omega]
theorem edge_kind {e : Ed} {k : Nat} (he : (edH ps qs T)[k]? = some e) : e.up = -1 ∨ ∃ i j, i < qs.length ∧ j + (qs.getD i z45).f3.toNat < T + 1 ∧ e = passE qs T i j := by
  rcases List.mem_append.mp (List.mem_of_getElem? he) with hm | hm
  · obtain ⟨r, hr, rfl | ⟨m, hm', rfl⟩⟩ := edRs_mem hm
    · exact .inl rfl
    · exact .inl rfl
  · obtain ⟨i, m, hi, hm', rfl⟩ := edQs_mem hm
    exact .inr ⟨i, m, hi, hm', rfl⟩
/-- A sum over the plan of a flow. -/
theorem plan_sum (h : HOk ps qs) (F : HFlow ps qs T f out) (C : Nat → Nat → Prop) [∀ i k, Decidable (C i k)] :
    sumM (fun x => if C x.f1.toNat x.f0.toNat then x.f2 else 0) (mvN (edH ps qs T) f qs (nodeN T ps.length 0)) = sumQ T qs (fun i k => if C i k then useF ps qs T f i k else 0) := by
  have hg : ∀ k e, (edH ps qs T)[k]? = some e → f k = gOf f (edH ps qs T) e := fun k e he => gOf_is (edH_nodup ps qs T) he
  rw [sumM_mvN, sumH_all _ _ _ _ (edH_ok h), sumK_is (G := fun e => if 0 ≤ e.up then (if C e.up.toNat e.um.toNat then gOf f (edH ps qs T) e else 0) else 0), sumE_house]
  · have e1 : sumN (fun r => (if 0 ≤ (srcE ps T r).up then (if C (srcE ps T r).up.toNat (srcE ps T r).um.toNat then gOf f (edH ps qs T) (srcE ps T r) else 0) else 0) + sumN (fun m => if 0 ≤ (holdE T r m).up then (if C (holdE T r m).up.toNat (holdE T r m).um.toNat then gOf f (edH ps qs T) (holdE T r m) else 0) else 0) T) ps.length = 0 := by
      rw [sumN_congr (b := fun _ => 0), sumN_zero]
      intro r _
      rw [if_neg (show ¬ (0 : Int) ≤ (srcE ps T r).up from by show ¬ (0 : Int) ≤ -1; decide), sumN_congr (b := fun _ => 0), sumN_zero]
      · rfl
      · intro m _
        exact if_neg (show ¬ (0 : Int) ≤ (holdE T r m).up from by show ¬ (0 : Int) ≤ -1; decide)
    rw [e1, Int.zero_add]
    refine sumQ_congr fun i k _ _ => ?_
    rw [if_pos (show (0 : Int) ≤ (passE qs T i k).up from by show (0 : Int) ≤ (i : Int); omega)]
    rfl
  · intro j e he
    rw [Nat.zero_add, mvE_back he]
    rcases edge_kind he with hu | ⟨i, m, hi, hm, rfl⟩
    · rw [mvE_room he hu, if_neg (by omega)]
      rfl
    · rw [mvE_pass he, if_pos (show (0 : Int) ≤ (passE qs T i m).up from by show (0 : Int) ≤ (i : Int); omega), ← hg j _ he]
      have hp := F.pos j _ he
      have e1 : (passE qs T i m).up.toNat = i := rfl
      have e2 : (passE qs T i m).um.toNat = m := rfl
      rw [e1, e2]
      by_cases q : 0 < f j
      · rw [if_pos q]
        simp only [sumM, Int.toNat_natCast]
        omega
      · rw [if_neg q, show f j = 0 by omega]
        simp only [sumM]
        split <;> rfl
theorem plan_mem (h : HOk ps qs) (F : HFlow ps qs T f out) : ∀ x ∈ mvN (edH ps qs T) f qs (nodeN T ps.length 0), MvOk qs T x := by
  intro x hx
  unfold mvN at hx
  obtain ⟨v, hv, hx⟩ := List.mem_flatMap.mp hx
  obtain ⟨y, hy, hx⟩ := List.mem_flatMap.mp hx
  obtain ⟨a, ha⟩ := List.mem_iff_getElem?.mp hy
  obtain ⟨k, b, e, _, he, _, rfl⟩ := rowP_half ha
  cases b with
  | false => rw [mvE_back he] at hx; cases hx
  | true =>
    rcases edge_kind he with hu | ⟨i, m, hi, hm, rfl⟩
    · rw [mvE_room he hu] at hx; cases hx
    · rw [mvE_pass he] at hx
      have hc := F.cap k _ he (.inr (show ((i : Nat) : Int) ≠ -1 by omega))
      have hc' : f k ≤ (qs.getD i z45).f2 := hc
      obtain ⟨_, _, _, _, _, h6, h7, h8, h9⟩ := h.q _ (getD_mem (z := z45) hi)
      split at hx
      · next q =>
        obtain rfl : x = ⟨(m : Int), (i : Int), f k⟩ := by simpa using hx
        refine ⟨⟨by simp only; omega, by simp only; omega⟩, ⟨by simp only; omega, by simp only; omega⟩, by simp only; omega, by simp only; omega, ?_⟩
        show (m : Int) + (qs.getD ((i : Nat) : Int).toNat z45).f3 ≤ T
        rw [Int.toNat_natCast]
        omega
      · cases hx
theorem usedM_take {l : List S35} (h : ∀ x ∈ l, MvOk qs T x) (p t : Int) (n : Nat) : usedM (l.take n) p t ≤ usedM l p t := by
  have e : usedM l p t = usedM (l.take n) p t + usedM (l.drop n) p t := by
    unfold usedM
    rw [← sumM_append, List.take_append_drop]
  have : 0 ≤ usedM (l.drop n) p t := by
    unfold usedM
    have : ∀ k : List S35, (∀ x ∈ k, MvOk qs T x) → 0 ≤ sumM (usedF p t) k := by
      intro k
      induction k with
      | nil => intro _; exact Int.le_refl _
      | cons x k ih =>
        intro hk
        have h1 := usedF_nonneg (hk x List.mem_cons_self) p t
        have h2 := ih (fun y hy => hk y (List.mem_cons_of_mem _ hy))
        simp only [sumM]
        omega
    exact this _ (fun x hx => h x (List.mem_of_mem_drop hx))
  omega
theorem plan_used (h : HOk ps qs) (F : HFlow ps qs T f out) {i k : Nat} (hi : i < qs.length) (hk : k + (qs.getD i z45).f3.toNat < T + 1) : usedM (mvN (edH ps qs T) f qs (nodeN T ps.length 0)) i k = useF ps qs T f i k := by
  have e1 := plan_sum h F (fun a b => a = i ∧ b = k)
  have e2 := sumQ_one (T := T) (qs := qs) hi hk (fun a b => if a = i ∧ b = k then useF ps qs T f a b else 0) (fun a b hn => if_neg hn)
  rw [e2, if_pos ⟨rfl, rfl⟩] at e1
  rw [← e1]
  unfold usedM
  refine sumM_congr fun x hx => ?_
  obtain ⟨⟨a1, a2⟩, ⟨b1, b2⟩, _⟩ := plan_mem h F x hx
  unfold usedF
  by_cases q : x.f0 = k ∧ x.f1 = i
  · rw [if_pos q, if_pos ⟨by omega, by omega⟩]
  · rw [if_neg q, if_neg (fun z => q ⟨by omega, by omega⟩)]
/-- The plan of a flow. -/
theorem plan_is (h : HOk ps qs) (F : HFlow ps qs T f out) : IsPl ps qs T (mvN (edH ps qs T) f qs (nodeN T ps.length 0)) ∧ outM qs (mvN (edH ps qs T) f qs (nodeN T ps.length 0)) = out := by
  have hall := plan_mem h F
  obtain ⟨hu, ho⟩ := F.use h
  have arr : ∀ r m, arrU qs T (fun i k => usedM (mvN (edH ps qs T) f qs (nodeN T ps.length 0)) i k) r m = arrU qs T (useF ps qs T f) r m := fun r m => by
    unfold arrU
    refine sumQ_congr fun i k hi hk => ?_
    dsimp only
    rw [plan_used h F hi hk]
  have dep : ∀ r m, depU qs T (fun i k => usedM (mvN (edH ps qs T) f qs (nodeN T ps.length 0)) i k) r m = depU qs T (useF ps qs T f) r m := fun r m => by
    unfold depU
    refine sumQ_congr fun i k hi hk => ?_
    dsimp only
    rw [plan_used h F hi hk]
  refine ⟨⟨fun a x hx => ⟨hall x (List.mem_of_getElem? hx), ?_⟩, fun r m hr hm => ?_⟩, ?_⟩
  · have hm := hall x (List.mem_of_getElem? hx)
    obtain ⟨⟨a1, a2⟩, ⟨b1, b2⟩, c1, c2, d1⟩ := hm
    have hi : x.f1.toNat < qs.length := by omega
    have hk : x.f0.toNat + (qs.getD x.f1.toNat z45).f3.toNat < T + 1 := by omega
    have h1 := usedM_take hall x.f1 x.f0 (a + 1)
    have h2 := plan_used h F hi hk
    have h3 := (hu.w _ _ hi hk).2
    rw [Int.toNat_of_nonneg b1, Int.toNat_of_nonneg a1] at h2
    show _ ≤ (qs.getD x.f1.toNat z45).f2
    omega
  · rw [thM_is h hall]
    have := hu.there r m hr hm
    unfold thereU at this ⊢
    rw [arr, dep]
    exact this
  · rw [outM_is hall, ← ho]
    unfold outU
    refine sumQ_congr fun i k hi hk => ?_
    dsimp only
    rw [plan_used h F hi hk]
end
end Go.Proofs.Ytmnjlnkfihklgaa.T
namespace Go.Proofs.Ytmnjlnkfihklgaa.T
open Go.RowKit Go.Proofs.YtmnjlnkfihklgaaW.PrintWords Go.Proofs.YtmnjlnkfihklgaaW.PrintMore
open Go.Proofs.Ytmnjlnkfihklgaa.P
set_option linter.unusedVariables false
theorem mostR_one {ps : List Int} {qs : List S45} {m N M : Int} (a : MostR ps qs m N) (b : MostR ps qs m M) : N = M := by
  by_cases h : chkE ps qs m = 0
  · exact (a.1 h).one (chkE_ok.mp h).1 (b.1 h)
  · rw [a.2 h, b.2 h]
section
variable {ps : List Int} {qs : List S45} {T : Nat}
theorem sumM_len : ∀ l : List S35, sumM (fun _ => 1) l = l.length
  | [] => rfl
  | x :: l => by simp only [sumM, sumM_len l, List.length_cons]; push_cast; omega
theorem sumK_le {W : Nat × Bool → Int} : ∀ (E : List Ed) (k0 : Nat), (∀ j e, E[j]? = some e → W (k0 + j, true) + W (k0 + j, false) ≤ 1) → sumK W E k0 ≤ E.length
  | [], _, _ => by simp [sumK]
  | e :: r, k0, h => by
    have h0 := h 0 e rfl
    have ih := sumK_le r (k0 + 1) (fun j x hx => by
      have := h (j + 1) x (by simpa using hx)
      rw [show k0 + (j + 1) = k0 + 1 + j by omega] at this
      exact this)
    simp only [sumK, List.length_cons, Nat.add_zero] at *
    push_cast
    omega
theorem mvN_few (h : HOk ps qs) (f : Nat → Int) : (mvN (edH ps qs T) f qs (nodeN T ps.length 0)).length ≤ (edH ps qs T).length := by
  have h1 := sumM_len (mvN (edH ps qs T) f qs (nodeN T ps.length 0))
  rw [sumM_mvN, sumH_all _ _ _ _ (edH_ok h)] at h1
  have h2 := sumK_le (W := fun p => sumM (fun _ => 1) (mvE qs (entP (edH ps qs T) f p))) (edH ps qs T) 0 (fun j e he => by
    rw [Nat.zero_add, mvE_back he]
    rcases edge_kind he with hu | ⟨i, m, hi, hm, rfl⟩
    · rw [mvE_room he hu]
      simp [sumM]
    · rw [mvE_pass he]
      split <;> simp [sumM])
  omega
theorem planR_ok (h : HOk ps qs) (hT : T ≤ 60) {l : List S35} {N : Int} (a : PlanR ps qs T l) (b : IsMost ps qs T N) : IsPl ps qs T l ∧ outM qs l = N ∧ l.length ≤ 2000 := by
  obtain ⟨f, out, M, rfl⟩ := a.1 (chkE_ok.mpr ⟨h, by unfold inR; omega⟩)
  rw [Int.toNat_natCast] at M ⊢
  obtain ⟨k1, k2⟩ := plan_is h M.hflow
  have e := (M.most h).one h b
  have k3 := mvN_few h (T := T) f
  have k4 := edH_len h hT
  exact ⟨k1, k2.trans e, by omega⟩
theorem proofR_ok (h : HOk ps qs) (hT : T ≤ 60) {hs : List Int} {N : Int} (a : ProofR ps qs T hs) (b : IsMost ps qs T N) : HrsOk ps.length T hs ∧ boundU ps qs T (hrF hs) = N ∧ hs.length ≤ 40 := by
  obtain ⟨f, out, bl, il, M, hR, rfl⟩ := a.1 (chkE_ok.mpr ⟨h, by unfold inR; omega⟩)
  rw [Int.toNat_natCast] at M hR ⊢
  have hh := hourN_hrs ps T il
  have hF : ∀ r, r < ps.length → hrF (hrsL T il ps.length) r = hourN T il r := fun r hr => by
    unfold hrF hrsL
    rw [List.getD_eq_getElem?_getD, List.getElem?_map, List.getElem?_range hr]
    simp
  have e := (M.most h).one h b
  refine ⟨⟨fun x hx => ?_, hrsL_len _ _ _⟩, ?_, ?_⟩
  · obtain ⟨r, hr, rfl⟩ := List.mem_map.mp hx
    have := (hh r (List.mem_range.mp hr)).1
    unfold inR
    omega
  · rw [← e]
    refine M.hours h hR (hr := hrF (hrsL T il ps.length)) fun r hr => ?_
    rw [hF r hr]
    exact hh r hr
  · rw [hrsL_len]
    have := h.r6
    omega
end
theorem planR_few {ps : List Int} {qs : List S45} {m N : Int} {l : List S35} (a : PlanR ps qs m l) (b : MostR ps qs m N) : l.length ≤ 2000 := by
  by_cases h : chkE ps qs m = 0
  · obtain ⟨hH, h0, h1⟩ := chkE_ok.mp h
    obtain ⟨T, rfl⟩ : ∃ T : Nat, m = T := ⟨m.toNat, by omega⟩
    have := b.1 h
    rw [Int.toNat_natCast] at this
    exact (planR_ok hH (by omega) a this).2.2
  · rw [a.2 h]
    simp
theorem proofR_few {ps : List Int} {qs : List S45} {m N : Int} {l : List Int} (a : ProofR ps qs m l) (b : MostR ps qs m N) : l.length ≤ 40 := by
  by_cases h : chkE ps qs m = 0
  · obtain ⟨hH, h0, h1⟩ := chkE_ok.mp h
    obtain ⟨T, rfl⟩ : ∃ T : Nat, m = T := ⟨m.toNat, by omega⟩
    have := b.1 h
    rw [Int.toNat_natCast] at this
    exact (proofR_ok hH (by omega) a this).2.2
  · rw [a.2 h]
    simp
end Go.Proofs.Ytmnjlnkfihklgaa.T
namespace Go.Proofs.Ytmnjlnkfihklgaa.T
open Go.RowKit Go.Proofs.YtmnjlnkfihklgaaW.PrintWords Go.Proofs.YtmnjlnkfihklgaaW.PrintMore
open Go.Proofs.Ytmnjlnkfihklgaa.P
set_option linter.unusedVariables false
set_option linter.unusedSimpArgs false

set_option maxRecDepth 100000 in
set_option maxHeartbeats 8000000 in

theorem most_law (ps : List Int) (qs : List S45) (A B : Option Addr) (c d : Nat) (w : World) (hP : Kd.C kI w A ps.length ps) (hQ : Kd.C k45 w B qs.length qs) (m1 : Int) :
    Calls Try.prog 9 #[hv ps qs A B c d, .int .i64 m1] w fun e w' => e = .returned (.bool true) ∧ Below w.heap.size w w' := by
  have hu3 := Try.underlying3
  have hu22 := Try.underlying22
  have hu25 := Try.underlying25
  have hu26 := Try.underlying26
  obtain ⟨z3, o3⟩ := info_some info3s (by decide)
  obtain ⟨z25, o25⟩ := info_some info25s (by decide)
  refine E.enter (N := 116) Try.func9 rfl Try.ntmps9 (args := [hv ps qs A B c d, .int .i64 m1]) (by simp) ?_
  have L := Below.refl w.heap.size w
  refine E.CG.seq ?_
  refine E.CG.list ?_
  refine E.GL.st rfl rfl rfl (E.ST.box rfl rfl fun g2 w2 e2 b2 l2 => ?_)
  have h2_L : w.heap.size ≤ g2 := by rw [e2]; exact L.size
  replace L := below_step L l2
  refine E.GL.run rfl rfl rfl (E.Runs.assign rfl rfl) ?_
  refine E.GL.done ?_
  refine E.QG.code ?_
  refine E.CG.seq ?_
  refine E.CG.seq ?_
  refine E.CG.list ?_
  refine E.GL.run rfl rfl rfl (E.Runs.loads (cs := [.slice A ps.length c, .slice B qs.length d]) rfl rfl hu25 rfl info25s (blk_cells b2)) ?_
  by_cases h15 : farH ps qs
  · refine E.GL.st rfl rfl rfl (E.ST.call rfl ent19 (E.evc rfl E.evn) ((far_calls ps qs A B c d _ true (Kd.C_below hP L) (Kd.C_below hQ L) (iff_of_true rfl h15)).mono ?_))
    rintro e w15 ⟨rfl, l15⟩
    refine ⟨_, rfl, ?_⟩
    replace b2 := blk_below b2 l15
    replace L := below_step L l15
    refine E.GL.run rfl rfl rfl (E.Runs.move rfl rfl) ?_
    refine E.GL.skip rfl rfl rfl ?_
    refine E.GL.skip rfl rfl rfl ?_
    refine E.GL.run rfl rfl rfl (E.Runs.pick_t rfl rfl rfl) ?_
    refine E.GL.done ?_
    refine E.QG.code ?_
    refine E.CG.cond_t rfl ?_
    refine E.CG.seq ?_
    refine E.CG.list ?_
    refine E.GL.st rfl rfl rfl (E.ST.call rfl ent12 E.evn ((works_calls _).mono ?_))
    rintro e w20 ⟨rfl, l20⟩
    refine ⟨_, rfl, ?_⟩
    replace b2 := blk_below b2 l20
    replace L := below_step L l20
    refine E.GL.run rfl rfl rfl (E.Runs.assign rfl rfl) ?_
    refine E.GL.done ?_
    refine E.QG.code ?_
    refine E.CG.ret ?_
    refine E.QG.pass_ret ?_
    exact E.QG.result rfl rfl ⟨rfl, L⟩
  · refine E.GL.st rfl rfl rfl (E.ST.call rfl ent19 (E.evc rfl E.evn) ((far_calls ps qs A B c d _ false (Kd.C_below hP L) (Kd.C_below hQ L) (iff_of_false Bool.false_ne_true h15)).mono ?_))
    rintro e w15 ⟨rfl, l15⟩
    refine ⟨_, rfl, ?_⟩
    replace b2 := blk_below b2 l15
    replace L := below_step L l15
    refine E.GL.run rfl rfl rfl (E.Runs.move rfl rfl) ?_
    refine E.GL.run rfl rfl rfl (E.Runs.move rfl rfl) ?_
    by_cases h18 : late m1
    · refine E.GL.st rfl rfl rfl (E.ST.call rfl ent20 (E.evc rfl E.evn) ((late_calls m1 _ true (iff_of_true rfl h18)).mono ?_))
      rintro e w18 ⟨rfl, l18⟩
      refine ⟨_, rfl, ?_⟩
      replace b2 := blk_below b2 l18
      replace L := below_step L l18
      refine E.GL.run rfl rfl rfl (E.Runs.pick_f rfl rfl rfl) ?_
      refine E.GL.done ?_
      refine E.QG.code ?_
      refine E.CG.cond_t rfl ?_
      refine E.CG.seq ?_
      refine E.CG.list ?_
      refine E.GL.st rfl rfl rfl (E.ST.call rfl ent12 E.evn ((works_calls _).mono ?_))
      rintro e w20 ⟨rfl, l20⟩
      refine ⟨_, rfl, ?_⟩
      replace b2 := blk_below b2 l20
      replace L := below_step L l20
      refine E.GL.run rfl rfl rfl (E.Runs.assign rfl rfl) ?_
      refine E.GL.done ?_
      refine E.QG.code ?_
      refine E.CG.ret ?_
      refine E.QG.pass_ret ?_
      exact E.QG.result rfl rfl ⟨rfl, L⟩
    · obtain ⟨hb1, hb2⟩ := not_far h15
      refine E.GL.st rfl rfl rfl (E.ST.call rfl ent20 (E.evc rfl E.evn) ((late_calls m1 _ false (iff_of_false Bool.false_ne_true h18)).mono ?_))
      rintro e w18 ⟨rfl, l18⟩
      refine ⟨_, rfl, ?_⟩
      replace b2 := blk_below b2 l18
      replace L := below_step L l18
      refine E.GL.run rfl rfl rfl (E.Runs.pick_f rfl rfl rfl) ?_
      refine E.GL.done ?_
      refine E.QG.code ?_
      refine E.CG.cond_f rfl ?_
      refine E.CG.skip ?_
      refine E.QG.code ?_
      refine E.CG.seq ?_
      refine E.CG.list ?_
      refine E.GL.run rfl rfl rfl (E.Runs.loads (cs := [.slice A ps.length c, .slice B qs.length d]) rfl rfl hu25 rfl info25s (blk_cells b2)) ?_
      have hs22 := L.size
      refine E.GL.st rfl rfl rfl (E.ST.call rfl ent13 (E.evc rfl E.evn) ((copy_calls ps qs A B c d _ (Kd.C_below hP L) (Kd.C_below hQ L) (by omega) (by omega)).mono ?_))
      rintro e w22 ⟨A3, B3, c3, d3, rfl, RP, RQ, l22⟩
      refine ⟨_, rfl, ?_⟩
      replace b2 := blk_below b2 l22
      replace L := below_step L l22
      replace RP := Kd.R_lower RP hs22
      replace RQ := Kd.R_lower RQ hs22
      refine E.GL.st rfl rfl rfl (E.ST.alloc rfl info25z fun g5 w5 e5 b5 l5 => ?_)
      have h5_L : w.heap.size ≤ g5 := by rw [e5]; exact L.size
      have n5_b2 : g2 ≠ g5 := by have := blk_lt b2; omega
      have n5_RP : some g5 ≠ ((Value.slice A3 ps.length c3)).ownBlock := fun h => by have := Kd.R_lt RP _ h.symm; omega
      have n5_RQ : some g5 ≠ ((Value.slice B3 qs.length d3)).ownBlock := fun h => by have := Kd.R_lt RQ _ h.symm; omega
      replace b2 := blk_below b2 l5
      replace RP := Kd.R_below RP l5
      replace RQ := Kd.R_below RQ l5
      replace L := below_step L l5
      refine E.GL.store_whole rfl rfl rfl rfl rfl b5 rfl info25s (slices_one _ _ _ _ _ _) fun wS3_3 c5 lS3_3 => ?_
      replace b2 := blk_grown b2 lS3_3 (E.nes (by first | assumption | exact Ne.symm (by assumption)))
      replace RP := Kd.R_grown1 RP rfl lS3_3 (by first | assumption | exact Kd.R_ne RP b5 (by decide))
      replace RQ := Kd.R_grown1 RQ rfl lS3_3 (by first | assumption | exact Kd.R_ne RQ b5 (by decide))
      replace L := E.below_own L h5_L lS3_3
      replace b5 := c5
      clear c5
      refine E.GL.done ?_
      refine E.QG.code ?_
      refine E.CG.seq ?_
      refine E.CG.list ?_
      refine E.GL.run rfl rfl rfl (E.Runs.loads (cs := [.slice A3 ps.length c3, .slice B3 qs.length d3]) rfl rfl hu25 rfl info25s (blk_cells b5)) ?_
      refine E.GL.run rfl rfl rfl (E.Runs.move rfl rfl) ?_
      refine E.GL.st rfl rfl rfl (E.ST.call rfl ent28 (E.evc rfl (E.evc rfl E.evn)) ((most_calls ps qs A3 B3 c3 d3 _ (Kd.R_reads' RP).2.2 (Kd.R_reads' RQ).2.2 (by omega) (by omega) m1).mono ?_))
      rintro e w26 ⟨N26, rfl, hM26, l26⟩
      refine ⟨_, rfl, ?_⟩
      replace b2 := blk_below b2 l26
      replace b5 := blk_below b5 l26
      replace RP := Kd.R_below RP l26
      replace RQ := Kd.R_below RQ l26
      replace L := below_step L l26
      refine E.GL.run rfl rfl rfl (E.Runs.move rfl rfl) ?_
      refine E.GL.run rfl rfl rfl (E.Runs.extract rfl rfl rfl) ?_
      refine E.GL.run rfl rfl rfl (E.Runs.extract rfl rfl rfl) ?_
      refine E.GL.run rfl rfl rfl (E.Runs.assign rfl rfl) ?_
      refine E.GL.run rfl rfl rfl (E.Runs.assign rfl rfl) ?_
      refine E.GL.done ?_
      refine E.QG.code ?_
      refine E.CG.seq ?_
      refine E.CG.list ?_
      refine E.GL.run rfl rfl rfl (E.Runs.loads (cs := [.slice A ps.length c, .slice B qs.length d]) rfl rfl hu25 rfl info25s (blk_cells b2)) ?_
      refine E.GL.run rfl rfl rfl (E.Runs.move rfl rfl) ?_
      refine E.GL.st rfl rfl rfl (E.ST.call rfl ent30 (E.evc rfl (E.evc rfl E.evn)) ((mostF_calls ps qs A B c d _ (Kd.C_below hP L) (Kd.C_below hQ L) (by omega) (by omega) m1).mono ?_))
      rintro e w32 ⟨N32, rfl, hM32, l32⟩
      refine ⟨_, rfl, ?_⟩
      replace b2 := blk_below b2 l32
      replace b5 := blk_below b5 l32
      replace RP := Kd.R_below RP l32
      replace RQ := Kd.R_below RQ l32
      replace L := below_step L l32
      have hN := mostR_one hM26 hM32
      refine E.GL.run rfl rfl rfl (E.Runs.move rfl rfl) ?_
      refine E.GL.run rfl rfl rfl (E.Runs.extract rfl rfl rfl) ?_
      refine E.GL.run rfl rfl rfl (E.Runs.extract rfl rfl rfl) ?_
      refine E.GL.run rfl rfl rfl (E.Runs.assign rfl rfl) ?_
      refine E.GL.run rfl rfl rfl (E.Runs.assign rfl rfl) ?_
      refine E.GL.done ?_
      refine E.QG.code ?_
      refine E.CG.seq ?_
      refine E.CG.list ?_
      refine E.GL.run rfl rfl rfl (E.Runs.loads (cs := [.slice A3 ps.length c3, .slice B3 qs.length d3]) rfl rfl hu25 rfl info25s (blk_cells b5)) ?_
      refine E.GL.run rfl rfl rfl (E.Runs.move rfl rfl) ?_
      have hs38 := L.size
      refine E.GL.st rfl rfl rfl (E.ST.call rfl ent31 (E.evc rfl (E.evc rfl E.evn)) ((plan_calls ps qs A3 B3 c3 d3 _ (Kd.R_reads' RP).2.2 (Kd.R_reads' RQ).2.2 (by omega) (by omega) m1).mono ?_))
      rintro e w38 ⟨v38, x38, rfl, R38, hR38, l38⟩
      refine ⟨_, rfl, ?_⟩
      replace b2 := blk_below b2 l38
      replace b5 := blk_below b5 l38
      replace RP := Kd.R_below RP l38
      replace RQ := Kd.R_below RQ l38
      replace L := below_step L l38
      obtain ⟨A38, c38, hv38⟩ := Kd.R_slice R38
      subst hv38
      replace R38 := Kd.R_lower R38 hs38
      have hf38 := planR_few hR38 hM26
      refine E.GL.run rfl rfl rfl (E.Runs.move rfl rfl) ?_
      refine E.GL.run rfl rfl rfl (E.Runs.extract rfl rfl rfl) ?_
      refine E.GL.run rfl rfl rfl (E.Runs.extract rfl rfl rfl) ?_
      refine E.GL.run rfl rfl rfl (E.Runs.assign rfl rfl) ?_
      refine E.GL.run rfl rfl rfl (E.Runs.assign rfl rfl) ?_
      refine E.GL.done ?_
      refine E.QG.code ?_
      refine E.CG.seq ?_
      refine E.CG.list ?_
      refine E.GL.run rfl rfl rfl (E.Runs.loads (cs := [.slice A3 ps.length c3, .slice B3 qs.length d3]) rfl rfl hu25 rfl info25s (blk_cells b5)) ?_
      refine E.GL.run rfl rfl rfl (E.Runs.move rfl rfl) ?_
      have hs44 := L.size
      refine E.GL.st rfl rfl rfl (E.ST.call rfl ent32 (E.evc rfl (E.evc rfl E.evn)) ((proof_calls ps qs A3 B3 c3 d3 _ (Kd.R_reads' RP).2.2 (Kd.R_reads' RQ).2.2 (by omega) (by omega) m1).mono ?_))
      rintro e w44 ⟨v44, x44, rfl, R44, hR44, l44⟩
      refine ⟨_, rfl, ?_⟩
      replace b2 := blk_below b2 l44
      replace b5 := blk_below b5 l44
      replace RP := Kd.R_below RP l44
      replace RQ := Kd.R_below RQ l44
      replace R38 := Kd.R_below R38 l44
      replace L := below_step L l44
      obtain ⟨A44, c44, hv44⟩ := Kd.R_slice R44
      subst hv44
      replace R44 := Kd.R_lower R44 hs44
      have hf44 := proofR_few hR44 hM26
      refine E.GL.run rfl rfl rfl (E.Runs.move rfl rfl) ?_
      refine E.GL.run rfl rfl rfl (E.Runs.extract rfl rfl rfl) ?_
      refine E.GL.run rfl rfl rfl (E.Runs.extract rfl rfl rfl) ?_
      refine E.GL.run rfl rfl rfl (E.Runs.assign rfl rfl) ?_
      refine E.GL.run rfl rfl rfl (E.Runs.assign rfl rfl) ?_
      refine E.GL.done ?_
      refine E.QG.code ?_
      refine E.CG.seq ?_
      refine E.CG.seq ?_
      refine E.CG.list ?_
      refine E.GL.run rfl rfl rfl (E.Runs.move rfl rfl) ?_
      refine E.GL.run rfl rfl rfl (E.Runs.move rfl rfl) ?_
      refine E.GL.run rfl rfl rfl (E.Runs.neq rfl rfl rfl (E.ne_f hN)) ?_
      refine E.GL.run rfl rfl rfl (E.Runs.move rfl rfl) ?_
      refine E.GL.run rfl rfl rfl (E.Runs.move rfl rfl) ?_
      refine E.GL.run rfl rfl rfl (E.Runs.move rfl rfl) ?_
      refine E.GL.run rfl rfl rfl (E.Runs.neq rfl rfl rfl (E.ne_f rfl)) ?_
      refine E.GL.run rfl rfl rfl (E.Runs.pick_f rfl rfl rfl) ?_
      refine E.GL.run rfl rfl rfl (E.Runs.move rfl rfl) ?_
      refine E.GL.run rfl rfl rfl (E.Runs.move rfl rfl) ?_
      refine E.GL.run rfl rfl rfl (E.Runs.move rfl rfl) ?_
      refine E.GL.run rfl rfl rfl (E.Runs.neq rfl rfl rfl (E.ne_f rfl)) ?_
      refine E.GL.run rfl rfl rfl (E.Runs.pick_f rfl rfl rfl) ?_
      refine E.GL.run rfl rfl rfl (E.Runs.move rfl rfl) ?_
      refine E.GL.run rfl rfl rfl (E.Runs.move rfl rfl) ?_
      refine E.GL.run rfl rfl rfl (E.Runs.move rfl rfl) ?_
      refine E.GL.run rfl rfl rfl (E.Runs.neq rfl rfl rfl (E.ne_f rfl)) ?_
      refine E.GL.run rfl rfl rfl (E.Runs.pick_f rfl rfl rfl) ?_
      refine E.GL.run rfl rfl rfl (E.Runs.move rfl rfl) ?_
      refine E.GL.run rfl rfl rfl (E.Runs.move rfl rfl) ?_
      refine E.GL.run rfl rfl rfl (E.Runs.len rfl rfl hu26) ?_
      refine E.GL.run rfl rfl rfl (E.Runs.gtr rfl rfl rfl (decide_eq_false (by omega))) ?_
      refine E.GL.run rfl rfl rfl (E.Runs.pick_f rfl rfl rfl) ?_
      refine E.GL.run rfl rfl rfl (E.Runs.move rfl rfl) ?_
      refine E.GL.run rfl rfl rfl (E.Runs.move rfl rfl) ?_
      refine E.GL.run rfl rfl rfl (E.Runs.len rfl rfl hu22) ?_
      refine E.GL.run rfl rfl rfl (E.Runs.gtr rfl rfl rfl (decide_eq_false (by omega))) ?_
      refine E.GL.run rfl rfl rfl (E.Runs.pick_f rfl rfl rfl) ?_
      refine E.GL.done ?_
      refine E.QG.code ?_
      refine E.CG.cond_f rfl ?_
      refine E.CG.skip ?_
      refine E.QG.code ?_
      refine E.CG.seq ?_
      refine E.CG.seq ?_
      refine E.CG.list ?_
      refine E.GL.run rfl rfl rfl (E.Runs.move rfl rfl) ?_
      refine E.GL.cmpn rfl rfl rfl (fun _ h => (E.Runs.neq rfl rfl rfl h)) (fun h76 => ?_) (fun h76 => ?_)
      · have hl0 := hR38.2 h76
        have hl1 := hR44.2 h76
        subst hl0 hl1
        refine E.GL.done ?_
        refine E.QG.code ?_
        refine E.CG.cond_t rfl ?_
        refine E.CG.seq ?_
        refine E.CG.list ?_
        refine E.GL.run rfl rfl rfl (E.Runs.move rfl rfl) ?_
        refine E.GL.run rfl rfl rfl (E.Runs.len rfl rfl hu26) ?_
        refine E.GL.run rfl rfl rfl (E.Runs.eql rfl rfl rfl (decide_eq_true rfl)) ?_
        refine E.GL.run rfl rfl rfl (E.Runs.move rfl rfl) ?_
        refine E.GL.run rfl rfl rfl (E.Runs.move rfl rfl) ?_
        refine E.GL.run rfl rfl rfl (E.Runs.len rfl rfl hu22) ?_
        refine E.GL.run rfl rfl rfl (E.Runs.eql rfl rfl rfl (decide_eq_true rfl)) ?_
        refine E.GL.run rfl rfl rfl (E.Runs.pick_t rfl rfl rfl) ?_
        refine E.GL.run rfl rfl rfl (E.Runs.move rfl rfl) ?_
        refine E.GL.st rfl rfl rfl (E.ST.call rfl ent12 E.evn ((works_calls _).mono ?_))
        rintro e w86 ⟨rfl, l86⟩
        refine ⟨_, rfl, ?_⟩
        replace b2 := blk_below b2 l86
        replace b5 := blk_below b5 l86
        replace RP := Kd.R_below RP l86
        replace RQ := Kd.R_below RQ l86
        replace R38 := Kd.R_below R38 l86
        replace R44 := Kd.R_below R44 l86
        replace L := below_step L l86
        refine E.GL.run rfl rfl rfl (E.Runs.pick_t rfl rfl rfl) ?_
        refine E.GL.run rfl rfl rfl (E.Runs.assign rfl rfl) ?_
        refine E.GL.done ?_
        refine E.QG.code ?_
        refine E.CG.ret ?_
        refine E.QG.pass_ret ?_
        exact E.QG.result rfl rfl ⟨rfl, L⟩
      · obtain ⟨hH, hm0, hm1⟩ := chkE_ok.mp h76
        obtain ⟨T, rfl⟩ : ∃ T : Nat, m1 = T := ⟨m1.toNat, by omega⟩
        have hT : T ≤ 60 := by omega
        have hIs := hM32.1 h76
        rw [Int.toNat_natCast] at hIs
        obtain ⟨hpl, hpo, _⟩ := planR_ok hH hT hR38 hIs
        obtain ⟨hhr, hbo, _⟩ := proofR_ok hH hT hR44 hIs
        have hin : MvIn qs x38 := fun x hx => by obtain ⟨q1, q2, q3, q4, q5⟩ := isPl_all' hpl x hx; unfold inR at q2; omega
        refine E.GL.done ?_
        refine E.QG.code ?_
        refine E.CG.cond_f rfl ?_
        refine E.CG.skip ?_
        refine E.QG.code ?_
        refine E.CG.seq ?_
        refine E.CG.list ?_
        refine E.GL.run rfl rfl rfl (E.Runs.loads (cs := [.slice A ps.length c, .slice B qs.length d]) rfl rfl hu25 rfl info25s (blk_cells b2)) ?_
        refine E.GL.run rfl rfl rfl (E.Runs.move rfl rfl) ?_
        refine E.GL.run rfl rfl rfl (E.Runs.move rfl rfl) ?_
        refine E.GL.st rfl rfl rfl (E.ST.call rfl ent33 (E.evc rfl (E.evc rfl (E.evc rfl E.evn))) ((isPlan_calls ps qs A B A38 c d c38 T x38 true hH (by simpa using hpl) _ (Kd.C_below hP L) (Kd.C_below hQ L) (Kd.R_reads' R38).2.2 (by omega) hT).mono ?_))
        rintro e w91 ⟨rfl, l91⟩
        refine ⟨_, rfl, ?_⟩
        replace b2 := blk_below b2 l91
        replace b5 := blk_below b5 l91
        replace RP := Kd.R_below RP l91
        replace RQ := Kd.R_below RQ l91
        replace R38 := Kd.R_below R38 l91
        replace R44 := Kd.R_below R44 l91
        replace L := below_step L l91
        refine E.GL.run rfl rfl rfl (E.Runs.move rfl rfl) ?_
        refine E.GL.run rfl rfl rfl (E.Runs.loads (cs := [.slice A ps.length c, .slice B qs.length d]) rfl rfl hu25 rfl info25s (blk_cells b2)) ?_
        refine E.GL.run rfl rfl rfl (E.Runs.move rfl rfl) ?_
        refine E.GL.st rfl rfl rfl (E.ST.call rfl ent34 (E.evc rfl (E.evc rfl E.evn)) ((gone_calls ps qs A B A38 c d c38 x38 _ (Kd.C_below hQ L) (Kd.R_reads' R38).2.2 (by omega) hin).mono ?_))
        rintro e w95 ⟨rfl, l95⟩
        refine ⟨_, rfl, ?_⟩
        replace b2 := blk_below b2 l95
        replace b5 := blk_below b5 l95
        replace RP := Kd.R_below RP l95
        replace RQ := Kd.R_below RQ l95
        replace R38 := Kd.R_below R38 l95
        replace R44 := Kd.R_below R44 l95
        replace L := below_step L l95
        refine E.GL.run rfl rfl rfl (E.Runs.move rfl rfl) ?_
        refine E.GL.run rfl rfl rfl (E.Runs.eql rfl rfl rfl (decide_eq_true hpo)) ?_
        refine E.GL.run rfl rfl rfl (E.Runs.pick_t rfl rfl rfl) ?_
        refine E.GL.run rfl rfl rfl (E.Runs.move rfl rfl) ?_
        refine E.GL.run rfl rfl rfl (E.Runs.loads (cs := [.slice A ps.length c, .slice B qs.length d]) rfl rfl hu25 rfl info25s (blk_cells b2)) ?_
        refine E.GL.run rfl rfl rfl (E.Runs.move rfl rfl) ?_
        refine E.GL.run rfl rfl rfl (E.Runs.move rfl rfl) ?_
        refine E.GL.st rfl rfl rfl (E.ST.call rfl ent35 (E.evc rfl (E.evc rfl (E.evc rfl E.evn))) ((areHours_calls ps qs A B A44 c d c44 T x44 true (by simpa using hhr) _ (Kd.R_reads' R44).2.2 (by omega) (by omega)).mono ?_))
        rintro e w103 ⟨rfl, l103⟩
        refine ⟨_, rfl, ?_⟩
        replace b2 := blk_below b2 l103
        replace b5 := blk_below b5 l103
        replace RP := Kd.R_below RP l103
        replace RQ := Kd.R_below RQ l103
        replace R38 := Kd.R_below R38 l103
        replace R44 := Kd.R_below R44 l103
        replace L := below_step L l103
        refine E.GL.run rfl rfl rfl (E.Runs.pick_t rfl rfl rfl) ?_
        refine E.GL.run rfl rfl rfl (E.Runs.move rfl rfl) ?_
        refine E.GL.run rfl rfl rfl (E.Runs.loads (cs := [.slice A ps.length c, .slice B qs.length d]) rfl rfl hu25 rfl info25s (blk_cells b2)) ?_
        refine E.GL.run rfl rfl rfl (E.Runs.move rfl rfl) ?_
        refine E.GL.run rfl rfl rfl (E.Runs.move rfl rfl) ?_
        refine E.GL.st rfl rfl rfl (E.ST.call rfl ent36 (E.evc rfl (E.evc rfl (E.evc rfl E.evn))) ((bound_calls ps qs A B A44 c d c44 T x44 hH hhr _ (Kd.C_below hP L) (Kd.C_below hQ L) (Kd.R_reads' R44).2.2 hT).mono ?_))
        rintro e w109 ⟨rfl, l109⟩
        refine ⟨_, rfl, ?_⟩
        replace b2 := blk_below b2 l109
        replace b5 := blk_below b5 l109
        replace RP := Kd.R_below RP l109
        replace RQ := Kd.R_below RQ l109
        replace R38 := Kd.R_below R38 l109
        replace R44 := Kd.R_below R44 l109
        replace L := below_step L l109
        refine E.GL.run rfl rfl rfl (E.Runs.move rfl rfl) ?_
        refine E.GL.run rfl rfl rfl (E.Runs.eql rfl rfl rfl (decide_eq_true hbo)) ?_
        refine E.GL.run rfl rfl rfl (E.Runs.pick_t rfl rfl rfl) ?_
        refine E.GL.run rfl rfl rfl (E.Runs.move rfl rfl) ?_
        refine E.GL.st rfl rfl rfl (E.ST.call rfl ent12 E.evn ((works_calls _).mono ?_))
        rintro e w114 ⟨rfl, l114⟩
        refine ⟨_, rfl, ?_⟩
        replace b2 := blk_below b2 l114
        replace b5 := blk_below b5 l114
        replace RP := Kd.R_below RP l114
        replace RQ := Kd.R_below RQ l114
        replace R38 := Kd.R_below R38 l114
        replace R44 := Kd.R_below R44 l114
        replace L := below_step L l114
        refine E.GL.run rfl rfl rfl (E.Runs.pick_t rfl rfl rfl) ?_
        refine E.GL.run rfl rfl rfl (E.Runs.assign rfl rfl) ?_
        refine E.GL.done ?_
        refine E.QG.code ?_
        refine E.CG.ret ?_
        exact E.QG.result rfl rfl ⟨rfl, L⟩

end Go.Proofs.Ytmnjlnkfihklgaa.T
namespace Go.Proofs.Ytmnjlnkfihklgaa.T
open Go.ChangeShapes Go.WideShapes Go.ChangeAt Go.Deep
open Go.RowKit Go.Proofs.YtmnjlnkfihklgaaW.PrintWords Go.Proofs.YtmnjlnkfihklgaaW.PrintMore
open Go.Proofs.Ytmnjlnkfihklgaa.P
set_option linter.unusedVariables false
set_option linter.unusedSimpArgs false

section
variable {X : Type} {enc : TypeId × Value → X} {w : World} {base : Nat} {spare : Nat → Bool} {held : Bool}
theorem fld {fs : Array Field} {n : Nat} {cs : List Value} {xs : List (DataW X × List MemPlace)} (hlen : xs.length = fs.size) (hg : ∀ (i : Nat) (f : Field), fs[i]? = some f → DataW.trod enc Try.prog w base spare held n f.type ((cs.drop f.offset).take (Try.prog.cellsOf f.type)) = xs[i]?) (i : Nat) (f : Field) (hf : fs[i]? = some f)
    (ty : TypeId) (off k : Nat) (h1 : f.type = ty) (h2 : f.offset = off) (h3 : Try.prog.cellsOf ty = k) :
    ∃ y, DataW.trod enc Try.prog w base spare held n ty ((cs.drop off).take k) = some y := by
  have hi : i < xs.length := by rw [hlen]; exact (Array.getElem?_eq_some_iff.1 hf).1
  subst h1 h2 h3
  exact ⟨_, (hg i f hf).trans (List.getElem?_eq_getElem hi)⟩

theorem cells3 : Try.prog.cellsOf 3 = 1 := by kernel_rfl

theorem trod3 {n : Nat} {cs : List Value} {x : DataW X × List MemPlace} (h : DataW.trod enc Try.prog w base spare held n 3 cs = some x) : ∃ (a : Int), cs = [.int .i64 a] := by
  obtain ⟨a, hc, _⟩ := DataW.trod_int Try.underlying3 h
  exact ⟨a, hc⟩

set_option maxRecDepth 100000 in
theorem int_open {r : Reach} {b0 : Nat} {v : Value} {d : DataW X} {p : List MemPlace} (hval : Value.okWide Try.prog w r b0 3 v) (h : DataW.Trod enc Try.prog w base spare held 3 v d p) : ∃ m : Int, v = .int .i64 m := okWide_int Try.underlying3 hval

theorem cells25 : Try.prog.cellsOf 25 = 2 := by kernel_rfl

theorem cells22 : Try.prog.cellsOf 22 = 1 := by kernel_rfl

theorem trod22 {n : Nat} {cs : List Value} {x : DataW X × List MemPlace} (h : DataW.trod enc Try.prog w base spare held n 22 cs = some x) : ∃ (aA : Option Addr) (ac : Nat) (al : List Int), cs = [.slice aA al.length ac] ∧ al.length ≤ ac ∧ Kd.C (Kd.int .i64) w aA al.length al := by
  rcases open_slice Try.underlying22 h with ⟨rfl, _⟩ | ⟨a, len, cap, m, k, D, Pl, rfl, hb, hl, hm, hmm, hx, hi⟩
  · exact ⟨none, 0, [], rfl, Nat.le_refl _, rfl, by simp, fun h => absurd h (by simp)⟩
  · have hlm : len ≤ m := by rw [hmm]; split <;> omega
    have H : ∀ i, i < len → ∃ s : Int, w.cells? base (a.add (i * 1)) 1 = some [.int .i64 s] := by
      intro i hil
      obtain ⟨cs', hc, ht⟩ := hi i (by omega)
      obtain ⟨a, rfl⟩ := trod3 ht
      rw [cells3] at hc
      exact ⟨a, hc⟩
    obtain ⟨F, hF⟩ : ∃ F : Nat → Int, ∀ i, i < len → w.cells? base (a.add (i * 1)) 1 = some [.int .i64 (F i)] := by
      refine ⟨fun i => if h : i < len then (H i h).choose else 0, fun i h => ?_⟩
      simp only [dif_pos h]
      exact (H i h).choose_spec
    refine ⟨some a, cap, (List.range len).map F, by simp, by simpa using hl, ?_, ?_, ?_⟩
    · rfl
    · simp only [List.length_map, List.length_range]
      unfold maxLen at hm
      omega
    · intro _
      refine ⟨a, rfl, fun j p hj => ?_⟩
      have hjl : j < len := by
        have := (List.getElem?_eq_some_iff.1 hj).1
        simpa using this
      have hp : p = F j := by
        rw [List.getElem?_map, List.getElem?_range hjl] at hj
        simpa using hj.symm
      subst hp
      refine ⟨[.int .i64 (F j)], rfl, rfl, ?_⟩
      intro i u hu
      obtain ⟨_, hcl, hat⟩ := World.cells?_some (hF j hjl)
      have hil : i < 1 := (List.getElem?_eq_some_iff.1 hu).1
      have := hat i hil
      rw [Go.Deep.add_add] at this
      rw [show j * ((Kd.int .i64)).sz + i = j * 1 + i from rfl, this, hu]

theorem cells23 : Try.prog.cellsOf 23 = 1 := by kernel_rfl

theorem cells45 : Try.prog.cellsOf 45 = 4 := by kernel_rfl

theorem list_of4 {cs : List Value} (h : cs.length = 4) : ∃ v0 v1 v2 v3, cs = [v0, v1, v2, v3] := by
  match cs, h with
  | [v0, v1, v2, v3], _ => exact ⟨v0, v1, v2, v3, rfl⟩

theorem trod45 {n : Nat} {cs : List Value} {x : DataW X × List MemPlace} (h : DataW.trod enc Try.prog w base spare held n 45 cs = some x) : ∃ (a_0 : Int) (a_1 : Int) (a_2 : Int) (a_3 : Int), cs = [.int .i64 a_0, .int .i64 a_1, .int .i64 a_2, .int .i64 a_3] := by
  obtain ⟨xs, m, _, hx, hl, hlen, hg⟩ := DataW.trod_struct Try.underlying45 h
  rw [cells45] at hl
  obtain ⟨v0, v1, v2, v3, rfl⟩ := list_of4 hl
  obtain ⟨y0, h0⟩ := fld hlen hg 0 _ rfl 3 0 1 rfl rfl cells3
  obtain ⟨y1, h1⟩ := fld hlen hg 1 _ rfl 3 1 1 rfl rfl cells3
  obtain ⟨y2, h2⟩ := fld hlen hg 2 _ rfl 3 2 1 rfl rfl cells3
  obtain ⟨y3, h3⟩ := fld hlen hg 3 _ rfl 3 3 1 rfl rfl cells3
  obtain ⟨a_0, e0⟩ := trod3 h0
  obtain ⟨a_1, e1⟩ := trod3 h1
  obtain ⟨a_2, e2⟩ := trod3 h2
  obtain ⟨a_3, e3⟩ := trod3 h3
  simp only [List.drop_zero, List.take_succ_cons, List.take_zero, List.drop_succ_cons, List.cons.injEq, and_true] at e0 e1 e2 e3
  subst e0 e1 e2 e3
  exact ⟨a_0, a_1, a_2, a_3, rfl⟩

theorem trod23 {n : Nat} {cs : List Value} {x : DataW X × List MemPlace} (h : DataW.trod enc Try.prog w base spare held n 23 cs = some x) : ∃ (aA : Option Addr) (ac : Nat) (al : List S45), cs = [.slice aA al.length ac] ∧ al.length ≤ ac ∧ Kd.C k45 w aA al.length al := by
  rcases open_slice Try.underlying23 h with ⟨rfl, _⟩ | ⟨a, len, cap, m, k, D, Pl, rfl, hb, hl, hm, hmm, hx, hi⟩
  · exact ⟨none, 0, [], rfl, Nat.le_refl _, rfl, by simp, fun h => absurd h (by simp)⟩
  · have hlm : len ≤ m := by rw [hmm]; split <;> omega
    have H : ∀ i, i < len → ∃ s : S45, w.cells? base (a.add (i * 4)) 4 = some [.int .i64 s.f0, .int .i64 s.f1, .int .i64 s.f2, .int .i64 s.f3] := by
      intro i hil
      obtain ⟨cs', hc, ht⟩ := hi i (by omega)
      obtain ⟨a_0, a_1, a_2, a_3, rfl⟩ := trod45 ht
      rw [cells45] at hc
      exact ⟨⟨a_0, a_1, a_2, a_3⟩, hc⟩
    obtain ⟨F, hF⟩ : ∃ F : Nat → S45, ∀ i, i < len → w.cells? base (a.add (i * 4)) 4 = some [.int .i64 (F i).f0, .int .i64 (F i).f1, .int .i64 (F i).f2, .int .i64 (F i).f3] := by
      refine ⟨fun i => if h : i < len then (H i h).choose else P.z45, fun i h => ?_⟩
      simp only [dif_pos h]
      exact (H i h).choose_spec
    refine ⟨some a, cap, (List.range len).map F, by simp, by simpa using hl, ?_, ?_, ?_⟩
    · rfl
    · simp only [List.length_map, List.length_range]
      unfold maxLen at hm
      omega
    · intro _
      refine ⟨a, rfl, fun j p hj => ?_⟩
      have hjl : j < len := by
        have := (List.getElem?_eq_some_iff.1 hj).1
        simpa using this
      have hp : p = F j := by
        rw [List.getElem?_map, List.getElem?_range hjl] at hj
        simpa using hj.symm
      subst hp
      refine ⟨[.int .i64 (F j).f0, .int .i64 (F j).f1, .int .i64 (F j).f2, .int .i64 (F j).f3], rfl, k45_mk w (F j), ?_⟩
      intro i u hu
      obtain ⟨_, hcl, hat⟩ := World.cells?_some (hF j hjl)
      have hil : i < 4 := (List.getElem?_eq_some_iff.1 hu).1
      have := hat i hil
      rw [Go.Deep.add_add] at this
      rw [show j * (k45).sz + i = j * 4 + i from rfl, this, hu]

theorem list_of2 {cs : List Value} (h : cs.length = 2) : ∃ v0 v1, cs = [v0, v1] := by
  match cs, h with
  | [v0, v1], _ => exact ⟨v0, v1, rfl⟩

theorem trod25 {n : Nat} {cs : List Value} {x : DataW X × List MemPlace} (h : DataW.trod enc Try.prog w base spare held n 25 cs = some x) : ∃ (a_0A : Option Addr) (a_0c : Nat) (a_0l : List Int) (a_1A : Option Addr) (a_1c : Nat) (a_1l : List S45), cs = [.slice a_0A a_0l.length a_0c, .slice a_1A a_1l.length a_1c] ∧ a_0l.length ≤ a_0c ∧ Kd.C (Kd.int .i64) w a_0A a_0l.length a_0l ∧ a_1l.length ≤ a_1c ∧ Kd.C k45 w a_1A a_1l.length a_1l := by
  obtain ⟨xs, m, _, hx, hl, hlen, hg⟩ := DataW.trod_struct Try.underlying25 h
  rw [cells25] at hl
  obtain ⟨v0, v1, rfl⟩ := list_of2 hl
  obtain ⟨y0, h0⟩ := fld hlen hg 0 _ rfl 22 0 1 rfl rfl cells22
  obtain ⟨y1, h1⟩ := fld hlen hg 1 _ rfl 23 1 1 rfl rfl cells23
  obtain ⟨a_0A, a_0c, a_0l, e0, f0_0, f0_1⟩ := trod22 h0
  obtain ⟨a_1A, a_1c, a_1l, e1, f1_0, f1_1⟩ := trod23 h1
  simp only [List.drop_zero, List.take_succ_cons, List.take_zero, List.drop_succ_cons, List.cons.injEq, and_true] at e0 e1
  subst e0 e1
  exact ⟨a_0A, a_0c, a_0l, a_1A, a_1c, a_1l, rfl, f0_0, f0_1, f1_0, f1_1⟩

set_option maxRecDepth 100000 in
theorem house_open {r : Reach} {b0 : Nat} {v : Value} {d : DataW X} {p : List MemPlace} (hval : Value.okWide Try.prog w r b0 25 v) (h : DataW.Trod enc Try.prog w base spare held 25 v d p) : ∃ (a_0A : Option Addr) (a_0c : Nat) (a_0l : List Int) (a_1A : Option Addr) (a_1c : Nat) (a_1l : List S45), v = .agg #[.slice a_0A a_0l.length a_0c, .slice a_1A a_1l.length a_1c] ∧ a_0l.length ≤ a_0c ∧ Kd.C (Kd.int .i64) w a_0A a_0l.length a_0l ∧ a_1l.length ≤ a_1c ∧ Kd.C k45 w a_1A a_1l.length a_1l := by
  obtain ⟨cs, rfl, hsz⟩ := okWide_struct Try.underlying25 hval
  obtain ⟨n, hn⟩ := h
  obtain ⟨a_0A, a_0c, a_0l, a_1A, a_1c, a_1l, hH, f0, f1, f2, f3⟩ := trod25 hn
  obtain ⟨l⟩ := cs
  obtain rfl : l = _ := hH
  exact ⟨a_0A, a_0c, a_0l, a_1A, a_1c, a_1l, rfl, f0, f1, f2, f3⟩

end

end Go.Proofs.Ytmnjlnkfihklgaa.T
