/- Texts of this claim, put together: N17, N18, B8, O1. -/
import Derived.Test.YtmnjlnkfihklgaaG3
import Derived.Test.YtmnjlnkfihklgaaRows
import Derived.ProofKit
import Derived.OpenShut
import Derived.ChangeOld
import Derived.SizedLaws
import Derived.Deep.Slices
namespace Go.Proofs.Ytmnjlnkfihklgaa.T
open Go.RowKit Go.Proofs.YtmnjlnkfihklgaaW.PrintWords Go.Proofs.YtmnjlnkfihklgaaW.PrintMore
open Go.Proofs.Ytmnjlnkfihklgaa.P
set_option linter.unusedVariables false
/-! ### All so many times as great -/
def scP (t : Int) (ps : List Int) : List Int := ps.map (· * t)
def scQ (t : Int) (qs : List S45) : List S45 := qs.map fun q => { q with f2 := q.f2 * t }
theorem scP_len (t : Int) (ps : List Int) : (scP t ps).length = ps.length := by simp [scP]
theorem scQ_len (t : Int) (qs : List S45) : (scQ t qs).length = qs.length := by simp [scQ]
theorem scP_get (t : Int) (ps : List Int) (r : Nat) : (scP t ps).getD r 0 = ps.getD r 0 * t := by
  unfold scP
  rw [List.getD_eq_getElem?_getD, List.getD_eq_getElem?_getD, List.getElem?_map]
  cases ps[r]? <;> simp
theorem scQ_get (t : Int) (qs : List S45) (i : Nat) : (scQ t qs).getD i z45 = { qs.getD i z45 with f2 := (qs.getD i z45).f2 * t } := by
  unfold scQ
  rw [List.getD_eq_getElem?_getD, List.getD_eq_getElem?_getD, List.getElem?_map]
  cases qs[i]? <;> simp [z45]
theorem sumN_mul (a : Nat → Int) (t : Int) : ∀ n, sumN (fun i => a i * t) n = sumN a n * t
  | 0 => by simp [sumN]
  | n + 1 => by simp only [sumN, sumN_mul a t n, Int.add_mul]
theorem sumQ_mul (T : Nat) (qs : List S45) (a : Nat → Nat → Int) (t : Int) : sumQ T qs (fun i k => a i k * t) = sumQ T qs a * t := by
  unfold sumQ
  rw [← sumN_mul]
  exact sumN_congr fun i _ => sumN_mul _ t _
theorem sumQ_sc (T : Nat) (t : Int) (qs : List S45) (a : Nat → Nat → Int) : sumQ T (scQ t qs) a = sumQ T qs a := by
  unfold sumQ
  rw [scQ_len]
  refine sumN_congr fun i _ => ?_
  rw [scQ_get]
theorem ite_mul' (p : Prop) [Decidable p] (x t : Int) : (if p then x * t else 0) = (if p then x else 0) * t := by split <;> simp
section
variable {ps : List Int} {qs : List S45} {T : Nat} {t : Int}
theorem bound_sc (hr : Nat → Nat) : boundU (scP t ps) (scQ t qs) T hr = boundU ps qs T hr * t := by
  unfold boundU
  rw [sumQ_sc, scP_len, Int.add_mul, ← sumN_mul, ← sumQ_mul]
  congr 1
  · refine sumN_congr fun r _ => ?_
    rw [scP_get, ite_mul']
  · refine sumQ_congr fun i k _ _ => ?_
    rw [scQ_get]
    exact ite_mul' _ _ _
theorem use_sc (ht : 0 ≤ t) {u : Nat → Nat → Int} (h : Use ps qs T u) : Use (scP t ps) (scQ t qs) T (fun i k => u i k * t) := by
  refine ⟨fun i k hi hk => ?_, fun r m hr hm => ?_⟩
  · rw [scQ_len] at hi
    rw [scQ_get] at hk ⊢
    obtain ⟨a, b⟩ := h.w i k hi hk
    exact ⟨Int.mul_nonneg a ht, Int.mul_le_mul_of_nonneg_right b ht⟩
  · rw [scP_len] at hr
    have := h.there r m hr hm
    have e : thereU (scP t ps) (scQ t qs) T (fun i k => u i k * t) r m = thereU ps qs T u r m * t := by
      unfold thereU arrU depU
      rw [sumQ_sc, sumQ_sc, scP_get, Int.sub_mul, Int.add_mul, ← sumQ_mul, ← sumQ_mul]
      congr 1
      · congr 1
        refine sumQ_congr fun i k _ _ => ?_
        rw [scQ_get]
        exact ite_mul' _ _ _
      · refine sumQ_congr fun i k _ _ => ?_
        rw [scQ_get]
        exact ite_mul' _ _ _
    rw [e]
    exact Int.mul_nonneg this ht
theorem out_sc (u : Nat → Nat → Int) : outU (scQ t qs) T (fun i k => u i k * t) = outU qs T u * t := by
  unfold outU
  rw [sumQ_sc, ← sumQ_mul]
  refine sumQ_congr fun i k _ _ => ?_
  rw [scQ_get]
  exact ite_mul' _ _ _
theorem most_sc (ht : 0 ≤ t) {N : Int} (a : IsMost ps qs T N) : IsMost (scP t ps) (scQ t qs) T (N * t) := by
  obtain ⟨⟨u, hu, eu⟩, hr, h1, h2⟩ := a
  refine ⟨⟨_, use_sc ht hu, by rw [out_sc, eu]⟩, hr, fun r hr' => h1 r (by rw [scP_len] at hr'; exact hr'), by rw [bound_sc, h2]⟩
theorem all_sc : allP (scP t ps) = allP ps * t := by
  unfold allP
  rw [scP_len, ← sumN_mul]
  exact sumN_congr fun r _ => scP_get t ps r
end
/-- There is a greatest number. -/
theorem EmptyR.ok {ps : List Int} {qs : List S45} {N E : Int} (h : HOk ps qs) (a : EmptyR ps qs N E) (e : E = 0) : ∃ t : Nat, t ≤ 60 ∧ N = t ∧ IsMost ps qs t (allP ps) ∧ ∀ s : Nat, s < t → ¬ IsMost ps qs s (allP ps) := by
  rcases a.2 h with ⟨t, a1, a2, a3, a4, a5⟩ | ⟨a1, a2, a3⟩
  · exact ⟨t, a1, a2, a4, a5⟩
  · omega
theorem EmptyR.no {ps : List Int} {qs : List S45} {N E : Int} (h : HOk ps qs) (a : EmptyR ps qs N E) (e : ¬ E = 0) : E = 3 ∧ ∀ s : Nat, s ≤ 60 → ¬ IsMost ps qs s (allP ps) := by
  rcases a.2 h with ⟨t, a1, a2, a3, a4, a5⟩ | ⟨a1, a2, a3⟩
  · exact absurd a3 e
  · exact ⟨a2, a3⟩
end Go.Proofs.Ytmnjlnkfihklgaa.T
namespace Go.Proofs.Ytmnjlnkfihklgaa.T
open Go.RowKit Go.Proofs.YtmnjlnkfihklgaaW.PrintWords Go.Proofs.YtmnjlnkfihklgaaW.PrintMore
open Go.Proofs.Ytmnjlnkfihklgaa.P
set_option linter.unusedVariables false
theorem search_ex {ls : List S95} {n : Nat} (hW : WsOk ls n) (hn : 0 < n) : ∃ V bl, Pb ls n V bl ∧ ∀ x ∈ ls, x.f0.toNat ∈ V → 0 < x.f2 → x.f1.toNat ∈ V := by
  have key : ∀ (k : Nat) (V : List Nat) (bl : List Int), Pb ls n V bl → n - V.length ≤ k → ∃ V bl, Pb ls n V bl ∧ ∀ x ∈ ls, x.f0.toNat ∈ V → 0 < x.f2 → x.f1.toNat ∈ V := by
    intro k
    induction k with
    | zero =>
      intro V bl h hk
      refine ⟨V, bl, h, fun x hx a b => ?_⟩
      refine Classical.byContradiction fun q => ?_
      have hwx := hW x hx
      have hlt : x.f1.toNat < n := by omega
      have h0 : x.f1.toNat ≠ 0 := fun e => q (by rw [e]; exact List.mem_of_getElem? h.v0)
      obtain ⟨p, hp⟩ := List.mem_iff_getElem?.mp a
      obtain ⟨i, hi⟩ := List.mem_iff_getElem?.mp hx
      have hb : bl[x.f1.toNat]? = some 0 := Classical.byContradiction fun z => q ((h.is _ hlt).mp z).1
      have := (h.found hp hi (by omega) b (t := x.f1.toNat) (by omega) hlt h0 hb).few
      rw [List.length_append] at this
      simp at this
      omega
    | succ k ih =>
      intro V bl h hk
      by_cases c : ∀ x ∈ ls, x.f0.toNat ∈ V → 0 < x.f2 → x.f1.toNat ∈ V
      · exact ⟨V, bl, h, c⟩
      · obtain ⟨x, c1⟩ := Classical.not_forall.mp c
        obtain ⟨hx, c2⟩ := Classical.not_imp.mp c1
        obtain ⟨a, c3⟩ := Classical.not_imp.mp c2
        obtain ⟨b, q⟩ := Classical.not_imp.mp c3
        have hwx := hW x hx
        have hlt : x.f1.toNat < n := by omega
        have h0 : x.f1.toNat ≠ 0 := fun e => q (by rw [e]; exact List.mem_of_getElem? h.v0)
        obtain ⟨p, hp⟩ := List.mem_iff_getElem?.mp a
        obtain ⟨i, hi⟩ := List.mem_iff_getElem?.mp hx
        have hb : bl[x.f1.toNat]? = some 0 := Classical.byContradiction fun z => q ((h.is _ hlt).mp z).1
        have hf := h.found hp hi (by omega) b (t := x.f1.toNat) (by omega) hlt h0 hb
        refine ih _ _ hf ?_
        have := hf.few
        rw [List.length_append] at this ⊢
        simp at this ⊢
        omega
  exact key n _ _ (Pb.start hn) (by omega)
theorem path_ex {ls : List S95} {n : Nat} {V : List Nat} {bl : List Int} (h : Pb ls n V bl) : ∀ (m v : Nat), V.idxOf v ≤ m → v ∈ V → ∃ P, Wl ls V.idxOf v P := by
  intro m
  induction m with
  | zero =>
    intro v hm hv
    by_cases e : v = 0
    · exact ⟨[], e⟩
    · obtain ⟨k, x, _, _, _, _, _, q⟩ := h.at_ hv e
      omega
  | succ m ih =>
    intro v hm hv
    by_cases e : v = 0
    · exact ⟨[], e⟩
    · obtain ⟨k, x, q1, _, q3, q4, q5, q6⟩ := h.at_ hv e
      obtain ⟨P, hP⟩ := ih _ (by omega) q5
      exact ⟨(k : Int) :: P, e, k, x, rfl, q1, q3, q4, q6, hP⟩
theorem push_ex {E : List Ed} {last : Nat} {f : Nat → Int} : ∀ (H : List (Nat × Bool)) (g : Nat → Int) (v : Nat), Xg E last f g v H → ∃ g' v', Xg E last f g' v' []
  | [], g, v, X => ⟨g, v, X⟩
  | (k, b) :: r, g, v, X => by
    obtain ⟨_, e, he, _, _, _⟩ := id X.wh
    exact push_ex r _ _ (X.step he)
section
variable {ps : List Int} {qs : List S45} {T : Nat}
theorem most_ex (h : HOk ps qs) : ∃ N, IsMost ps qs T N := by
  have key : ∀ (k : Nat) (f : Nat → Int) (n : Int), Xf ps qs T f n → (allP ps - n).toNat ≤ k → ∃ N, IsMost ps qs T N := by
    intro k
    induction k with
    | zero =>
      intro f n X hk
      obtain ⟨V, bl, hb, hc⟩ := search_ex (wsX (T := T) h f) (by omega)
      by_cases hl : lastN ps.length T ∈ V
      · obtain ⟨P, hP⟩ := path_ex hb _ _ (Nat.le_refl _) hl
        obtain ⟨H, _, q2, q3, _⟩ := wh_of hP
        obtain ⟨g, v, hg⟩ := push_ex (last := lastN ps.length T) (f := f) H f _ ⟨q2, q3, X.ok, fun u => by omega⟩
        have := (hg.last X).le h
        omega
      · exact ⟨n, X.most h (fun v => v ∈ V) (List.mem_of_getElem? hb.v0) hl hc⟩
    | succ k ih =>
      intro f n X hk
      obtain ⟨V, bl, hb, hc⟩ := search_ex (wsX (T := T) h f) (by omega)
      by_cases hl : lastN ps.length T ∈ V
      · obtain ⟨P, hP⟩ := path_ex hb _ _ (Nat.le_refl _) hl
        obtain ⟨H, _, q2, q3, _⟩ := wh_of hP
        obtain ⟨g, v, hg⟩ := push_ex (last := lastN ps.length T) (f := f) H f _ ⟨q2, q3, X.ok, fun u => by omega⟩
        exact ih g (n + 1) (hg.last X) (by omega)
      · exact ⟨n, X.most h (fun v => v ∈ V) (List.mem_of_getElem? hb.v0) hl hc⟩
  exact key _ _ _ (Xf.first h) (Nat.le_refl _)
theorem most_nonneg (h : HOk ps qs) {N : Int} (a : IsMost ps qs T N) : 0 ≤ N := by
  obtain ⟨⟨u, hu, e⟩, _⟩ := a
  rw [← e]
  unfold outU sumQ
  refine sumN_nonneg fun i hi => sumN_nonneg fun k hk => ?_
  dsimp only
  split
  · exact (hu.w i k hi (by omega)).1
  · exact Int.le_refl _
end
theorem all_sc_iff {ps : List Int} {qs : List S45} {s : Nat} {t : Int} (h : HOk ps qs) (h' : HOk (scP t ps) (scQ t qs)) (ht : 1 ≤ t) : IsMost (scP t ps) (scQ t qs) s (allP (scP t ps)) ↔ IsMost ps qs s (allP ps) := by
  constructor
  · intro a
    obtain ⟨N, b⟩ := most_ex (T := s) h
    have e := a.one h' (most_sc (by omega) b)
    rw [all_sc] at e
    rw [Int.eq_of_mul_eq_mul_right (by omega) e]
    exact b
  · intro b
    rw [all_sc]
    exact most_sc (by omega) b
theorem empty_sc {ps : List Int} {qs : List S45} {t N E M D : Int} (h : HOk ps qs) (h' : HOk (scP t ps) (scQ t qs)) (ht : 1 ≤ t) (a : EmptyR ps qs N E) (b : EmptyR (scP t ps) (scQ t qs) M D) : N = M ∧ E = D := by
  rcases a.2 h with ⟨x, a1, a2, a3, a4, a5⟩ | ⟨a1, a2, a3⟩
  · rcases b.2 h' with ⟨y, b1, b2, b3, b4, b5⟩ | ⟨b1, b2, b3⟩
    · rw [all_sc_iff h h' ht] at b4
      rcases Nat.lt_trichotomy x y with q | q | q
      · exact absurd ((all_sc_iff h h' ht).mpr a4) (b5 x q)
      · subst q; exact ⟨a2.trans b2.symm, a3.trans b3.symm⟩
      · exact absurd b4 (a5 y q)
    · exact absurd ((all_sc_iff h h' ht).mpr a4) (b3 x a1)
  · rcases b.2 h' with ⟨y, b1, b2, b3, b4, b5⟩ | ⟨b1, b2, b3⟩
    · exact absurd ((all_sc_iff h h' ht).mp b4) (a3 y b1)
    · exact ⟨a1.trans b1.symm, a2.trans b2.symm⟩
/-! ### A list of which a part is changed -/
def mixL {α : Type} (F : α → α) (l : List α) (i : Nat) : List α := (l.take i).map F ++ l.drop i
section
variable {α : Type} {F : α → α} {l : List α}
theorem mixL_first (F : α → α) (l : List α) : mixL F l 0 = l := by simp [mixL]
theorem mixL_last {i : Nat} (h : l.length ≤ i) : mixL F l i = l.map F := by
  unfold mixL
  rw [List.take_of_length_le h, List.drop_of_length_le h, List.append_nil]
theorem mixL_at {i : Nat} {x : α} (h : l[i]? = some x) : (mixL F l i)[i]? = some x := by
  have hl := (List.getElem?_eq_some_iff.1 h).1
  unfold mixL
  rw [List.getElem?_append_right (by rw [List.length_map, List.length_take]; omega), List.length_map, List.length_take, List.getElem?_drop]
  rw [show i + (i - min i l.length) = i by omega]
  exact h
theorem mixL_set {i : Nat} {x : α} (h : l[i]? = some x) : (mixL F l i).set i (F x) = mixL F l (i + 1) := by
  have hl := (List.getElem?_eq_some_iff.1 h).1
  have hx := (List.getElem?_eq_some_iff.1 h).2
  unfold mixL
  rw [List.set_append, if_neg (by rw [List.length_map, List.length_take]; omega), List.length_map, List.length_take, show i - min i l.length = 0 by omega, List.drop_eq_getElem_cons hl, List.set_cons_zero, List.take_add_one, h, List.map_append, List.append_assoc]
  rfl
end
end Go.Proofs.Ytmnjlnkfihklgaa.T
namespace Go.Proofs.Ytmnjlnkfihklgaa.T
open Go.RowKit Go.Proofs.YtmnjlnkfihklgaaW.PrintWords Go.Proofs.YtmnjlnkfihklgaaW.PrintMore
open Go.Proofs.Ytmnjlnkfihklgaa.P
set_option linter.unusedVariables false
set_option linter.unusedSimpArgs false

theorem R_scP {w : World} {base c : Nat} {A : Option Addr} {m : Int} {ps : List Int} (R : Kd.R kI 3 w base (fun _ => True) (.slice A ps.length c) (ps.map (fun z : Int => z * m))) : Kd.R kI 3 w base (fun _ => True) (.slice A (scP m ps).length c) (scP m ps) := by rw [scP_len]; exact R
theorem R_scQ {w : World} {base c : Nat} {A : Option Addr} {m : Int} {qs : List S45} (R : Kd.R k45 45 w base (fun _ => True) (.slice A qs.length c) (qs.map (fun q : S45 => { q with f2 := q.f2 * m }))) : Kd.R k45 45 w base (fun _ => True) (.slice A (scQ m qs).length c) (scQ m qs) := by rw [scQ_len]; exact R
theorem blk_sc {w : World} {g c d : Nat} {A B : Option Addr} {m : Int} {ps : List Int} {qs : List S45} (h : w.heap[g]? = some (.cells #[.slice A ps.length c, .slice B qs.length d] 25 (0, 0))) : w.heap[g]? = some (.cells #[.slice A (scP m ps).length c, .slice B (scQ m qs).length d] 25 (0, 0)) := by rw [scP_len, scQ_len]; exact h
set_option maxRecDepth 100000 in
set_option maxHeartbeats 8000000 in

theorem times_law (ps : List Int) (qs : List S45) (A B : Option Addr) (c d : Nat) (w : World) (hP : Kd.C kI w A ps.length ps) (hQ : Kd.C k45 w B qs.length qs) (m1 m2 : Int) :
    Calls Try.prog 8 #[hv ps qs A B c d, .int .i64 m1, .int .i64 m2] w fun e w' => e = .returned (.bool true) ∧ Below w.heap.size w w' := by
  have hu3 := Try.underlying3
  have hu22 := Try.underlying22
  have hu23 := Try.underlying23
  have hu25 := Try.underlying25
  have hu45 := Try.underlying45
  obtain ⟨z3, o3⟩ := info_some info3s (by decide)
  obtain ⟨z22, o22⟩ := info_some info22s (by decide)
  obtain ⟨z23, o23⟩ := info_some info23s (by decide)
  obtain ⟨z25, o25⟩ := info_some info25s (by decide)
  obtain ⟨z45, o45⟩ := info_some info45s (by decide)
  refine E.enter (N := 117) Try.func8 rfl Try.ntmps8 (args := [hv ps qs A B c d, .int .i64 m1, .int .i64 m2]) (by simp) ?_
  have L := Below.refl w.heap.size w
  refine E.CG.seq ?_
  refine E.CG.list ?_
  refine E.GL.st rfl rfl rfl (E.ST.box rfl rfl fun g3 w3 e3 b3 l3 => ?_)
  have h3_L : w.heap.size ≤ g3 := by rw [e3]; exact L.size
  replace L := below_step L l3
  refine E.GL.run rfl rfl rfl (E.Runs.assign rfl rfl) ?_
  refine E.GL.done ?_
  refine E.QG.code ?_
  refine E.CG.seq ?_
  refine E.CG.seq ?_
  refine E.CG.list ?_
  refine E.GL.run rfl rfl rfl (E.Runs.loads (cs := [.slice A ps.length c, .slice B qs.length d]) rfl rfl hu25 rfl info25s (blk_cells b3)) ?_
  refine E.GL.run rfl rfl rfl (E.Runs.move rfl rfl) ?_
  by_cases h20 : ready ps qs m1
  · refine E.GL.st rfl rfl rfl (E.ST.call rfl ent27 (E.evc rfl (E.evc rfl E.evn)) ((ready_calls ps qs A B c d _ true (Kd.C_below hP L) (Kd.C_below hQ L) m1 (iff_of_true rfl h20)).mono ?_))
    rintro e w20 ⟨rfl, l20⟩
    refine ⟨_, rfl, ?_⟩
    replace b3 := blk_below b3 l20
    replace L := below_step L l20
    refine E.GL.run rfl rfl rfl (E.Runs.not rfl rfl) ?_
    refine E.GL.run rfl rfl rfl (E.Runs.move rfl rfl) ?_
    refine E.GL.run rfl rfl rfl (E.Runs.move rfl rfl) ?_
    refine E.GL.cmp rfl rfl rfl (fun _ h => (E.Runs.lss rfl rfl rfl h)) (fun h24 => ?_) (fun h24 => ?_)
    · refine E.GL.run rfl rfl rfl (E.Runs.pick_f rfl rfl rfl) ?_
      refine E.GL.run rfl rfl rfl (E.Runs.move rfl rfl) ?_
      refine E.GL.skip rfl rfl rfl ?_
      refine E.GL.skip rfl rfl rfl ?_
      refine E.GL.run rfl rfl rfl (E.Runs.pick_t rfl rfl rfl) ?_
      refine E.GL.done ?_
      refine E.QG.code ?_
      refine E.CG.cond_t rfl ?_
      refine E.CG.seq ?_
      refine E.CG.list ?_
      refine E.GL.st rfl rfl rfl (E.ST.call rfl ent12 E.evn ((works_calls _).mono ?_))
      rintro e w30 ⟨rfl, l30⟩
      refine ⟨_, rfl, ?_⟩
      replace b3 := blk_below b3 l30
      replace L := below_step L l30
      refine E.GL.run rfl rfl rfl (E.Runs.assign rfl rfl) ?_
      refine E.GL.done ?_
      refine E.QG.code ?_
      refine E.CG.ret ?_
      refine E.QG.pass_ret ?_
      exact E.QG.result rfl rfl ⟨rfl, L⟩
    · refine E.GL.run rfl rfl rfl (E.Runs.pick_f rfl rfl rfl) ?_
      refine E.GL.run rfl rfl rfl (E.Runs.move rfl rfl) ?_
      refine E.GL.run rfl rfl rfl (E.Runs.move rfl rfl) ?_
      refine E.GL.cmp rfl rfl rfl (fun _ h => (E.Runs.gtr rfl rfl rfl h)) (fun h28 => ?_) (fun h28 => ?_)
      · refine E.GL.run rfl rfl rfl (E.Runs.pick_f rfl rfl rfl) ?_
        refine E.GL.done ?_
        refine E.QG.code ?_
        refine E.CG.cond_t rfl ?_
        refine E.CG.seq ?_
        refine E.CG.list ?_
        refine E.GL.st rfl rfl rfl (E.ST.call rfl ent12 E.evn ((works_calls _).mono ?_))
        rintro e w30 ⟨rfl, l30⟩
        refine ⟨_, rfl, ?_⟩
        replace b3 := blk_below b3 l30
        replace L := below_step L l30
        refine E.GL.run rfl rfl rfl (E.Runs.assign rfl rfl) ?_
        refine E.GL.done ?_
        refine E.QG.code ?_
        refine E.CG.ret ?_
        refine E.QG.pass_ret ?_
        exact E.QG.result rfl rfl ⟨rfl, L⟩
      · refine E.GL.run rfl rfl rfl (E.Runs.pick_f rfl rfl rfl) ?_
        refine E.GL.done ?_
        refine E.QG.code ?_
        refine E.CG.cond_f rfl ?_
        refine E.CG.skip ?_
        refine E.QG.code ?_
        refine E.CG.seq ?_
        obtain ⟨hfar, hlate, hH, hm0, hm1⟩ := h20
        obtain ⟨hb1, hb2⟩ := not_far hfar
        obtain ⟨T, rfl⟩ : ∃ T : Nat, m1 = T := ⟨(m1).toNat, by omega⟩
        have hT : T ≤ 60 := by omega
        have hE0 : chkE ps qs T = 0 := chkE_ok.mpr ⟨hH, by unfold inR; omega⟩
        have ht1 : 1 ≤ m2 := by omega
        refine E.CG.list ?_
        refine E.GL.run rfl rfl rfl (E.Runs.loads (cs := [.slice A ps.length c, .slice B qs.length d]) rfl rfl hu25 rfl info25s (blk_cells b3)) ?_
        have hs32 := L.size
        refine E.GL.st rfl rfl rfl (E.ST.call rfl ent13 (E.evc rfl E.evn) ((copy_calls ps qs A B c d _ (Kd.C_below hP L) (Kd.C_below hQ L) (by omega) (by omega)).mono ?_))
        rintro e w32 ⟨A3, B3, c3, d3, rfl, RP, RQ, l32⟩
        refine ⟨_, rfl, ?_⟩
        replace b3 := blk_below b3 l32
        replace L := below_step L l32
        replace RP := Kd.R_lower RP hs32
        replace RQ := Kd.R_lower RQ hs32
        refine E.GL.st rfl rfl rfl (E.ST.alloc rfl info25z fun g7 w7 e7 b7 l7 => ?_)
        have h7_L : w.heap.size ≤ g7 := by rw [e7]; exact L.size
        have n7_b3 : g3 ≠ g7 := by have := blk_lt b3; omega
        have n7_RP : some g7 ≠ ((Value.slice A3 ps.length c3)).ownBlock := fun h => by have := Kd.R_lt RP _ h.symm; omega
        have n7_RQ : some g7 ≠ ((Value.slice B3 qs.length d3)).ownBlock := fun h => by have := Kd.R_lt RQ _ h.symm; omega
        replace b3 := blk_below b3 l7
        replace RP := Kd.R_below RP l7
        replace RQ := Kd.R_below RQ l7
        replace L := below_step L l7
        refine E.GL.store_whole rfl rfl rfl rfl rfl b7 rfl info25s (slices_one _ _ _ _ _ _) fun wS3_3 c7 lS3_3 => ?_
        replace b3 := blk_grown b3 lS3_3 (E.nes (by first | assumption | exact Ne.symm (by assumption)))
        replace RP := Kd.R_grown1 RP rfl lS3_3 (by first | assumption | exact Kd.R_ne RP b7 (by decide))
        replace RQ := Kd.R_grown1 RQ rfl lS3_3 (by first | assumption | exact Kd.R_ne RQ b7 (by decide))
        replace L := E.below_own L h7_L lS3_3
        replace b7 := c7
        clear c7
        refine E.GL.done ?_
        refine E.QG.code ?_
        refine E.CG.seq ?_
        refine E.CG.seq ?_
        refine E.CG.list ?_
        refine E.GL.run rfl rfl rfl (E.Runs.assign rfl rfl) ?_
        refine E.GL.done ?_
        refine E.QG.code ?_
        refine E.CG.block ?_
        have s5_b3 := b3
        have s5_b7 := b7
        have s5_L := L
        refine E.CG.loop (fun (i : Nat) => [(1, .int .i64 (T : Int)), (2, .int .i64 m2), (3, .pointer (some ⟨g3, 0, none⟩)), (7, .pointer (some ⟨g7, 0, none⟩)), (8, .int .i64 i)]) (fun i w' => i ≤ ps.length ∧ w'.heap[g3]? = some (.cells #[.slice A ps.length c, .slice B qs.length d] 25 (0, 0)) ∧ w'.heap[g7]? = some (.cells #[.slice A3 ps.length c3, .slice B3 qs.length d3] 25 (0, 0)) ∧ Kd.R kI 3 w' w.heap.size (fun _ => True) (.slice A3 ps.length c3) (mixL (fun z : Int => z * m2) ps i) ∧ Kd.R k45 45 w' w.heap.size (fun _ => True) (.slice B3 qs.length d3) (qs) ∧ Below w.heap.size w w') (fun i => ps.length - i) 0 (E.subc rfl (E.subc rfl (E.subc rfl (E.subc rfl (E.subc rfl E.subn))))) ⟨Nat.zero_le _, b3, b7, by rw [mixL_first]; exact RP, RQ, L⟩ ?_
        rintro i w5 ⟨hi, b3, b7, RP, RQ, L⟩
        refine E.CG.seq ?_
        refine E.CG.seq ?_
        refine E.CG.list ?_
        refine E.GL.run rfl rfl rfl (E.Runs.move rfl rfl) ?_
        refine E.GL.run rfl rfl rfl (E.Runs.fieldAddr rfl rfl hu25 rfl (by assumption) rfl) ?_
        refine E.GL.run rfl rfl rfl (E.Runs.load1 rfl rfl hu22 rfl (by first | assumption | exact E.blkc (by assumption) rfl | exact pw_cell_below L (by assumption))) ?_
        refine E.GL.run rfl rfl rfl (E.Runs.len rfl rfl hu22) ?_
        refine E.GL.cmp rfl rfl rfl (fun _ h => (E.Runs.lss rfl rfl rfl h)) (fun h37 => ?_) (fun h37 => ?_)
        · have hil : i < ps.length := by omega
          obtain ⟨x, hx⟩ : ∃ x, ps[i]? = some x := ⟨_, List.getElem?_eq_getElem hil⟩
          obtain ⟨hx0, hx1⟩ := hH.p x (List.mem_of_getElem? hx)
          obtain ⟨hq0, hq1⟩ := mul_small hx0 hx1 (show (0 : Int) ≤ m2 by omega) (show m2 ≤ 4 by omega)
          obtain ⟨gK, eK, hgK, cK, fK, ⟨_, bK⟩, stK⟩ := rowI_at RP (mixL_at (F := (fun z : Int => z * m2)) hx)
          refine E.GL.done ?_
          refine E.QG.code ?_
          refine E.CG.cond_t rfl ?_
          refine E.CG.skip ?_
          refine E.QG.code ?_
          refine E.CG.seq ?_
          refine E.CG.block ?_
          refine E.CG.list ?_
          refine E.GL.run rfl rfl rfl (E.Runs.fieldAddr rfl rfl hu25 rfl (by assumption) rfl) ?_
          refine E.GL.run rfl rfl rfl (E.Runs.load1 rfl rfl hu22 rfl (by first | assumption | exact E.blkc (by assumption) rfl | exact pw_cell_below L (by assumption))) ?_
          refine E.GL.run rfl rfl rfl (E.Runs.move rfl rfl) ?_
          refine E.GL.run rfl rfl rfl (E.Runs.indexAddrA (i := i) rfl rfl rfl hu22 z3 o3 (by omega) eK (show _ = (⟨gK, i * 1, none⟩ : Addr) from by rw [Go.Addr.add_mid, Nat.zero_add])) ?_
          refine E.GL.run rfl rfl rfl (E.Runs.load rfl rfl hu3 cK) ?_
          refine E.GL.run rfl rfl rfl (E.Runs.move rfl rfl) ?_
          refine E.GL.run rfl rfl rfl (E.Runs.mul rfl rfl rfl (IntWalk.i64_in _ (by omega))) ?_
          refine E.GL.run rfl rfl rfl (E.Runs.indexAddrA (i := i) rfl rfl rfl hu22 z3 o3 (by omega) eK (show _ = (⟨gK, i * 1, none⟩ : Addr) from by rw [Go.Addr.add_mid, Nat.zero_add])) ?_
          refine E.GL.sn rfl rfl (E.ST.storeN rfl z3 o3 rfl rfl cK fK ?_)
          obtain ⟨wK, hwK, RK, gK⟩ := stK (x * m2)
          rw [← hwK]
          replace b3 := blk_grown b3 gK (E.nes (blk_ne b3 bK (by decide)))
          replace b7 := blk_grown b7 gK (E.nes (blk_ne b7 bK (by decide)))
          replace RQ := over_blk RQ bK (by decide) rfl gK
          replace L := E.below_own L hgK gK
          rw [mixL_set (F := (fun z : Int => z * m2)) hx] at RK
          clear RP
          have RP := RK
          clear RK
          refine E.GL.done ?_
          refine E.QG.block_normal ?_
          refine E.QG.code ?_
          refine E.CG.list ?_
          refine E.GL.run rfl rfl rfl (E.Runs.move rfl rfl) ?_
          refine E.GL.run rfl rfl rfl (E.Runs.add rfl rfl rfl (IntWalk.i64_in _ (by omega))) ?_
          refine E.GL.run rfl rfl rfl (E.Runs.assign rfl rfl) ?_
          refine E.GL.done ?_
          exact E.QG.round (i + 1) (E.subc rfl (E.subc rfl (E.subc rfl (E.subc rfl (E.subc rfl E.subn))))) ⟨by omega, b3, b7, RP, RQ, L⟩ (by omega)
        · have hi1 : ps.length ≤ i := by omega
          rw [mixL_last hi1] at RP
          refine E.GL.done ?_
          refine E.QG.code ?_
          refine E.CG.cond_f rfl ?_
          refine E.CG.exit ?_
          refine E.QG.pass_exit ?_
          refine E.QG.pass_exit ?_
          refine E.QG.block_here ?_
          refine E.QG.code ?_
          refine E.CG.seq ?_
          refine E.CG.seq ?_
          refine E.CG.list ?_
          refine E.GL.run rfl rfl rfl (E.Runs.assign rfl rfl) ?_
          refine E.GL.done ?_
          refine E.QG.code ?_
          refine E.CG.block ?_
          have s9_b3 := b3
          have s9_b7 := b7
          have s9_L := L
          refine E.CG.loop (fun (i : Nat) => [(1, .int .i64 (T : Int)), (2, .int .i64 m2), (3, .pointer (some ⟨g3, 0, none⟩)), (7, .pointer (some ⟨g7, 0, none⟩)), (9, .int .i64 i)]) (fun i w' => i ≤ qs.length ∧ w'.heap[g3]? = some (.cells #[.slice A ps.length c, .slice B qs.length d] 25 (0, 0)) ∧ w'.heap[g7]? = some (.cells #[.slice A3 ps.length c3, .slice B3 qs.length d3] 25 (0, 0)) ∧ Kd.R kI 3 w' w.heap.size (fun _ => True) (.slice A3 ps.length c3) (ps.map (fun z : Int => z * m2)) ∧ Kd.R k45 45 w' w.heap.size (fun _ => True) (.slice B3 qs.length d3) (mixL (fun q : S45 => { q with f2 := q.f2 * m2 }) qs i) ∧ Below w.heap.size w w') (fun i => qs.length - i) 0 (E.subc rfl (E.subc rfl (E.subc rfl (E.subc rfl (E.subc rfl E.subn))))) ⟨Nat.zero_le _, b3, b7, RP, by rw [mixL_first]; exact RQ, L⟩ ?_
          rintro i w9 ⟨hi, b3, b7, RP, RQ, L⟩
          refine E.CG.seq ?_
          refine E.CG.seq ?_
          refine E.CG.list ?_
          refine E.GL.run rfl rfl rfl (E.Runs.move rfl rfl) ?_
          refine E.GL.run rfl rfl rfl (E.Runs.fieldAddr rfl rfl hu25 rfl (by assumption) rfl) ?_
          refine E.GL.run rfl rfl rfl (E.Runs.load1 rfl rfl hu23 rfl (by first | assumption | exact E.blkc (by assumption) rfl | exact pw_cell_below L (by assumption))) ?_
          refine E.GL.run rfl rfl rfl (E.Runs.len rfl rfl hu23) ?_
          refine E.GL.cmp rfl rfl rfl (fun _ h => (E.Runs.lss rfl rfl rfl h)) (fun h52 => ?_) (fun h52 => ?_)
          · have hil : i < qs.length := by omega
            obtain ⟨q, hx⟩ : ∃ x, qs[i]? = some x := ⟨_, List.getElem?_eq_getElem hil⟩
            obtain ⟨_, _, _, _, _, hx0, hx1, _⟩ := hH.q q (List.mem_of_getElem? hx)
            obtain ⟨hq0, hq1⟩ := mul_small hx0 hx1 (show (0 : Int) ≤ m2 by omega) (show m2 ≤ 4 by omega)
            obtain ⟨gK, eK, hgK, cK, fK, ⟨_, bK⟩, stK⟩ := row45_at RQ (mixL_at (F := (fun q : S45 => { q with f2 := q.f2 * m2 })) hx)
            refine E.GL.done ?_
            refine E.QG.code ?_
            refine E.CG.cond_t rfl ?_
            refine E.CG.skip ?_
            refine E.QG.code ?_
            refine E.CG.seq ?_
            refine E.CG.block ?_
            refine E.CG.list ?_
            refine E.GL.run rfl rfl rfl (E.Runs.fieldAddr rfl rfl hu25 rfl (by assumption) rfl) ?_
            refine E.GL.run rfl rfl rfl (E.Runs.load1 rfl rfl hu23 rfl (by first | assumption | exact E.blkc (by assumption) rfl | exact pw_cell_below L (by assumption))) ?_
            refine E.GL.run rfl rfl rfl (E.Runs.move rfl rfl) ?_
            refine E.GL.run rfl rfl rfl (E.Runs.indexAddrA (i := i) rfl rfl rfl hu23 z45 o45 (by omega) eK (show _ = (⟨gK, i * 4, none⟩ : Addr) from by rw [Go.Addr.add_mid, Nat.zero_add])) ?_
            refine E.GL.run rfl rfl rfl (E.Runs.fieldAddr rfl rfl hu45 rfl (by assumption) (show _ = (⟨gK, i * 4 + 2, none⟩ : Addr) from rfl)) ?_
            refine E.GL.run rfl rfl rfl (E.Runs.load rfl rfl hu3 cK) ?_
            refine E.GL.run rfl rfl rfl (E.Runs.move rfl rfl) ?_
            refine E.GL.run rfl rfl rfl (E.Runs.mul rfl rfl rfl (IntWalk.i64_in _ (by omega))) ?_
            refine E.GL.run rfl rfl rfl (E.Runs.indexAddrA (i := i) rfl rfl rfl hu23 z45 o45 (by omega) eK (show _ = (⟨gK, i * 4, none⟩ : Addr) from by rw [Go.Addr.add_mid, Nat.zero_add])) ?_
            refine E.GL.run rfl rfl rfl (E.Runs.fieldAddr rfl rfl hu45 rfl (by assumption) (show _ = (⟨gK, i * 4 + 2, none⟩ : Addr) from rfl)) ?_
            refine E.GL.sn rfl rfl (E.ST.storeN rfl z3 o3 rfl rfl cK fK ?_)
            obtain ⟨wK, hwK, RK, gK⟩ := stK (q.f2 * m2)
            rw [← hwK]
            replace b3 := blk_grown b3 gK (E.nes (blk_ne b3 bK (by decide)))
            replace b7 := blk_grown b7 gK (E.nes (blk_ne b7 bK (by decide)))
            replace RP := over_blk RP bK (by decide) rfl gK
            replace L := E.below_own L hgK gK
            rw [mixL_set (F := (fun q : S45 => { q with f2 := q.f2 * m2 })) hx] at RK
            clear RQ
            have RQ := RK
            clear RK
            refine E.GL.done ?_
            refine E.QG.block_normal ?_
            refine E.QG.code ?_
            refine E.CG.list ?_
            refine E.GL.run rfl rfl rfl (E.Runs.move rfl rfl) ?_
            refine E.GL.run rfl rfl rfl (E.Runs.add rfl rfl rfl (IntWalk.i64_in _ (by omega))) ?_
            refine E.GL.run rfl rfl rfl (E.Runs.assign rfl rfl) ?_
            refine E.GL.done ?_
            exact E.QG.round (i + 1) (E.subc rfl (E.subc rfl (E.subc rfl (E.subc rfl (E.subc rfl E.subn))))) ⟨by omega, b3, b7, RP, RQ, L⟩ (by omega)
          · refine E.GL.done ?_
            refine E.QG.code ?_
            refine E.CG.cond_f rfl ?_
            refine E.CG.exit ?_
            refine E.QG.pass_exit ?_
            refine E.QG.pass_exit ?_
            refine E.QG.block_here ?_
            refine E.QG.code ?_
            refine E.CG.seq ?_
            refine E.CG.seq ?_
            have hi2 : qs.length ≤ i := by omega
            rw [mixL_last hi2] at RQ
            replace RP := R_scP RP
            replace RQ := R_scQ RQ
            replace b7 := blk_sc (m := m2) b7
            refine E.CG.list ?_
            refine E.GL.run rfl rfl rfl (E.Runs.loads (cs := [.slice A3 (scP m2 ps).length c3, .slice B3 (scQ m2 qs).length d3]) rfl rfl hu25 rfl info25s (blk_cells b7)) ?_
            refine E.GL.st rfl rfl rfl (E.ST.call rfl ent15 (E.evc rfl E.evn) ((check15 (scP m2 ps) (scQ m2 qs) A3 B3 c3 d3 _ (Kd.R_reads' RP).2.2 (Kd.R_reads' RQ).2.2 (by rw [scP_len]; omega) (by rw [scQ_len]; omega)).mono ?_))
            rintro e w66 ⟨rfl, l66⟩
            refine ⟨_, rfl, ?_⟩
            replace b3 := blk_below b3 l66
            replace b7 := blk_below b7 l66
            replace RP := Kd.R_below RP l66
            replace RQ := Kd.R_below RQ l66
            replace L := below_step L l66
            refine E.GL.cmpn rfl rfl rfl (fun _ h => (E.Runs.neq rfl rfl rfl h)) (fun h67 => ?_) (fun h67 => ?_)
            · refine E.GL.done ?_
              refine E.QG.code ?_
              refine E.CG.cond_t rfl ?_
              refine E.CG.seq ?_
              refine E.CG.list ?_
              refine E.GL.st rfl rfl rfl (E.ST.call rfl ent12 E.evn ((works_calls _).mono ?_))
              rintro e w68 ⟨rfl, l68⟩
              refine ⟨_, rfl, ?_⟩
              replace b3 := blk_below b3 l68
              replace b7 := blk_below b7 l68
              replace RP := Kd.R_below RP l68
              replace RQ := Kd.R_below RQ l68
              replace L := below_step L l68
              refine E.GL.run rfl rfl rfl (E.Runs.assign rfl rfl) ?_
              refine E.GL.done ?_
              refine E.QG.code ?_
              refine E.CG.ret ?_
              refine E.QG.pass_ret ?_
              exact E.QG.result rfl rfl ⟨rfl, L⟩
            · have hH2 := checkE_ok.mp h67
              have hE2 : chkE (scP m2 ps) (scQ m2 qs) T = 0 := chkE_ok.mpr ⟨hH2, by unfold inR; omega⟩
              refine E.GL.done ?_
              refine E.QG.code ?_
              refine E.CG.cond_f rfl ?_
              refine E.CG.skip ?_
              refine E.QG.code ?_
              refine E.CG.seq ?_
              refine E.CG.list ?_
              refine E.GL.run rfl rfl rfl (E.Runs.loads (cs := [.slice A ps.length c, .slice B qs.length d]) rfl rfl hu25 rfl info25s (blk_cells b3)) ?_
              refine E.GL.run rfl rfl rfl (E.Runs.move rfl rfl) ?_
              refine E.GL.st rfl rfl rfl (E.ST.call rfl ent28 (E.evc rfl (E.evc rfl E.evn)) ((most_calls ps qs A B c d _ (Kd.C_below hP L) (Kd.C_below hQ L) (by omega) (by omega) T).mono ?_))
              rintro e w72 ⟨N72, rfl, hM72, l72⟩
              refine ⟨_, rfl, ?_⟩
              replace b3 := blk_below b3 l72
              replace b7 := blk_below b7 l72
              replace RP := Kd.R_below RP l72
              replace RQ := Kd.R_below RQ l72
              replace L := below_step L l72
              rw [hE0]
              have hI72 := hM72.1 hE0
              rw [Int.toNat_natCast] at hI72
              have hn0 := most_nonneg hH hI72
              have hn1 := most_all hH hI72
              have hn2 := allP_le hH
              obtain ⟨hq0, hq1⟩ := mul_small (show (0 : Int) ≤ m2 by omega) (show m2 ≤ 4 by omega) hn0 (show N72 ≤ 594 by omega)
              refine E.GL.run rfl rfl rfl (E.Runs.move rfl rfl) ?_
              refine E.GL.run rfl rfl rfl (E.Runs.extract rfl rfl rfl) ?_
              refine E.GL.run rfl rfl rfl (E.Runs.extract rfl rfl rfl) ?_
              refine E.GL.run rfl rfl rfl (E.Runs.assign rfl rfl) ?_
              refine E.GL.run rfl rfl rfl (E.Runs.assign rfl rfl) ?_
              refine E.GL.done ?_
              refine E.QG.code ?_
              refine E.CG.seq ?_
              refine E.CG.list ?_
              refine E.GL.run rfl rfl rfl (E.Runs.loads (cs := [.slice A3 (scP m2 ps).length c3, .slice B3 (scQ m2 qs).length d3]) rfl rfl hu25 rfl info25s (blk_cells b7)) ?_
              refine E.GL.run rfl rfl rfl (E.Runs.move rfl rfl) ?_
              refine E.GL.st rfl rfl rfl (E.ST.call rfl ent28 (E.evc rfl (E.evc rfl E.evn)) ((most_calls (scP m2 ps) (scQ m2 qs) A3 B3 c3 d3 _ (Kd.R_reads' RP).2.2 (Kd.R_reads' RQ).2.2 (by rw [scP_len]; omega) (by rw [scQ_len]; omega) T).mono ?_))
              rintro e w78 ⟨N78, rfl, hM78, l78⟩
              refine ⟨_, rfl, ?_⟩
              replace b3 := blk_below b3 l78
              replace b7 := blk_below b7 l78
              replace RP := Kd.R_below RP l78
              replace RQ := Kd.R_below RQ l78
              replace L := below_step L l78
              rw [hE2]
              have hI78 := hM78.1 hE2
              rw [Int.toNat_natCast] at hI78
              have heq : N78 = m2 * N72 := (hI78.one hH2 (most_sc (by omega) hI72)).trans (Int.mul_comm _ _)
              refine E.GL.run rfl rfl rfl (E.Runs.move rfl rfl) ?_
              refine E.GL.run rfl rfl rfl (E.Runs.extract rfl rfl rfl) ?_
              refine E.GL.run rfl rfl rfl (E.Runs.extract rfl rfl rfl) ?_
              refine E.GL.run rfl rfl rfl (E.Runs.assign rfl rfl) ?_
              refine E.GL.run rfl rfl rfl (E.Runs.assign rfl rfl) ?_
              refine E.GL.done ?_
              refine E.QG.code ?_
              refine E.CG.seq ?_
              refine E.CG.list ?_
              refine E.GL.run rfl rfl rfl (E.Runs.loads (cs := [.slice A ps.length c, .slice B qs.length d]) rfl rfl hu25 rfl info25s (blk_cells b3)) ?_
              refine E.GL.st rfl rfl rfl (E.ST.call rfl ent21 (E.evc rfl E.evn) ((empty_calls ps qs A B c d _ (Kd.C_below hP L) (Kd.C_below hQ L) (by omega) (by omega)).mono ?_))
              rintro e w83 ⟨N83, E83, rfl, hE83, l83⟩
              refine ⟨_, rfl, ?_⟩
              replace b3 := blk_below b3 l83
              replace b7 := blk_below b7 l83
              replace RP := Kd.R_below RP l83
              replace RQ := Kd.R_below RQ l83
              replace L := below_step L l83
              refine E.GL.run rfl rfl rfl (E.Runs.move rfl rfl) ?_
              refine E.GL.run rfl rfl rfl (E.Runs.extract rfl rfl rfl) ?_
              refine E.GL.run rfl rfl rfl (E.Runs.extract rfl rfl rfl) ?_
              refine E.GL.run rfl rfl rfl (E.Runs.assign rfl rfl) ?_
              refine E.GL.run rfl rfl rfl (E.Runs.assign rfl rfl) ?_
              refine E.GL.done ?_
              refine E.QG.code ?_
              refine E.CG.seq ?_
              refine E.CG.list ?_
              refine E.GL.run rfl rfl rfl (E.Runs.loads (cs := [.slice A3 (scP m2 ps).length c3, .slice B3 (scQ m2 qs).length d3]) rfl rfl hu25 rfl info25s (blk_cells b7)) ?_
              refine E.GL.st rfl rfl rfl (E.ST.call rfl ent21 (E.evc rfl E.evn) ((empty_calls (scP m2 ps) (scQ m2 qs) A3 B3 c3 d3 _ (Kd.R_reads' RP).2.2 (Kd.R_reads' RQ).2.2 (by rw [scP_len]; omega) (by rw [scQ_len]; omega)).mono ?_))
              rintro e w88 ⟨N88, E88, rfl, hE88, l88⟩
              refine ⟨_, rfl, ?_⟩
              replace b3 := blk_below b3 l88
              replace b7 := blk_below b7 l88
              replace RP := Kd.R_below RP l88
              replace RQ := Kd.R_below RQ l88
              replace L := below_step L l88
              obtain ⟨hem1, hem2⟩ := empty_sc hH hH2 ht1 hE83 hE88
              refine E.GL.run rfl rfl rfl (E.Runs.move rfl rfl) ?_
              refine E.GL.run rfl rfl rfl (E.Runs.extract rfl rfl rfl) ?_
              refine E.GL.run rfl rfl rfl (E.Runs.extract rfl rfl rfl) ?_
              refine E.GL.run rfl rfl rfl (E.Runs.assign rfl rfl) ?_
              refine E.GL.run rfl rfl rfl (E.Runs.assign rfl rfl) ?_
              refine E.GL.done ?_
              refine E.QG.code ?_
              refine E.CG.seq ?_
              refine E.CG.list ?_
              refine E.GL.run rfl rfl rfl (E.Runs.move rfl rfl) ?_
              refine E.GL.run rfl rfl rfl (E.Runs.eql rfl rfl rfl (decide_eq_true rfl)) ?_
              refine E.GL.run rfl rfl rfl (E.Runs.move rfl rfl) ?_
              refine E.GL.run rfl rfl rfl (E.Runs.move rfl rfl) ?_
              refine E.GL.run rfl rfl rfl (E.Runs.eql rfl rfl rfl (decide_eq_true rfl)) ?_
              refine E.GL.run rfl rfl rfl (E.Runs.pick_t rfl rfl rfl) ?_
              refine E.GL.run rfl rfl rfl (E.Runs.move rfl rfl) ?_
              refine E.GL.run rfl rfl rfl (E.Runs.move rfl rfl) ?_
              refine E.GL.run rfl rfl rfl (E.Runs.move rfl rfl) ?_
              refine E.GL.run rfl rfl rfl (E.Runs.move rfl rfl) ?_
              refine E.GL.run rfl rfl rfl (E.Runs.mul rfl rfl rfl (IntWalk.i64_in _ (by omega))) ?_
              refine E.GL.run rfl rfl rfl (E.Runs.eql rfl rfl rfl (decide_eq_true heq)) ?_
              refine E.GL.run rfl rfl rfl (E.Runs.pick_t rfl rfl rfl) ?_
              refine E.GL.run rfl rfl rfl (E.Runs.move rfl rfl) ?_
              refine E.GL.run rfl rfl rfl (E.Runs.move rfl rfl) ?_
              refine E.GL.run rfl rfl rfl (E.Runs.move rfl rfl) ?_
              refine E.GL.run rfl rfl rfl (E.Runs.eql rfl rfl rfl (decide_eq_true hem1)) ?_
              refine E.GL.run rfl rfl rfl (E.Runs.pick_t rfl rfl rfl) ?_
              refine E.GL.run rfl rfl rfl (E.Runs.move rfl rfl) ?_
              refine E.GL.run rfl rfl rfl (E.Runs.move rfl rfl) ?_
              refine E.GL.run rfl rfl rfl (E.Runs.move rfl rfl) ?_
              refine E.GL.run rfl rfl rfl (E.Runs.eql rfl rfl rfl (decide_eq_true hem2)) ?_
              refine E.GL.run rfl rfl rfl (E.Runs.pick_t rfl rfl rfl) ?_
              refine E.GL.run rfl rfl rfl (E.Runs.move rfl rfl) ?_
              refine E.GL.st rfl rfl rfl (E.ST.call rfl ent12 E.evn ((works_calls _).mono ?_))
              rintro e w115 ⟨rfl, l115⟩
              refine ⟨_, rfl, ?_⟩
              replace b3 := blk_below b3 l115
              replace b7 := blk_below b7 l115
              replace RP := Kd.R_below RP l115
              replace RQ := Kd.R_below RQ l115
              replace L := below_step L l115
              refine E.GL.run rfl rfl rfl (E.Runs.pick_t rfl rfl rfl) ?_
              refine E.GL.run rfl rfl rfl (E.Runs.assign rfl rfl) ?_
              refine E.GL.done ?_
              refine E.QG.code ?_
              refine E.CG.ret ?_
              exact E.QG.result rfl rfl ⟨rfl, L⟩
  · refine E.GL.st rfl rfl rfl (E.ST.call rfl ent27 (E.evc rfl (E.evc rfl E.evn)) ((ready_calls ps qs A B c d _ false (Kd.C_below hP L) (Kd.C_below hQ L) m1 (iff_of_false Bool.false_ne_true h20)).mono ?_))
    rintro e w20 ⟨rfl, l20⟩
    refine ⟨_, rfl, ?_⟩
    replace b3 := blk_below b3 l20
    replace L := below_step L l20
    refine E.GL.run rfl rfl rfl (E.Runs.not rfl rfl) ?_
    refine E.GL.run rfl rfl rfl (E.Runs.move rfl rfl) ?_
    refine E.GL.skip rfl rfl rfl ?_
    refine E.GL.skip rfl rfl rfl ?_
    refine E.GL.run rfl rfl rfl (E.Runs.pick_t rfl rfl rfl) ?_
    refine E.GL.run rfl rfl rfl (E.Runs.move rfl rfl) ?_
    refine E.GL.skip rfl rfl rfl ?_
    refine E.GL.skip rfl rfl rfl ?_
    refine E.GL.run rfl rfl rfl (E.Runs.pick_t rfl rfl rfl) ?_
    refine E.GL.done ?_
    refine E.QG.code ?_
    refine E.CG.cond_t rfl ?_
    refine E.CG.seq ?_
    refine E.CG.list ?_
    refine E.GL.st rfl rfl rfl (E.ST.call rfl ent12 E.evn ((works_calls _).mono ?_))
    rintro e w30 ⟨rfl, l30⟩
    refine ⟨_, rfl, ?_⟩
    replace b3 := blk_below b3 l30
    replace L := below_step L l30
    refine E.GL.run rfl rfl rfl (E.Runs.assign rfl rfl) ?_
    refine E.GL.done ?_
    refine E.QG.code ?_
    refine E.CG.ret ?_
    refine E.QG.pass_ret ?_
    exact E.QG.result rfl rfl ⟨rfl, L⟩

end Go.Proofs.Ytmnjlnkfihklgaa.T
namespace Go.Proofs.Ytmnjlnkfihklgaa.T
open Go.ChangeShapes Go.WideShapes Go.ChangeAt Go.Deep
open Go.RowKit Go.Proofs.YtmnjlnkfihklgaaW.PrintWords Go.Proofs.YtmnjlnkfihklgaaW.PrintMore
open Go.Proofs.Ytmnjlnkfihklgaa.P
set_option linter.unusedVariables false
set_option linter.unusedSimpArgs false

section
variable {X : Type} {enc : TypeId × Value → X} {w : World} {base : Nat} {spare : Nat → Bool} {held : Bool}
theorem fld {fs : Array Field} {n : Nat} {cs : List Value} {xs : List (DataW X × List MemPlace)} (hlen : xs.length = fs.size) (hg : ∀ (i : Nat) (f : Field), fs[i]? = some f → DataW.trod enc Try.prog w base spare held n f.type ((cs.drop f.offset).take (Try.prog.cellsOf f.type)) = xs[i]?) (i : Nat) (f : Field) (hf : fs[i]? = some f)
    (ty : TypeId) (off k : Nat) (h1 : f.type = ty) (h2 : f.offset = off) (h3 : Try.prog.cellsOf ty = k) :
    ∃ y, DataW.trod enc Try.prog w base spare held n ty ((cs.drop off).take k) = some y := by
  have hi : i < xs.length := by rw [hlen]; exact (Array.getElem?_eq_some_iff.1 hf).1
  subst h1 h2 h3
  exact ⟨_, (hg i f hf).trans (List.getElem?_eq_getElem hi)⟩

theorem cells3 : Try.prog.cellsOf 3 = 1 := by kernel_rfl

theorem trod3 {n : Nat} {cs : List Value} {x : DataW X × List MemPlace} (h : DataW.trod enc Try.prog w base spare held n 3 cs = some x) : ∃ (a : Int), cs = [.int .i64 a] := by
  obtain ⟨a, hc, _⟩ := DataW.trod_int Try.underlying3 h
  exact ⟨a, hc⟩

set_option maxRecDepth 100000 in
theorem int_open {r : Reach} {b0 : Nat} {v : Value} {d : DataW X} {p : List MemPlace} (hval : Value.okWide Try.prog w r b0 3 v) (h : DataW.Trod enc Try.prog w base spare held 3 v d p) : ∃ m : Int, v = .int .i64 m := okWide_int Try.underlying3 hval

theorem cells25 : Try.prog.cellsOf 25 = 2 := by kernel_rfl

theorem cells22 : Try.prog.cellsOf 22 = 1 := by kernel_rfl

theorem trod22 {n : Nat} {cs : List Value} {x : DataW X × List MemPlace} (h : DataW.trod enc Try.prog w base spare held n 22 cs = some x) : ∃ (aA : Option Addr) (ac : Nat) (al : List Int), cs = [.slice aA al.length ac] ∧ al.length ≤ ac ∧ Kd.C (Kd.int .i64) w aA al.length al := by
  rcases open_slice Try.underlying22 h with ⟨rfl, _⟩ | ⟨a, len, cap, m, k, D, Pl, rfl, hb, hl, hm, hmm, hx, hi⟩
  · exact ⟨none, 0, [], rfl, Nat.le_refl _, rfl, by simp, fun h => absurd h (by simp)⟩
  · have hlm : len ≤ m := by rw [hmm]; split <;> omega
    have H : ∀ i, i < len → ∃ s : Int, w.cells? base (a.add (i * 1)) 1 = some [.int .i64 s] := by
      intro i hil
      obtain ⟨cs', hc, ht⟩ := hi i (by omega)
      obtain ⟨a, rfl⟩ := trod3 ht
      rw [cells3] at hc
      exact ⟨a, hc⟩
    obtain ⟨F, hF⟩ : ∃ F : Nat → Int, ∀ i, i < len → w.cells? base (a.add (i * 1)) 1 = some [.int .i64 (F i)] := by
      refine ⟨fun i => if h : i < len then (H i h).choose else 0, fun i h => ?_⟩
      simp only [dif_pos h]
      exact (H i h).choose_spec
    refine ⟨some a, cap, (List.range len).map F, by simp, by simpa using hl, ?_, ?_, ?_⟩
    · rfl
    · simp only [List.length_map, List.length_range]
      unfold maxLen at hm
      omega
    · intro _
      refine ⟨a, rfl, fun j p hj => ?_⟩
      have hjl : j < len := by
        have := (List.getElem?_eq_some_iff.1 hj).1
        simpa using this
      have hp : p = F j := by
        rw [List.getElem?_map, List.getElem?_range hjl] at hj
        simpa using hj.symm
      subst hp
      refine ⟨[.int .i64 (F j)], rfl, rfl, ?_⟩
      intro i u hu
      obtain ⟨_, hcl, hat⟩ := World.cells?_some (hF j hjl)
      have hil : i < 1 := (List.getElem?_eq_some_iff.1 hu).1
      have := hat i hil
      rw [Go.Deep.add_add] at this
      rw [show j * ((Kd.int .i64)).sz + i = j * 1 + i from rfl, this, hu]

theorem cells23 : Try.prog.cellsOf 23 = 1 := by kernel_rfl

theorem cells45 : Try.prog.cellsOf 45 = 4 := by kernel_rfl

theorem list_of4 {cs : List Value} (h : cs.length = 4) : ∃ v0 v1 v2 v3, cs = [v0, v1, v2, v3] := by
  match cs, h with
  | [v0, v1, v2, v3], _ => exact ⟨v0, v1, v2, v3, rfl⟩

theorem trod45 {n : Nat} {cs : List Value} {x : DataW X × List MemPlace} (h : DataW.trod enc Try.prog w base spare held n 45 cs = some x) : ∃ (a_0 : Int) (a_1 : Int) (a_2 : Int) (a_3 : Int), cs = [.int .i64 a_0, .int .i64 a_1, .int .i64 a_2, .int .i64 a_3] := by
  obtain ⟨xs, m, _, hx, hl, hlen, hg⟩ := DataW.trod_struct Try.underlying45 h
  rw [cells45] at hl
  obtain ⟨v0, v1, v2, v3, rfl⟩ := list_of4 hl
  obtain ⟨y0, h0⟩ := fld hlen hg 0 _ rfl 3 0 1 rfl rfl cells3
  obtain ⟨y1, h1⟩ := fld hlen hg 1 _ rfl 3 1 1 rfl rfl cells3
  obtain ⟨y2, h2⟩ := fld hlen hg 2 _ rfl 3 2 1 rfl rfl cells3
  obtain ⟨y3, h3⟩ := fld hlen hg 3 _ rfl 3 3 1 rfl rfl cells3
  obtain ⟨a_0, e0⟩ := trod3 h0
  obtain ⟨a_1, e1⟩ := trod3 h1
  obtain ⟨a_2, e2⟩ := trod3 h2
  obtain ⟨a_3, e3⟩ := trod3 h3
  simp only [List.drop_zero, List.take_succ_cons, List.take_zero, List.drop_succ_cons, List.cons.injEq, and_true] at e0 e1 e2 e3
  subst e0 e1 e2 e3
  exact ⟨a_0, a_1, a_2, a_3, rfl⟩

theorem trod23 {n : Nat} {cs : List Value} {x : DataW X × List MemPlace} (h : DataW.trod enc Try.prog w base spare held n 23 cs = some x) : ∃ (aA : Option Addr) (ac : Nat) (al : List S45), cs = [.slice aA al.length ac] ∧ al.length ≤ ac ∧ Kd.C k45 w aA al.length al := by
  rcases open_slice Try.underlying23 h with ⟨rfl, _⟩ | ⟨a, len, cap, m, k, D, Pl, rfl, hb, hl, hm, hmm, hx, hi⟩
  · exact ⟨none, 0, [], rfl, Nat.le_refl _, rfl, by simp, fun h => absurd h (by simp)⟩
  · have hlm : len ≤ m := by rw [hmm]; split <;> omega
    have H : ∀ i, i < len → ∃ s : S45, w.cells? base (a.add (i * 4)) 4 = some [.int .i64 s.f0, .int .i64 s.f1, .int .i64 s.f2, .int .i64 s.f3] := by
      intro i hil
      obtain ⟨cs', hc, ht⟩ := hi i (by omega)
      obtain ⟨a_0, a_1, a_2, a_3, rfl⟩ := trod45 ht
      rw [cells45] at hc
      exact ⟨⟨a_0, a_1, a_2, a_3⟩, hc⟩
    obtain ⟨F, hF⟩ : ∃ F : Nat → S45, ∀ i, i < len → w.cells? base (a.add (i * 4)) 4 = some [.int .i64 (F i).f0, .int .i64 (F i).f1, .int .i64 (F i).f2, .int .i64 (F i).f3] := by
      refine ⟨fun i => if h : i < len then (H i h).choose else P.z45, fun i h => ?_⟩
      simp only [dif_pos h]
      exact (H i h).choose_spec
    refine ⟨some a, cap, (List.range len).map F, by simp, by simpa using hl, ?_, ?_, ?_⟩
    · rfl
    · simp only [List.length_map, List.length_range]
      unfold maxLen at hm
      omega
    · intro _
      refine ⟨a, rfl, fun j p hj => ?_⟩
      have hjl : j < len := by
        have := (List.getElem?_eq_some_iff.1 hj).1
        simpa using this
      have hp : p = F j := by
        rw [List.getElem?_map, List.getElem?_range hjl] at hj
        simpa using hj.symm
      subst hp
      refine ⟨[.int .i64 (F j).f0, .int .i64 (F j).f1, .int .i64 (F j).f2, .int .i64 (F j).f3], rfl, k45_mk w (F j), ?_⟩
      intro i u hu
      obtain ⟨_, hcl, hat⟩ := World.cells?_some (hF j hjl)
      have hil : i < 4 := (List.getElem?_eq_some_iff.1 hu).1
      have := hat i hil
      rw [Go.Deep.add_add] at this
      rw [show j * (k45).sz + i = j * 4 + i from rfl, this, hu]

theorem list_of2 {cs : List Value} (h : cs.length = 2) : ∃ v0 v1, cs = [v0, v1] := by
  match cs, h with
  | [v0, v1], _ => exact ⟨v0, v1, rfl⟩

theorem trod25 {n : Nat} {cs : List Value} {x : DataW X × List MemPlace} (h : DataW.trod enc Try.prog w base spare held n 25 cs = some x) : ∃ (a_0A : Option Addr) (a_0c : Nat) (a_0l : List Int) (a_1A : Option Addr) (a_1c : Nat) (a_1l : List S45), cs = [.slice a_0A a_0l.length a_0c, .slice a_1A a_1l.length a_1c] ∧ a_0l.length ≤ a_0c ∧ Kd.C (Kd.int .i64) w a_0A a_0l.length a_0l ∧ a_1l.length ≤ a_1c ∧ Kd.C k45 w a_1A a_1l.length a_1l := by
  obtain ⟨xs, m, _, hx, hl, hlen, hg⟩ := DataW.trod_struct Try.underlying25 h
  rw [cells25] at hl
  obtain ⟨v0, v1, rfl⟩ := list_of2 hl
  obtain ⟨y0, h0⟩ := fld hlen hg 0 _ rfl 22 0 1 rfl rfl cells22
  obtain ⟨y1, h1⟩ := fld hlen hg 1 _ rfl 23 1 1 rfl rfl cells23
  obtain ⟨a_0A, a_0c, a_0l, e0, f0_0, f0_1⟩ := trod22 h0
  obtain ⟨a_1A, a_1c, a_1l, e1, f1_0, f1_1⟩ := trod23 h1
  simp only [List.drop_zero, List.take_succ_cons, List.take_zero, List.drop_succ_cons, List.cons.injEq, and_true] at e0 e1
  subst e0 e1
  exact ⟨a_0A, a_0c, a_0l, a_1A, a_1c, a_1l, rfl, f0_0, f0_1, f1_0, f1_1⟩

set_option maxRecDepth 100000 in
theorem house_open {r : Reach} {b0 : Nat} {v : Value} {d : DataW X} {p : List MemPlace} (hval : Value.okWide Try.prog w r b0 25 v) (h : DataW.Trod enc Try.prog w base spare held 25 v d p) : ∃ (a_0A : Option Addr) (a_0c : Nat) (a_0l : List Int) (a_1A : Option Addr) (a_1c : Nat) (a_1l : List S45), v = .agg #[.slice a_0A a_0l.length a_0c, .slice a_1A a_1l.length a_1c] ∧ a_0l.length ≤ a_0c ∧ Kd.C (Kd.int .i64) w a_0A a_0l.length a_0l ∧ a_1l.length ≤ a_1c ∧ Kd.C k45 w a_1A a_1l.length a_1l := by
  obtain ⟨cs, rfl, hsz⟩ := okWide_struct Try.underlying25 hval
  obtain ⟨n, hn⟩ := h
  obtain ⟨a_0A, a_0c, a_0l, a_1A, a_1c, a_1l, hH, f0, f1, f2, f3⟩ := trod25 hn
  obtain ⟨l⟩ := cs
  obtain rfl : l = _ := hH
  exact ⟨a_0A, a_0c, a_0l, a_1A, a_1c, a_1l, rfl, f0, f1, f2, f3⟩

end

end Go.Proofs.Ytmnjlnkfihklgaa.T
