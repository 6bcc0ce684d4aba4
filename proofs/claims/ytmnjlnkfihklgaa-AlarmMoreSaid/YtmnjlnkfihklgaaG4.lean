/- Texts of this claim, put together: N17, N18, B9, O1. -/
import Derived.Test.YtmnjlnkfihklgaaG3
import Derived.Test.YtmnjlnkfihklgaaRows
import Derived.ProofKit
import Derived.OpenShut
import Derived.ChangeOld
import Derived.SizedLaws
import Derived.Deep.Slices
namespace Go.Proofs.Ytmnjlnkfihklgaa.T
open Go.RowKit Go.Proofs.YtmnjlnkfihklgaaW.PrintWords Go.Proofs.YtmnjlnkfihklgaaW.PrintMore
open Go.Proofs.Ytmnjlnkfihklgaa.P
set_option linter.unusedVariables false
theorem most_bound {ps : List Int} {qs : List S45} {T : Nat} {N : Int} (h : HOk ps qs) (a : IsMost ps qs T N) (hr : Nat → Nat) : N ≤ boundU ps qs T hr := by
  obtain ⟨⟨u, hu, eu⟩, _⟩ := a
  rw [← eu]
  exact use_le h hu hr
theorem sumN_grow {a b : Nat → Int} {n m : Nat} (hnm : n ≤ m) (h : ∀ i, i < n → a i ≤ b i) (h0 : ∀ i, i < m → 0 ≤ b i) : sumN a n ≤ sumN b m := by
  induction m with
  | zero =>
    rw [show n = 0 by omega]
    exact Int.le_refl _
  | succ m ih =>
    by_cases e : n = m + 1
    · subst e
      exact sumN_le h
    · have h1 := ih (by omega) (fun i hi => h0 i (by omega))
      have h2 := h0 m (by omega)
      simp only [sumN]
      omega
/-- All passages of one house are in the other one, there as wide and as short at least. -/
structure Wider (qs qs' : List S45) : Prop where
  len : qs.length ≤ qs'.length
  fr : ∀ i, i < qs.length → (qs'.getD i z45).f0 = (qs.getD i z45).f0
  td : ∀ i, i < qs.length → (qs'.getD i z45).f1 = (qs.getD i z45).f1
  wd : ∀ i, i < qs.length → (qs.getD i z45).f2 ≤ (qs'.getD i z45).f2
  wk : ∀ i, i < qs.length → (qs'.getD i z45).f3.toNat ≤ (qs.getD i z45).f3.toNat
theorem bound_more {ps : List Int} {qs qs' : List S45} {T : Nat} (h : HOk ps qs) (h' : HOk ps qs') (W : Wider qs qs') (hr : Nat → Nat) : boundU ps qs T hr ≤ boundU ps qs' T hr := by
  have w0 : ∀ i, i < qs'.length → 0 ≤ (qs'.getD i z45).f2 := fun i hi => (h'.q _ (getD_mem (z := z45) hi)).2.2.2.2.2.1
  unfold boundU
  refine Int.add_le_add_left ?_ _
  unfold sumQ
  refine sumN_grow W.len (fun i hi => ?_) (fun i hi => ?_)
  · have e0 := W.fr i hi
    have e1 := W.td i hi
    have e2 := W.wd i hi
    have e3 := W.wk i hi
    have e4 := w0 i (Nat.lt_of_lt_of_le hi W.len)
    refine sumN_grow (by omega) (fun k hk => ?_) (fun k hk => ?_)
    · dsimp only
      rw [e0, e1]
      by_cases c : hr (qs.getD i z45).f0.toNat ≤ k ∧ ((qs.getD i z45).f1 = -1 ∨ k + (qs.getD i z45).f3.toNat < hr (qs.getD i z45).f1.toNat)
      · rw [if_pos c, if_pos ⟨c.1, c.2.imp id (fun z => by omega)⟩]
        exact e2
      · rw [if_neg c]
        split
        · exact e4
        · exact Int.le_refl _
    · dsimp only
      split
      · exact e4
      · exact Int.le_refl _
  · refine sumN_nonneg fun k _ => ?_
    dsimp only
    split
    · exact w0 i hi
    · exact Int.le_refl _
theorem most_more {ps : List Int} {qs qs' : List S45} {T : Nat} {N M : Int} (h : HOk ps qs) (h' : HOk ps qs') (W : Wider qs qs') (a : IsMost ps qs T N) (b : IsMost ps qs' T M) : N ≤ M := by
  obtain ⟨_, hr, _, er⟩ := b
  have h1 := most_bound h a hr
  have h2 := bound_more (T := T) h h' W hr
  omega
/-! ### One person more -/
theorem sumN_bump {a b : Nat → Int} {u : Nat} {x : Int} : ∀ {n}, u < n → (∀ i, i < n → i ≠ u → a i = b i) → b u = a u + x → sumN b n = sumN a n + x
  | 0, h, _, _ => by omega
  | n + 1, h, h1, h2 => by
    simp only [sumN]
    by_cases e : u = n
    · subst e
      have := sumN_congr (a := a) (b := b) (n := u) (fun i hi => h1 i (by omega) (by omega))
      omega
    · have := sumN_bump (a := a) (b := b) (u := u) (x := x) (n := n) (by omega) (fun i hi hne => h1 i (by omega) hne) h2
      have := h1 n (by omega) (fun z => e z.symm)
      omega
theorem bump_get (ps : List Int) {r j : Nat} (hr : r < ps.length) (x : Int) : (ps.set r x).getD j 0 = if j = r then x else ps.getD j 0 := by
  rw [List.getD_eq_getElem?_getD, List.getElem?_set]
  by_cases e : j = r
  · subst e
    rw [if_pos rfl, if_pos rfl, if_pos hr]
    rfl
  · rw [if_neg (fun z => e z.symm), if_neg e, List.getD_eq_getElem?_getD]
theorem bound_bump {ps : List Int} {qs : List S45} {T r : Nat} (hr : r < ps.length) (hs : Nat → Nat) : boundU (ps.set r (ps.getD r 0 + 1)) qs T hs = boundU ps qs T hs + (if 0 < hs r then 1 else 0) := by
  unfold boundU
  rw [List.length_set, sumN_bump (a := fun r => if 0 < hs r then ps.getD r 0 else 0) (b := fun j => if 0 < hs j then (ps.set r (ps.getD r 0 + 1)).getD j 0 else 0) (u := r) (x := if 0 < hs r then 1 else 0) hr]
  · omega
  · intro i _ hi
    rw [bump_get ps hr, if_neg hi]
  · rw [bump_get ps hr, if_pos rfl]
    split <;> omega
theorem most_bump {ps : List Int} {qs : List S45} {T r : Nat} {N M : Int} (hr : r < ps.length) (h : HOk ps qs) (h' : HOk (ps.set r (ps.getD r 0 + 1)) qs) (a : IsMost ps qs T N) (b : IsMost (ps.set r (ps.getD r 0 + 1)) qs T M) : M = N ∨ M = N + 1 := by
  obtain ⟨_, ha, _, ea⟩ := id a
  obtain ⟨_, hb, _, eb⟩ := id b
  have h1 := most_bound h a hb
  have h2 := most_bound h' b ha
  rw [bound_bump hr] at h2 eb
  split at h2 <;> split at eb <;> omega
section
variable {ps : List Int} {qs : List S45} {T : Nat} {t : Int}
end
/-- There is a greatest number. -/
theorem EmptyR.ok {ps : List Int} {qs : List S45} {N E : Int} (h : HOk ps qs) (a : EmptyR ps qs N E) (e : E = 0) : ∃ t : Nat, t ≤ 60 ∧ N = t ∧ IsMost ps qs t (allP ps) ∧ ∀ s : Nat, s < t → ¬ IsMost ps qs s (allP ps) := by
  rcases a.2 h with ⟨t, a1, a2, a3, a4, a5⟩ | ⟨a1, a2, a3⟩
  · exact ⟨t, a1, a2, a4, a5⟩
  · omega
theorem EmptyR.no {ps : List Int} {qs : List S45} {N E : Int} (h : HOk ps qs) (a : EmptyR ps qs N E) (e : ¬ E = 0) : E = 3 ∧ ∀ s : Nat, s ≤ 60 → ¬ IsMost ps qs s (allP ps) := by
  rcases a.2 h with ⟨t, a1, a2, a3, a4, a5⟩ | ⟨a1, a2, a3⟩
  · exact absurd a3 e
  · exact ⟨a2, a3⟩
end Go.Proofs.Ytmnjlnkfihklgaa.T
namespace Go.Proofs.Ytmnjlnkfihklgaa.T
open Go.RowKit Go.Proofs.YtmnjlnkfihklgaaW.PrintWords Go.Proofs.YtmnjlnkfihklgaaW.PrintMore
open Go.Proofs.Ytmnjlnkfihklgaa.P
set_option linter.unusedVariables false
theorem search_ex {ls : List S95} {n : Nat} (hW : WsOk ls n) (hn : 0 < n) : ∃ V bl, Pb ls n V bl ∧ ∀ x ∈ ls, x.f0.toNat ∈ V → 0 < x.f2 → x.f1.toNat ∈ V := by
  have key : ∀ (k : Nat) (V : List Nat) (bl : List Int), Pb ls n V bl → n - V.length ≤ k → ∃ V bl, Pb ls n V bl ∧ ∀ x ∈ ls, x.f0.toNat ∈ V → 0 < x.f2 → x.f1.toNat ∈ V := by
    intro k
    induction k with
    | zero =>
      intro V bl h hk
      refine ⟨V, bl, h, fun x hx a b => ?_⟩
      refine Classical.byContradiction fun q => ?_
      have hwx := hW x hx
      have hlt : x.f1.toNat < n := by omega
      have h0 : x.f1.toNat ≠ 0 := fun e => q (by rw [e]; exact List.mem_of_getElem? h.v0)
      obtain ⟨p, hp⟩ := List.mem_iff_getElem?.mp a
      obtain ⟨i, hi⟩ := List.mem_iff_getElem?.mp hx
      have hb : bl[x.f1.toNat]? = some 0 := Classical.byContradiction fun z => q ((h.is _ hlt).mp z).1
      have := (h.found hp hi (by omega) b (t := x.f1.toNat) (by omega) hlt h0 hb).few
      rw [List.length_append] at this
      simp at this
      omega
    | succ k ih =>
      intro V bl h hk
      by_cases c : ∀ x ∈ ls, x.f0.toNat ∈ V → 0 < x.f2 → x.f1.toNat ∈ V
      · exact ⟨V, bl, h, c⟩
      · obtain ⟨x, c1⟩ := Classical.not_forall.mp c
        obtain ⟨hx, c2⟩ := Classical.not_imp.mp c1
        obtain ⟨a, c3⟩ := Classical.not_imp.mp c2
        obtain ⟨b, q⟩ := Classical.not_imp.mp c3
        have hwx := hW x hx
        have hlt : x.f1.toNat < n := by omega
        have h0 : x.f1.toNat ≠ 0 := fun e => q (by rw [e]; exact List.mem_of_getElem? h.v0)
        obtain ⟨p, hp⟩ := List.mem_iff_getElem?.mp a
        obtain ⟨i, hi⟩ := List.mem_iff_getElem?.mp hx
        have hb : bl[x.f1.toNat]? = some 0 := Classical.byContradiction fun z => q ((h.is _ hlt).mp z).1
        have hf := h.found hp hi (by omega) b (t := x.f1.toNat) (by omega) hlt h0 hb
        refine ih _ _ hf ?_
        have := hf.few
        rw [List.length_append] at this ⊢
        simp at this ⊢
        omega
  exact key n _ _ (Pb.start hn) (by omega)
theorem path_ex {ls : List S95} {n : Nat} {V : List Nat} {bl : List Int} (h : Pb ls n V bl) : ∀ (m v : Nat), V.idxOf v ≤ m → v ∈ V → ∃ P, Wl ls V.idxOf v P := by
  intro m
  induction m with
  | zero =>
    intro v hm hv
    by_cases e : v = 0
    · exact ⟨[], e⟩
    · obtain ⟨k, x, _, _, _, _, _, q⟩ := h.at_ hv e
      omega
  | succ m ih =>
    intro v hm hv
    by_cases e : v = 0
    · exact ⟨[], e⟩
    · obtain ⟨k, x, q1, _, q3, q4, q5, q6⟩ := h.at_ hv e
      obtain ⟨P, hP⟩ := ih _ (by omega) q5
      exact ⟨(k : Int) :: P, e, k, x, rfl, q1, q3, q4, q6, hP⟩
theorem push_ex {E : List Ed} {last : Nat} {f : Nat → Int} : ∀ (H : List (Nat × Bool)) (g : Nat → Int) (v : Nat), Xg E last f g v H → ∃ g' v', Xg E last f g' v' []
  | [], g, v, X => ⟨g, v, X⟩
  | (k, b) :: r, g, v, X => by
    obtain ⟨_, e, he, _, _, _⟩ := id X.wh
    exact push_ex r _ _ (X.step he)
section
variable {ps : List Int} {qs : List S45} {T : Nat}
theorem most_ex (h : HOk ps qs) : ∃ N, IsMost ps qs T N := by
  have key : ∀ (k : Nat) (f : Nat → Int) (n : Int), Xf ps qs T f n → (allP ps - n).toNat ≤ k → ∃ N, IsMost ps qs T N := by
    intro k
    induction k with
    | zero =>
      intro f n X hk
      obtain ⟨V, bl, hb, hc⟩ := search_ex (wsX (T := T) h f) (by omega)
      by_cases hl : lastN ps.length T ∈ V
      · obtain ⟨P, hP⟩ := path_ex hb _ _ (Nat.le_refl _) hl
        obtain ⟨H, _, q2, q3, _⟩ := wh_of hP
        obtain ⟨g, v, hg⟩ := push_ex (last := lastN ps.length T) (f := f) H f _ ⟨q2, q3, X.ok, fun u => by omega⟩
        have := (hg.last X).le h
        omega
      · exact ⟨n, X.most h (fun v => v ∈ V) (List.mem_of_getElem? hb.v0) hl hc⟩
    | succ k ih =>
      intro f n X hk
      obtain ⟨V, bl, hb, hc⟩ := search_ex (wsX (T := T) h f) (by omega)
      by_cases hl : lastN ps.length T ∈ V
      · obtain ⟨P, hP⟩ := path_ex hb _ _ (Nat.le_refl _) hl
        obtain ⟨H, _, q2, q3, _⟩ := wh_of hP
        obtain ⟨g, v, hg⟩ := push_ex (last := lastN ps.length T) (f := f) H f _ ⟨q2, q3, X.ok, fun u => by omega⟩
        exact ih g (n + 1) (hg.last X) (by omega)
      · exact ⟨n, X.most h (fun v => v ∈ V) (List.mem_of_getElem? hb.v0) hl hc⟩
  exact key _ _ _ (Xf.first h) (Nat.le_refl _)
theorem most_nonneg (h : HOk ps qs) {N : Int} (a : IsMost ps qs T N) : 0 ≤ N := by
  obtain ⟨⟨u, hu, e⟩, _⟩ := a
  rw [← e]
  unfold outU sumQ
  refine sumN_nonneg fun i hi => sumN_nonneg fun k hk => ?_
  dsimp only
  split
  · exact (hu.w i k hi (by omega)).1
  · exact Int.le_refl _
end
theorem empty_more {ps : List Int} {qs qs' : List S45} {N E M D : Int} (h : HOk ps qs) (h' : HOk ps qs') (W : Wider qs qs') (a : EmptyR ps qs N E) (b : EmptyR ps qs' M D) (e : E = 0) : D = 0 ∧ M ≤ N := by
  obtain ⟨t, a1, a2, a3, a4⟩ := a.ok h e
  obtain ⟨K, k⟩ := most_ex (T := t) h'
  have h1 := most_more h h' W a3 k
  have h2 := most_all h' k
  obtain rfl : K = allP ps := by omega
  rcases b.2 h' with ⟨y, b1, b2, b3, b4, b5⟩ | ⟨b1, b2, b3⟩
  · refine ⟨b3, ?_⟩
    rw [a2, b2]
    rcases Nat.lt_or_ge t y with q | q
    · exact absurd k (b5 t q)
    · omega
  · exact absurd k (b3 t a1)
section
variable {α : Type} {F : α → α} {l : List α}
end
end Go.Proofs.Ytmnjlnkfihklgaa.T
namespace Go.Proofs.Ytmnjlnkfihklgaa.T
open Go.RowKit Go.Proofs.YtmnjlnkfihklgaaW.PrintWords Go.Proofs.YtmnjlnkfihklgaaW.PrintMore
open Go.Proofs.Ytmnjlnkfihklgaa.P
set_option linter.unusedVariables false
set_option linter.unusedSimpArgs false

theorem R_len {α : Type} {d : Kd α} {e base n m c : Nat} {w : World} {A : Option Addr} {l : List α} (h : n = m) (R : Kd.R d e w base (fun _ => True) (.slice A n c) l) : Kd.R d e w base (fun _ => True) (.slice A m c) l := h ▸ R
theorem mid51 {w : World} {g : Nat} {x0 x1 x2 x3 x4 y0 y1 y2 y3 : Value} (b : w.heap[g]? = some (.cells #[x0, x1, x2, x3, x4, y0, y1, y2, y3] 51 (0, 0))) : ∀ j v, ([y0, y1, y2, y3] : List Value)[j]? = some v → w.cell? ((⟨g, 5, none⟩ : Addr).add j) = some v := by
  intro j v hv
  rw [Addr.add_mid, blk_cell b]
  rcases j with _ | _ | _ | _ | j <;> first | exact hv | (simp at hv)
theorem row45_set {W : World} {base : Nat} {A : Option Addr} {n c : Nat} {xs : List S45} {i : Nat} (R : Kd.R k45 45 W base (fun _ => True) (.slice A n c) xs) (hi : i < xs.length) :
    ∃ g, A = some ⟨g, 0, none⟩ ∧ base ≤ g ∧ W.there g (i * 4) 4 ∧ (∃ cells, W.heap[g]? = some (.cells cells 45 (0, 0))) ∧ (∀ s : S45, ∃ w', w' = W.setCells g (i * 4) [.int .i64 s.f0, .int .i64 s.f1, .int .i64 s.f2, .int .i64 s.f3] ∧ Kd.R k45 45 w' base (fun _ => True) (.slice A n c) (xs.set i s) ∧ W.grownBy w' (some g)) := by
  obtain ⟨g, cap, hv, hb, hl, cells, hc⟩ := Kd.R_form R (by omega)
  have hn := (Kd.R_reads' R).1
  injection hv with hA hn' hc'
  subst hA hc'
  obtain ⟨cs, h1, h2, h3, h4⟩ := Kd.R_elem R ⟨0, 0, 0, 0⟩ (i : Int) (by omega) (by omega)
  obtain rfl := k45_open (Kd.K_of_M k45 h2)
  rw [Int.toNat_natCast] at h2 h3 h4
  refine ⟨g, rfl, hb, fun j hj => ⟨?_, h4 j⟩, ⟨cells, hc⟩, fun s => ⟨_, rfl, ?_⟩⟩
  · rcases j with _ | _ | _ | _ | j
    · rw [show i * 4 + 0 = i * k45.sz + 0 from rfl, h3 0 _ rfl]; rfl
    · rw [show i * 4 + 1 = i * k45.sz + 1 from rfl, h3 1 _ rfl]; rfl
    · rw [show i * 4 + 2 = i * k45.sz + 2 from rfl, h3 2 _ rfl]; rfl
    · rw [show i * 4 + 3 = i * k45.sz + 3 from rfl, h3 3 _ rfl]; rfl
    · omega
  · have := Kd.R_seg R (i : Int) (by omega) (by omega) (seg := [.int .i64 s.f0, .int .i64 s.f1, .int .i64 s.f2, .int .i64 s.f3]) (j := 0) h1 (by rw [Int.toNat_natCast]; exact h3) (by show 0 + 4 ≤ 4; decide) (x' := s) (okp := fun _ => False) (k45_mkM _ _ _ s) (fun _ hk => hk.elim)
    rw [Int.toNat_natCast] at this
    exact this
theorem wider_refl (qs : List S45) : Wider qs qs := ⟨Nat.le_refl _, fun _ _ => rfl, fun _ _ => rfl, fun _ _ => Int.le_refl _, fun _ _ => Nat.le_refl _⟩
theorem wider_set {qs : List S45} {i : Nat} {q : S45} {a b : Int} (hi : qs[i]? = some q) (ha : q.f2 ≤ a) (hb : b.toNat ≤ q.f3.toNat) : Wider qs (qs.set i ⟨q.f0, q.f1, a, b⟩) := by
  have hil := (List.getElem?_eq_some_iff.1 hi).1
  have hg : ∀ j, j < qs.length → (qs.set i ⟨q.f0, q.f1, a, b⟩).getD j P.z45 = if j = i then ⟨q.f0, q.f1, a, b⟩ else qs.getD j P.z45 := by
    intro j hj
    rw [List.getD_eq_getElem?_getD, List.getD_eq_getElem?_getD]
    split
    next h => subst h; rw [List.getElem?_set_self hil]; rfl
    next h => rw [List.getElem?_set_ne (Ne.symm h)]
  have hq : qs.getD i P.z45 = q := by rw [List.getD_eq_getElem?_getD, hi]; rfl
  refine ⟨by simp, fun j hj => ?_, fun j hj => ?_, fun j hj => ?_, fun j hj => ?_⟩ <;> rw [hg j hj] <;> split
  all_goals first | rfl | exact Int.le_refl _ | exact Nat.le_refl _ | skip
  all_goals (rename_i h; subst h; first | (rw [hq]; done) | (rw [hq]; exact ha) | (rw [hq]; exact hb))
theorem wider_app {qs q1 : List S45} (W : Wider qs q1) (y : S45) : Wider qs (q1 ++ [y]) := by
  have hl := W.len
  have hg : ∀ j, j < qs.length → (q1 ++ [y]).getD j P.z45 = q1.getD j P.z45 := by
    intro j hj
    rw [List.getD_eq_getElem?_getD, List.getD_eq_getElem?_getD, List.getElem?_append_left (by omega)]
  refine ⟨by simp; omega, fun j hj => ?_, fun j hj => ?_, fun j hj => ?_, fun j hj => ?_⟩ <;> rw [hg j hj]
  · exact W.fr j hj
  · exact W.td j hj
  · exact W.wd j hj
  · exact W.wk j hj
theorem lit23_1 (y : S45) (W : World) : (Instr.buildSlice 23 1 #[(0, .agg #[.int .i64 y.f0, .int .i64 y.f1, .int .i64 y.f2, .int .i64 y.f3])]).run Try.prog W = .ok (.slice (some ⟨W.heap.size, 0, none⟩) 1 1) (W.alloc (.cells (([y] : List S45).flatMap four45).toArray 45 (0, 0))) := by
  have hu23 := Try.underlying23
  go_simp
  rfl
set_option maxRecDepth 100000 in
set_option maxHeartbeats 8000000 in

theorem more_law (ps : List Int) (qs : List S45) (A B : Option Addr) (c d : Nat) (w : World) (hP : Kd.C kI w A ps.length ps) (hQ : Kd.C k45 w B qs.length qs) (m1 x0 x1 x2 x3 x4 : Int) (y : S45) :
    Calls Try.prog 6 #[hv ps qs A B c d, .int .i64 m1, .agg #[.int .i64 x0, .int .i64 x1, .int .i64 x2, .int .i64 x3, .int .i64 x4, .int .i64 y.f0, .int .i64 y.f1, .int .i64 y.f2, .int .i64 y.f3]] w fun e w' => e = .returned (.bool true) ∧ Below w.heap.size w w' := by
  have hu3 := Try.underlying3
  have hu4 := Try.underlying4
  have hu22 := Try.underlying22
  have hu23 := Try.underlying23
  have hu25 := Try.underlying25
  have hu45 := Try.underlying45
  have hu51 := Try.underlying51
  obtain ⟨z3, o3⟩ := info_some info3s (by decide)
  obtain ⟨z22, o22⟩ := info_some info22s (by decide)
  obtain ⟨z23, o23⟩ := info_some info23s (by decide)
  obtain ⟨z25, o25⟩ := info_some info25s (by decide)
  obtain ⟨z45, o45⟩ := info_some info45s (by decide)
  refine E.enter (N := 220) Try.func6 rfl Try.ntmps6 (args := [hv ps qs A B c d, .int .i64 m1, .agg #[.int .i64 x0, .int .i64 x1, .int .i64 x2, .int .i64 x3, .int .i64 x4, .int .i64 y.f0, .int .i64 y.f1, .int .i64 y.f2, .int .i64 y.f3]]) (by simp) ?_
  have L := Below.refl w.heap.size w
  refine E.CG.seq ?_
  refine E.CG.list ?_
  refine E.GL.st rfl rfl rfl (E.ST.box rfl rfl fun g3 w3 e3 b3 l3 => ?_)
  have h3_L : w.heap.size ≤ g3 := by rw [e3]; exact L.size
  replace L := below_step L l3
  refine E.GL.st rfl rfl rfl (E.ST.box rfl rfl fun g5 w5 e5 b5 l5 => ?_)
  have h5_L : w.heap.size ≤ g5 := by rw [e5]; exact L.size
  have n5_b3 : g3 ≠ g5 := by have := blk_lt b3; omega
  replace b3 := blk_below b3 l5
  replace L := below_step L l5
  refine E.GL.run rfl rfl rfl (E.Runs.assign rfl rfl) ?_
  refine E.GL.done ?_
  refine E.QG.code ?_
  refine E.CG.seq ?_
  refine E.CG.seq ?_
  refine E.CG.list ?_
  refine E.GL.run rfl rfl rfl (E.Runs.loads (cs := [.slice A ps.length c, .slice B qs.length d]) rfl rfl hu25 rfl info25s (blk_cells b3)) ?_
  refine E.GL.run rfl rfl rfl (E.Runs.move rfl rfl) ?_
  by_cases h24 : ready ps qs m1
  · refine E.GL.st rfl rfl rfl (E.ST.call rfl ent27 (E.evc rfl (E.evc rfl E.evn)) ((ready_calls ps qs A B c d _ true (Kd.C_below hP L) (Kd.C_below hQ L) m1 (iff_of_true rfl h24)).mono ?_))
    rintro e w24 ⟨rfl, l24⟩
    refine ⟨_, rfl, ?_⟩
    replace b3 := blk_below b3 l24
    replace b5 := blk_below b5 l24
    replace L := below_step L l24
    refine E.GL.run rfl rfl rfl (E.Runs.not rfl rfl) ?_
    refine E.GL.run rfl rfl rfl (E.Runs.move rfl rfl) ?_
    refine E.GL.run rfl rfl rfl (E.Runs.fieldAddr rfl rfl hu51 rfl (by assumption) rfl) ?_
    refine E.GL.run rfl rfl rfl (E.Runs.load rfl rfl hu3 (by first | assumption | exact E.blkc (by assumption) rfl | exact pw_cell_below L (by assumption))) ?_
    refine E.GL.cmp rfl rfl rfl (fun _ h => (E.Runs.lss rfl rfl rfl h)) (fun h29 => ?_) (fun h29 => ?_)
    · refine E.GL.run rfl rfl rfl (E.Runs.pick_f rfl rfl rfl) ?_
      refine E.GL.run rfl rfl rfl (E.Runs.move rfl rfl) ?_
      refine E.GL.skip rfl rfl rfl ?_
      refine E.GL.skip rfl rfl rfl ?_
      refine E.GL.skip rfl rfl rfl ?_
      refine E.GL.run rfl rfl rfl (E.Runs.pick_t rfl rfl rfl) ?_
      refine E.GL.run rfl rfl rfl (E.Runs.move rfl rfl) ?_
      refine E.GL.skip rfl rfl rfl ?_
      refine E.GL.skip rfl rfl rfl ?_
      refine E.GL.skip rfl rfl rfl ?_
      refine E.GL.run rfl rfl rfl (E.Runs.pick_t rfl rfl rfl) ?_
      refine E.GL.run rfl rfl rfl (E.Runs.move rfl rfl) ?_
      refine E.GL.skip rfl rfl rfl ?_
      refine E.GL.skip rfl rfl rfl ?_
      refine E.GL.skip rfl rfl rfl ?_
      refine E.GL.run rfl rfl rfl (E.Runs.pick_t rfl rfl rfl) ?_
      refine E.GL.run rfl rfl rfl (E.Runs.move rfl rfl) ?_
      refine E.GL.skip rfl rfl rfl ?_
      refine E.GL.skip rfl rfl rfl ?_
      refine E.GL.skip rfl rfl rfl ?_
      refine E.GL.run rfl rfl rfl (E.Runs.pick_t rfl rfl rfl) ?_
      refine E.GL.run rfl rfl rfl (E.Runs.move rfl rfl) ?_
      refine E.GL.skip rfl rfl rfl ?_
      refine E.GL.skip rfl rfl rfl ?_
      refine E.GL.skip rfl rfl rfl ?_
      refine E.GL.run rfl rfl rfl (E.Runs.pick_t rfl rfl rfl) ?_
      refine E.GL.done ?_
      refine E.QG.code ?_
      refine E.CG.cond_t rfl ?_
      refine E.CG.seq ?_
      refine E.CG.list ?_
      refine E.GL.st rfl rfl rfl (E.ST.call rfl ent12 E.evn ((works_calls _).mono ?_))
      rintro e w56 ⟨rfl, l56⟩
      refine ⟨_, rfl, ?_⟩
      replace b3 := blk_below b3 l56
      replace b5 := blk_below b5 l56
      replace L := below_step L l56
      refine E.GL.run rfl rfl rfl (E.Runs.assign rfl rfl) ?_
      refine E.GL.done ?_
      refine E.QG.code ?_
      refine E.CG.ret ?_
      refine E.QG.pass_ret ?_
      exact E.QG.result rfl rfl ⟨rfl, L⟩
    · refine E.GL.run rfl rfl rfl (E.Runs.pick_f rfl rfl rfl) ?_
      refine E.GL.run rfl rfl rfl (E.Runs.move rfl rfl) ?_
      refine E.GL.run rfl rfl rfl (E.Runs.fieldAddr rfl rfl hu51 rfl (by assumption) rfl) ?_
      refine E.GL.run rfl rfl rfl (E.Runs.load rfl rfl hu3 (by first | assumption | exact E.blkc (by assumption) rfl | exact pw_cell_below L (by assumption))) ?_
      refine E.GL.cmp rfl rfl rfl (fun _ h => (E.Runs.gtr rfl rfl rfl h)) (fun h34 => ?_) (fun h34 => ?_)
      · refine E.GL.run rfl rfl rfl (E.Runs.pick_f rfl rfl rfl) ?_
        refine E.GL.run rfl rfl rfl (E.Runs.move rfl rfl) ?_
        refine E.GL.skip rfl rfl rfl ?_
        refine E.GL.skip rfl rfl rfl ?_
        refine E.GL.skip rfl rfl rfl ?_
        refine E.GL.run rfl rfl rfl (E.Runs.pick_t rfl rfl rfl) ?_
        refine E.GL.run rfl rfl rfl (E.Runs.move rfl rfl) ?_
        refine E.GL.skip rfl rfl rfl ?_
        refine E.GL.skip rfl rfl rfl ?_
        refine E.GL.skip rfl rfl rfl ?_
        refine E.GL.run rfl rfl rfl (E.Runs.pick_t rfl rfl rfl) ?_
        refine E.GL.run rfl rfl rfl (E.Runs.move rfl rfl) ?_
        refine E.GL.skip rfl rfl rfl ?_
        refine E.GL.skip rfl rfl rfl ?_
        refine E.GL.skip rfl rfl rfl ?_
        refine E.GL.run rfl rfl rfl (E.Runs.pick_t rfl rfl rfl) ?_
        refine E.GL.run rfl rfl rfl (E.Runs.move rfl rfl) ?_
        refine E.GL.skip rfl rfl rfl ?_
        refine E.GL.skip rfl rfl rfl ?_
        refine E.GL.skip rfl rfl rfl ?_
        refine E.GL.run rfl rfl rfl (E.Runs.pick_t rfl rfl rfl) ?_
        refine E.GL.done ?_
        refine E.QG.code ?_
        refine E.CG.cond_t rfl ?_
        refine E.CG.seq ?_
        refine E.CG.list ?_
        refine E.GL.st rfl rfl rfl (E.ST.call rfl ent12 E.evn ((works_calls _).mono ?_))
        rintro e w56 ⟨rfl, l56⟩
        refine ⟨_, rfl, ?_⟩
        replace b3 := blk_below b3 l56
        replace b5 := blk_below b5 l56
        replace L := below_step L l56
        refine E.GL.run rfl rfl rfl (E.Runs.assign rfl rfl) ?_
        refine E.GL.done ?_
        refine E.QG.code ?_
        refine E.CG.ret ?_
        refine E.QG.pass_ret ?_
        exact E.QG.result rfl rfl ⟨rfl, L⟩
      · refine E.GL.run rfl rfl rfl (E.Runs.pick_f rfl rfl rfl) ?_
        refine E.GL.run rfl rfl rfl (E.Runs.move rfl rfl) ?_
        refine E.GL.run rfl rfl rfl (E.Runs.fieldAddr rfl rfl hu51 rfl (by assumption) rfl) ?_
        refine E.GL.run rfl rfl rfl (E.Runs.load rfl rfl hu3 (by first | assumption | exact E.blkc (by assumption) rfl | exact pw_cell_below L (by assumption))) ?_
        refine E.GL.cmp rfl rfl rfl (fun _ h => (E.Runs.lss rfl rfl rfl h)) (fun h39 => ?_) (fun h39 => ?_)
        · refine E.GL.run rfl rfl rfl (E.Runs.pick_f rfl rfl rfl) ?_
          refine E.GL.run rfl rfl rfl (E.Runs.move rfl rfl) ?_
          refine E.GL.skip rfl rfl rfl ?_
          refine E.GL.skip rfl rfl rfl ?_
          refine E.GL.skip rfl rfl rfl ?_
          refine E.GL.run rfl rfl rfl (E.Runs.pick_t rfl rfl rfl) ?_
          refine E.GL.run rfl rfl rfl (E.Runs.move rfl rfl) ?_
          refine E.GL.skip rfl rfl rfl ?_
          refine E.GL.skip rfl rfl rfl ?_
          refine E.GL.skip rfl rfl rfl ?_
          refine E.GL.run rfl rfl rfl (E.Runs.pick_t rfl rfl rfl) ?_
          refine E.GL.run rfl rfl rfl (E.Runs.move rfl rfl) ?_
          refine E.GL.skip rfl rfl rfl ?_
          refine E.GL.skip rfl rfl rfl ?_
          refine E.GL.skip rfl rfl rfl ?_
          refine E.GL.run rfl rfl rfl (E.Runs.pick_t rfl rfl rfl) ?_
          refine E.GL.done ?_
          refine E.QG.code ?_
          refine E.CG.cond_t rfl ?_
          refine E.CG.seq ?_
          refine E.CG.list ?_
          refine E.GL.st rfl rfl rfl (E.ST.call rfl ent12 E.evn ((works_calls _).mono ?_))
          rintro e w56 ⟨rfl, l56⟩
          refine ⟨_, rfl, ?_⟩
          replace b3 := blk_below b3 l56
          replace b5 := blk_below b5 l56
          replace L := below_step L l56
          refine E.GL.run rfl rfl rfl (E.Runs.assign rfl rfl) ?_
          refine E.GL.done ?_
          refine E.QG.code ?_
          refine E.CG.ret ?_
          refine E.QG.pass_ret ?_
          exact E.QG.result rfl rfl ⟨rfl, L⟩
        · refine E.GL.run rfl rfl rfl (E.Runs.pick_f rfl rfl rfl) ?_
          refine E.GL.run rfl rfl rfl (E.Runs.move rfl rfl) ?_
          refine E.GL.run rfl rfl rfl (E.Runs.fieldAddr rfl rfl hu51 rfl (by assumption) rfl) ?_
          refine E.GL.run rfl rfl rfl (E.Runs.load rfl rfl hu3 (by first | assumption | exact E.blkc (by assumption) rfl | exact pw_cell_below L (by assumption))) ?_
          refine E.GL.cmp rfl rfl rfl (fun _ h => (E.Runs.gtr rfl rfl rfl h)) (fun h44 => ?_) (fun h44 => ?_)
          · refine E.GL.run rfl rfl rfl (E.Runs.pick_f rfl rfl rfl) ?_
            refine E.GL.run rfl rfl rfl (E.Runs.move rfl rfl) ?_
            refine E.GL.skip rfl rfl rfl ?_
            refine E.GL.skip rfl rfl rfl ?_
            refine E.GL.skip rfl rfl rfl ?_
            refine E.GL.run rfl rfl rfl (E.Runs.pick_t rfl rfl rfl) ?_
            refine E.GL.run rfl rfl rfl (E.Runs.move rfl rfl) ?_
            refine E.GL.skip rfl rfl rfl ?_
            refine E.GL.skip rfl rfl rfl ?_
            refine E.GL.skip rfl rfl rfl ?_
            refine E.GL.run rfl rfl rfl (E.Runs.pick_t rfl rfl rfl) ?_
            refine E.GL.done ?_
            refine E.QG.code ?_
            refine E.CG.cond_t rfl ?_
            refine E.CG.seq ?_
            refine E.CG.list ?_
            refine E.GL.st rfl rfl rfl (E.ST.call rfl ent12 E.evn ((works_calls _).mono ?_))
            rintro e w56 ⟨rfl, l56⟩
            refine ⟨_, rfl, ?_⟩
            replace b3 := blk_below b3 l56
            replace b5 := blk_below b5 l56
            replace L := below_step L l56
            refine E.GL.run rfl rfl rfl (E.Runs.assign rfl rfl) ?_
            refine E.GL.done ?_
            refine E.QG.code ?_
            refine E.CG.ret ?_
            refine E.QG.pass_ret ?_
            exact E.QG.result rfl rfl ⟨rfl, L⟩
          · refine E.GL.run rfl rfl rfl (E.Runs.pick_f rfl rfl rfl) ?_
            refine E.GL.run rfl rfl rfl (E.Runs.move rfl rfl) ?_
            refine E.GL.run rfl rfl rfl (E.Runs.fieldAddr rfl rfl hu51 rfl (by assumption) rfl) ?_
            refine E.GL.run rfl rfl rfl (E.Runs.load rfl rfl hu3 (by first | assumption | exact E.blkc (by assumption) rfl | exact pw_cell_below L (by assumption))) ?_
            refine E.GL.cmp rfl rfl rfl (fun _ h => (E.Runs.lss rfl rfl rfl h)) (fun h49 => ?_) (fun h49 => ?_)
            · refine E.GL.run rfl rfl rfl (E.Runs.pick_f rfl rfl rfl) ?_
              refine E.GL.run rfl rfl rfl (E.Runs.move rfl rfl) ?_
              refine E.GL.skip rfl rfl rfl ?_
              refine E.GL.skip rfl rfl rfl ?_
              refine E.GL.skip rfl rfl rfl ?_
              refine E.GL.run rfl rfl rfl (E.Runs.pick_t rfl rfl rfl) ?_
              refine E.GL.done ?_
              refine E.QG.code ?_
              refine E.CG.cond_t rfl ?_
              refine E.CG.seq ?_
              refine E.CG.list ?_
              refine E.GL.st rfl rfl rfl (E.ST.call rfl ent12 E.evn ((works_calls _).mono ?_))
              rintro e w56 ⟨rfl, l56⟩
              refine ⟨_, rfl, ?_⟩
              replace b3 := blk_below b3 l56
              replace b5 := blk_below b5 l56
              replace L := below_step L l56
              refine E.GL.run rfl rfl rfl (E.Runs.assign rfl rfl) ?_
              refine E.GL.done ?_
              refine E.QG.code ?_
              refine E.CG.ret ?_
              refine E.QG.pass_ret ?_
              exact E.QG.result rfl rfl ⟨rfl, L⟩
            · refine E.GL.run rfl rfl rfl (E.Runs.pick_f rfl rfl rfl) ?_
              refine E.GL.run rfl rfl rfl (E.Runs.move rfl rfl) ?_
              refine E.GL.run rfl rfl rfl (E.Runs.fieldAddr rfl rfl hu51 rfl (by assumption) rfl) ?_
              refine E.GL.run rfl rfl rfl (E.Runs.load rfl rfl hu3 (by first | assumption | exact E.blkc (by assumption) rfl | exact pw_cell_below L (by assumption))) ?_
              refine E.GL.cmp rfl rfl rfl (fun _ h => (E.Runs.gtr rfl rfl rfl h)) (fun h54 => ?_) (fun h54 => ?_)
              · refine E.GL.run rfl rfl rfl (E.Runs.pick_f rfl rfl rfl) ?_
                refine E.GL.done ?_
                refine E.QG.code ?_
                refine E.CG.cond_t rfl ?_
                refine E.CG.seq ?_
                refine E.CG.list ?_
                refine E.GL.st rfl rfl rfl (E.ST.call rfl ent12 E.evn ((works_calls _).mono ?_))
                rintro e w56 ⟨rfl, l56⟩
                refine ⟨_, rfl, ?_⟩
                replace b3 := blk_below b3 l56
                replace b5 := blk_below b5 l56
                replace L := below_step L l56
                refine E.GL.run rfl rfl rfl (E.Runs.assign rfl rfl) ?_
                refine E.GL.done ?_
                refine E.QG.code ?_
                refine E.CG.ret ?_
                refine E.QG.pass_ret ?_
                exact E.QG.result rfl rfl ⟨rfl, L⟩
              · refine E.GL.run rfl rfl rfl (E.Runs.pick_f rfl rfl rfl) ?_
                refine E.GL.done ?_
                refine E.QG.code ?_
                refine E.CG.cond_f rfl ?_
                refine E.CG.skip ?_
                refine E.QG.code ?_
                refine E.CG.seq ?_
                obtain ⟨hfar, hlate, hH, hm0, hm1⟩ := h24
                obtain ⟨hb1, hb2⟩ := not_far hfar
                obtain ⟨T, rfl⟩ : ∃ T : Nat, m1 = T := ⟨(m1).toNat, by omega⟩
                have hT : T ≤ 10 := by unfold late at hlate; omega
                have hE0 : chkE ps qs T = 0 := chkE_ok.mpr ⟨hH, by unfold inR; omega⟩
                obtain ⟨T2, hT2⟩ : ∃ T2 : Nat, mn 10 ((T : Int) + x0) = T2 := ⟨_, (Int.toNat_of_nonneg (by unfold mn; split <;> omega)).symm⟩
                have hTT : T ≤ T2 ∧ T2 ≤ 10 := by unfold mn at hT2; split at hT2 <;> omega
                have hE2 : chkE ps qs T2 = 0 := chkE_ok.mpr ⟨hH, by unfold inR; omega⟩
                refine E.CG.list ?_
                refine E.GL.run rfl rfl rfl (E.Runs.loads (cs := [.slice A ps.length c, .slice B qs.length d]) rfl rfl hu25 rfl info25s (blk_cells b3)) ?_
                refine E.GL.run rfl rfl rfl (E.Runs.move rfl rfl) ?_
                refine E.GL.st rfl rfl rfl (E.ST.call rfl ent28 (E.evc rfl (E.evc rfl E.evn)) ((most_calls ps qs A B c d _ (Kd.C_below hP L) (Kd.C_below hQ L) (by omega) (by omega) T).mono ?_))
                rintro e w60 ⟨N60, rfl, hM60, l60⟩
                refine ⟨_, rfl, ?_⟩
                replace b3 := blk_below b3 l60
                replace b5 := blk_below b5 l60
                replace L := below_step L l60
                rw [hE0]
                have hI60 := hM60.1 hE0
                rw [Int.toNat_natCast] at hI60
                have hn0 := most_nonneg hH hI60
                have hn1 := most_all hH hI60
                have hn2 := allP_le hH
                refine E.GL.run rfl rfl rfl (E.Runs.move rfl rfl) ?_
                refine E.GL.run rfl rfl rfl (E.Runs.extract rfl rfl rfl) ?_
                refine E.GL.run rfl rfl rfl (E.Runs.extract rfl rfl rfl) ?_
                refine E.GL.run rfl rfl rfl (E.Runs.assign rfl rfl) ?_
                refine E.GL.run rfl rfl rfl (E.Runs.assign rfl rfl) ?_
                refine E.GL.done ?_
                refine E.QG.code ?_
                refine E.CG.seq ?_
                refine E.CG.seq ?_
                refine E.CG.list ?_
                refine E.GL.run rfl rfl rfl (E.Runs.move rfl rfl) ?_
                refine E.GL.run rfl rfl rfl (E.Runs.neq rfl rfl rfl (E.ne_f rfl)) ?_
                refine E.GL.done ?_
                refine E.QG.code ?_
                refine E.CG.cond_f rfl ?_
                refine E.CG.skip ?_
                refine E.QG.code ?_
                refine E.CG.seq ?_
                refine E.CG.seq ?_
                refine E.CG.list ?_
                refine E.GL.run rfl rfl rfl (E.Runs.loads (cs := [.slice A ps.length c, .slice B qs.length d]) rfl rfl hu25 rfl info25s (blk_cells b3)) ?_
                refine E.GL.run rfl rfl rfl (E.Runs.move rfl rfl) ?_
                refine E.GL.run rfl rfl rfl (E.Runs.fieldAddr rfl rfl hu51 rfl (by assumption) rfl) ?_
                refine E.GL.run rfl rfl rfl (E.Runs.load rfl rfl hu3 (by first | assumption | exact E.blkc (by assumption) rfl | exact pw_cell_below L (by assumption))) ?_
                refine E.GL.run rfl rfl rfl (E.Runs.add rfl rfl rfl (IntWalk.i64_in _ (by omega))) ?_
                refine E.GL.run rfl rfl rfl (E.Runs.min rfl rfl rfl hT2) ?_
                refine E.GL.st rfl rfl rfl (E.ST.call rfl ent28 (E.evc rfl (E.evc rfl E.evn)) ((most_calls ps qs A B c d _ (Kd.C_below hP L) (Kd.C_below hQ L) (by omega) (by omega) T2).mono ?_))
                rintro e w72 ⟨N72, rfl, hM72, l72⟩
                refine ⟨_, rfl, ?_⟩
                replace b3 := blk_below b3 l72
                replace b5 := blk_below b5 l72
                replace L := below_step L l72
                rw [hE2]
                have hI72 := hM72.1 hE2
                rw [Int.toNat_natCast] at hI72
                have hle72 := most_later hH hTT.1 hI60 hI72
                refine E.GL.run rfl rfl rfl (E.Runs.move rfl rfl) ?_
                refine E.GL.run rfl rfl rfl (E.Runs.extract rfl rfl rfl) ?_
                refine E.GL.run rfl rfl rfl (E.Runs.extract rfl rfl rfl) ?_
                refine E.GL.run rfl rfl rfl (E.Runs.assign rfl rfl) ?_
                refine E.GL.run rfl rfl rfl (E.Runs.assign rfl rfl) ?_
                refine E.GL.done ?_
                refine E.QG.code ?_
                refine E.CG.seq ?_
                refine E.CG.list ?_
                refine E.GL.run rfl rfl rfl (E.Runs.move rfl rfl) ?_
                refine E.GL.run rfl rfl rfl (E.Runs.neq rfl rfl rfl (E.ne_f rfl)) ?_
                refine E.GL.run rfl rfl rfl (E.Runs.move rfl rfl) ?_
                refine E.GL.run rfl rfl rfl (E.Runs.move rfl rfl) ?_
                refine E.GL.run rfl rfl rfl (E.Runs.move rfl rfl) ?_
                refine E.GL.run rfl rfl rfl (E.Runs.lss rfl rfl rfl (decide_eq_false (by omega))) ?_
                refine E.GL.run rfl rfl rfl (E.Runs.pick_f rfl rfl rfl) ?_
                refine E.GL.done ?_
                refine E.QG.code ?_
                refine E.CG.cond_f rfl ?_
                refine E.CG.skip ?_
                refine E.QG.code ?_
                refine E.CG.seq ?_
                refine E.CG.list ?_
                refine E.GL.run rfl rfl rfl (E.Runs.loads (cs := [.slice A ps.length c, .slice B qs.length d]) rfl rfl hu25 rfl info25s (blk_cells b3)) ?_
                have hs83 := L.size
                refine E.GL.st rfl rfl rfl (E.ST.call rfl ent13 (E.evc rfl E.evn) ((copy_calls ps qs A B c d _ (Kd.C_below hP L) (Kd.C_below hQ L) (by omega) (by omega)).mono ?_))
                rintro e w83 ⟨A3, B3, c3, d3, rfl, RP, RQ, l83⟩
                refine ⟨_, rfl, ?_⟩
                replace b3 := blk_below b3 l83
                replace b5 := blk_below b5 l83
                replace L := below_step L l83
                replace RP := Kd.R_lower RP hs83
                replace RQ := Kd.R_lower RQ hs83
                refine E.GL.st rfl rfl rfl (E.ST.alloc rfl info25z fun g11 w11 e11 b11 l11 => ?_)
                have h11_L : w.heap.size ≤ g11 := by rw [e11]; exact L.size
                have n11_b3 : g3 ≠ g11 := by have := blk_lt b3; omega
                have n11_b5 : g5 ≠ g11 := by have := blk_lt b5; omega
                have n11_RP : some g11 ≠ ((Value.slice A3 ps.length c3)).ownBlock := fun h => by have := Kd.R_lt RP _ h.symm; omega
                have n11_RQ : some g11 ≠ ((Value.slice B3 qs.length d3)).ownBlock := fun h => by have := Kd.R_lt RQ _ h.symm; omega
                replace b3 := blk_below b3 l11
                replace b5 := blk_below b5 l11
                replace RP := Kd.R_below RP l11
                replace RQ := Kd.R_below RQ l11
                replace L := below_step L l11
                refine E.GL.store_whole rfl rfl rfl rfl rfl b11 rfl info25s (slices_one _ _ _ _ _ _) fun wS9_3 c11 lS9_3 => ?_
                replace b3 := blk_grown b3 lS9_3 (E.nes (by first | assumption | exact Ne.symm (by assumption)))
                replace b5 := blk_grown b5 lS9_3 (E.nes (by first | assumption | exact Ne.symm (by assumption)))
                replace RP := Kd.R_grown1 RP rfl lS9_3 (by first | assumption | exact Kd.R_ne RP b11 (by decide))
                replace RQ := Kd.R_grown1 RQ rfl lS9_3 (by first | assumption | exact Kd.R_ne RQ b11 (by decide))
                replace L := E.below_own L h11_L lS9_3
                replace b11 := c11
                clear c11
                refine E.GL.done ?_
                refine E.QG.code ?_
                refine E.CG.seq ?_
                refine E.CG.cut1 (fun (q1 : List S45) => [(1, .int .i64 (T : Int)), (3, .pointer (some ⟨g3, 0, none⟩)), (5, .pointer (some ⟨g5, 0, none⟩)), (7, .int .i64 N60), (11, .pointer (some ⟨g11, 0, none⟩))]) (fun q1 w' => Wider qs q1 ∧ q1.length = qs.length ∧ w'.heap[g3]? = some (.cells #[.slice A ps.length c, .slice B qs.length d] 25 (0, 0)) ∧ w'.heap[g5]? = some (.cells #[.int .i64 x0, .int .i64 x1, .int .i64 x2, .int .i64 x3, .int .i64 x4, .int .i64 y.f0, .int .i64 y.f1, .int .i64 y.f2, .int .i64 y.f3] 51 (0, 0)) ∧ w'.heap[g11]? = some (.cells #[.slice A3 ps.length c3, .slice B3 q1.length d3] 25 (0, 0)) ∧ Kd.R kI 3 w' w.heap.size (fun _ => True) (.slice A3 ps.length c3) ps ∧ Kd.R k45 45 w' w.heap.size (fun _ => True) (.slice B3 q1.length d3) q1 ∧ Below w.heap.size w w') ?_ ?_
                · refine E.CG.seq ?_
                  refine E.CG.list ?_
                  refine E.GL.run rfl rfl rfl (E.Runs.fieldAddr rfl rfl hu51 rfl (by assumption) rfl) ?_
                  refine E.GL.run rfl rfl rfl (E.Runs.load rfl rfl hu3 (by first | assumption | exact E.blkc (by assumption) rfl | exact pw_cell_below L (by assumption))) ?_
                  refine E.GL.cmp rfl rfl rfl (fun _ h => (E.Runs.geq rfl rfl rfl h)) (fun h86 => ?_) (fun h86 => ?_)
                  · refine E.GL.run rfl rfl rfl (E.Runs.move rfl rfl) ?_
                    refine E.GL.run rfl rfl rfl (E.Runs.fieldAddr rfl rfl hu51 rfl (by assumption) rfl) ?_
                    refine E.GL.run rfl rfl rfl (E.Runs.load rfl rfl hu3 (by first | assumption | exact E.blkc (by assumption) rfl | exact pw_cell_below L (by assumption))) ?_
                    refine E.GL.run rfl rfl rfl (E.Runs.fieldAddr rfl rfl hu25 rfl (by assumption) rfl) ?_
                    refine E.GL.run rfl rfl rfl (E.Runs.load1 rfl rfl hu23 rfl (by first | assumption | exact E.blkc (by assumption) rfl | exact pw_cell_below L (by assumption))) ?_
                    refine E.GL.run rfl rfl rfl (E.Runs.len rfl rfl hu23) ?_
                    refine E.GL.cmp rfl rfl rfl (fun _ h => (E.Runs.lss rfl rfl rfl h)) (fun h93 => ?_) (fun h93 => ?_)
                    · obtain ⟨i, rfl⟩ : ∃ i : Nat, x1 = i := ⟨x1.toNat, by omega⟩
                      have hil : i < qs.length := by omega
                      obtain ⟨q, hq⟩ : ∃ q, qs[i]? = some q := ⟨_, List.getElem?_eq_getElem hil⟩
                      obtain ⟨aQ, eQ, cQ⟩ := pass_at (Kd.R_reads' RQ).2.2 hq
                      obtain ⟨_, _, _, _, _, hx0, hx1, hx2, hx3⟩ := hH.q q (List.mem_of_getElem? hq)
                      have hWq : Wider qs (qs.set i ⟨q.f0, q.f1, mn 20 (q.f2 + x2), mx 1 (q.f3 - x3)⟩) := wider_set hq (by unfold mn; split <;> omega) (by unfold mx; split <;> omega)
                      refine E.GL.run rfl rfl rfl (E.Runs.pick_t rfl rfl rfl) ?_
                      refine E.GL.done ?_
                      refine E.QG.code ?_
                      refine E.CG.cond_t rfl ?_
                      refine E.CG.seq ?_
                      refine E.CG.list ?_
                      refine E.GL.run rfl rfl rfl (E.Runs.fieldAddr rfl rfl hu25 rfl (by assumption) rfl) ?_
                      refine E.GL.run rfl rfl rfl (E.Runs.load1 rfl rfl hu23 rfl (by first | assumption | exact E.blkc (by assumption) rfl | exact pw_cell_below L (by assumption))) ?_
                      refine E.GL.run rfl rfl rfl (E.Runs.fieldAddr rfl rfl hu51 rfl (by assumption) rfl) ?_
                      refine E.GL.run rfl rfl rfl (E.Runs.load rfl rfl hu3 (by first | assumption | exact E.blkc (by assumption) rfl | exact pw_cell_below L (by assumption))) ?_
                      refine E.GL.run rfl rfl rfl (E.Runs.indexAddrA (i := i) rfl rfl rfl hu23 z45 o45 (by omega) eQ rfl) ?_
                      refine E.GL.run rfl rfl rfl (E.Runs.loads (cs := [.int .i64 q.f0, .int .i64 q.f1, .int .i64 q.f2, .int .i64 q.f3]) rfl rfl hu45 rfl info45s cQ) ?_
                      refine E.GL.st rfl rfl rfl (E.ST.alloc rfl info45z fun g12 w12 e12 b12 l12 => ?_)
                      have h12_L : w.heap.size ≤ g12 := by rw [e12]; exact L.size
                      have n12_b3 : g3 ≠ g12 := by have := blk_lt b3; omega
                      have n12_b5 : g5 ≠ g12 := by have := blk_lt b5; omega
                      have n12_b11 : g11 ≠ g12 := by have := blk_lt b11; omega
                      have n12_RP : some g12 ≠ ((Value.slice A3 ps.length c3)).ownBlock := fun h => by have := Kd.R_lt RP _ h.symm; omega
                      have n12_RQ : some g12 ≠ ((Value.slice B3 qs.length d3)).ownBlock := fun h => by have := Kd.R_lt RQ _ h.symm; omega
                      replace b3 := blk_below b3 l12
                      replace b5 := blk_below b5 l12
                      replace b11 := blk_below b11 l12
                      replace RP := Kd.R_below RP l12
                      replace RQ := Kd.R_below RQ l12
                      replace L := below_step L l12
                      refine E.GL.store_whole rfl rfl rfl rfl rfl b12 rfl info45s (four_one _ _ _ _) fun wS11_7 c12 lS11_7 => ?_
                      replace b3 := blk_grown b3 lS11_7 (E.nes (by first | assumption | exact Ne.symm (by assumption)))
                      replace b5 := blk_grown b5 lS11_7 (E.nes (by first | assumption | exact Ne.symm (by assumption)))
                      replace b11 := blk_grown b11 lS11_7 (E.nes (by first | assumption | exact Ne.symm (by assumption)))
                      replace RP := Kd.R_grown1 RP rfl lS11_7 (by first | assumption | exact Kd.R_ne RP b12 (by decide))
                      replace RQ := Kd.R_grown1 RQ rfl lS11_7 (by first | assumption | exact Kd.R_ne RQ b12 (by decide))
                      replace L := E.below_own L h12_L lS11_7
                      replace b12 := c12
                      clear c12
                      refine E.GL.done ?_
                      refine E.QG.code ?_
                      refine E.CG.seq ?_
                      refine E.CG.heldJ 13 (fun v W => v.grownBy W (none)) (fun v W => v.grownBy W (some g12)) (by kernel_rfl) (by kernel_rfl) (fun v => World.grownBy.refl _ _) fun v12 lD => ?_
                      replace b3 := blk_below b3 lD
                      replace b5 := blk_below b5 lD
                      replace b11 := blk_below b11 lD
                      replace b12 := blk_below b12 lD
                      replace RP := Kd.R_below RP lD
                      replace RQ := Kd.R_below RQ lD
                      replace L := below_step L lD
                      have lD12 := lD
                      clear lD
                      have s_b3 := b3
                      have s_b5 := b5
                      have s_b11 := b11
                      have s_b12 := b12
                      have s_L := L
                      refine E.GJ.take1 (i := 0) rfl (by kernel_rfl) (by kernel_rfl) (by kernel_rfl) (by kernel_rfl) rfl (by kernel_rfl) (by kernel_rfl) (by intro c a d v w h; first | (cases d <;> exact h) | exact nomatch (show _ ∧ _ from h).1) rfl rfl rfl (fun w' hS => (E.Runs.fieldAddr rfl rfl hu45 rfl (by assumption) rfl)) ?_
                      refine E.GJ.take1 (i := 1) rfl (by kernel_rfl) (by kernel_rfl) (by kernel_rfl) (by kernel_rfl) rfl (by kernel_rfl) (by kernel_rfl) (by intro c a d v w h; first | (cases d <;> exact h) | exact nomatch (show _ ∧ _ from h).1) rfl rfl rfl (fun w' hS => (E.Runs.load rfl rfl hu3 (by first | exact E.keeps hS (E.blkc (by assumption) rfl) (by first | exact E.nen | exact E.nes (by assumption) | exact E.nes (Ne.symm (by assumption))) | exact pw_cell_below (below_step s_L (E.belowG hS)) (by assumption)))) ?_
                      refine E.GJ.take1 (i := 2) rfl (by kernel_rfl) (by kernel_rfl) (by kernel_rfl) (by kernel_rfl) rfl (by kernel_rfl) (by kernel_rfl) (by intro c a d v w h; first | (cases d <;> exact h) | exact nomatch (show _ ∧ _ from h).1) rfl rfl rfl (fun w' hS => (E.Runs.fieldAddr rfl rfl hu51 rfl (by assumption) rfl)) ?_
                      refine E.GJ.take1 (i := 3) rfl (by kernel_rfl) (by kernel_rfl) (by kernel_rfl) (by kernel_rfl) rfl (by kernel_rfl) (by kernel_rfl) (by intro c a d v w h; first | (cases d <;> exact h) | exact nomatch (show _ ∧ _ from h).1) rfl rfl rfl (fun w' hS => (E.Runs.load rfl rfl hu3 (by first | exact E.keeps hS (E.blkc (by assumption) rfl) (by first | exact E.nen | exact E.nes (by assumption) | exact E.nes (Ne.symm (by assumption))) | exact pw_cell_below (below_step s_L (E.belowG hS)) (by assumption)))) ?_
                      refine E.GJ.take1 (i := 4) rfl (by kernel_rfl) (by kernel_rfl) (by kernel_rfl) (by kernel_rfl) rfl (by kernel_rfl) (by kernel_rfl) (by intro c a d v w h; first | (cases d <;> exact h) | exact nomatch (show _ ∧ _ from h).1) rfl rfl rfl (fun w' hS => (E.Runs.add rfl rfl rfl (IntWalk.i64_in _ (by omega)))) ?_
                      refine E.GJ.take1 (i := 5) rfl (by kernel_rfl) (by kernel_rfl) (by kernel_rfl) (by kernel_rfl) rfl (by kernel_rfl) (by kernel_rfl) (by intro c a d v w h; first | (cases d <;> exact h) | exact nomatch (show _ ∧ _ from h).1) rfl rfl rfl (fun w' hS => (E.Runs.min rfl rfl rfl rfl)) ?_
                      refine E.GJ.take1 (i := 6) rfl (by kernel_rfl) (by kernel_rfl) (by kernel_rfl) (by kernel_rfl) rfl (by kernel_rfl) (by kernel_rfl) (by intro c a d v w h; first | (cases d <;> exact h) | exact nomatch (show _ ∧ _ from h).1) rfl rfl rfl (fun w' hS => (E.Runs.fieldAddr rfl rfl hu45 rfl (by assumption) rfl)) ?_
                      refine E.GJ.take1 (i := 7) rfl (by kernel_rfl) (by kernel_rfl) (by kernel_rfl) (by kernel_rfl) rfl (by kernel_rfl) (by kernel_rfl) (by intro c a d v w h; first | (cases d <;> exact h) | exact nomatch (show _ ∧ _ from h).1) rfl rfl rfl (fun w' hS => (E.Runs.load rfl rfl hu3 (by first | exact E.keeps hS (E.blkc (by assumption) rfl) (by first | exact E.nen | exact E.nes (by assumption) | exact E.nes (Ne.symm (by assumption))) | exact pw_cell_below (below_step s_L (E.belowG hS)) (by assumption)))) ?_
                      refine E.GJ.take2 (i := 8) rfl (by kernel_rfl) (by kernel_rfl) (by kernel_rfl) (by kernel_rfl) (by intro c a d v w h; first | (cases d <;> exact h) | exact nomatch (show _ ∧ _ from h).1) rfl rfl rfl (fun w' hS => (E.Runs.fieldAddr rfl rfl hu51 rfl (by assumption) rfl)) ?_
                      refine E.GJ.take2 (i := 9) rfl (by kernel_rfl) (by kernel_rfl) (by kernel_rfl) (by kernel_rfl) (by intro c a d v w h; first | (cases d <;> exact h) | exact nomatch (show _ ∧ _ from h).1) rfl rfl rfl (fun w' hS => (E.Runs.load rfl rfl hu3 (hS.elim (fun hS => E.keeps hS (E.blkc s_b5 rfl) E.nen) (fun hS => E.keeps hS (E.blkc s_b5 rfl) (by first | exact E.nes n12_b5 | exact E.nes (Ne.symm n12_b5)))))) ?_
                      refine E.GJ.take2 (i := 10) rfl (by kernel_rfl) (by kernel_rfl) (by kernel_rfl) (by kernel_rfl) (by intro c a d v w h; first | (cases d <;> exact h) | exact nomatch (show _ ∧ _ from h).1) rfl rfl rfl (fun w' hS => (E.Runs.sub rfl rfl rfl (IntWalk.i64_in _ (by omega)))) ?_
                      refine E.GJ.take2 (i := 11) rfl (by kernel_rfl) (by kernel_rfl) (by kernel_rfl) (by kernel_rfl) (by intro c a d v w h; first | (cases d <;> exact h) | exact nomatch (show _ ∧ _ from h).1) rfl rfl rfl (fun w' hS => (E.Runs.max rfl rfl rfl rfl)) ?_
                      refine E.GJ.take1 (i := 12) rfl (by kernel_rfl) (by kernel_rfl) (by kernel_rfl) (by kernel_rfl) rfl (by kernel_rfl) (by kernel_rfl) (by intro c a d v w h; first | (cases d <;> exact h) | exact nomatch (show _ ∧ _ from h).1) rfl rfl rfl (fun w' hS => (E.Runs.fieldAddr rfl rfl hu45 rfl (by assumption) rfl)) ?_
                      refine E.GJ.one (i := 13) (by kernel_rfl) (E.OJ.sn rfl rfl rfl (E.ST.store rfl (by assumption) (by assumption) rfl rfl b12 rfl rfl fun wS13 c12 lS13 => ⟨(E.SJ.behind (by kernel_rfl)).mpr lS13, ?_⟩))
                      replace b3 := blk_grown b3 lS13 (E.nes (by first | assumption | exact Ne.symm (by assumption)))
                      replace b5 := blk_grown b5 lS13 (E.nes (by first | assumption | exact Ne.symm (by assumption)))
                      replace b11 := blk_grown b11 lS13 (E.nes (by first | assumption | exact Ne.symm (by assumption)))
                      replace RP := Kd.R_grown1 RP rfl lS13 (by first | assumption | exact Kd.R_ne RP b12 (by decide))
                      replace RQ := Kd.R_grown1 RQ rfl lS13 (by first | assumption | exact Kd.R_ne RQ b12 (by decide))
                      replace L := E.below_own L h12_L lS13
                      replace b12 := c12
                      clear c12
                      have hk := lS13
                      refine E.GJ.one (i := 14) (by kernel_rfl) (E.OJ.st rfl rfl rfl rfl (E.ST.reads (E.Runs.fieldAddr rfl rfl hu45 rfl (by assumption) rfl) ⟨(E.SJ.behind (by kernel_rfl)).mpr hk, ?_⟩))
                      refine E.GJ.one (i := 15) (by kernel_rfl) (E.OJ.sn rfl rfl rfl (E.ST.store rfl (by assumption) (by assumption) rfl rfl b12 rfl rfl fun wS15 c12 lS15 => ⟨(E.SJ.behind (by kernel_rfl)).mpr (hk.trans lS15), ?_⟩))
                      replace b3 := blk_grown b3 lS15 (E.nes (by first | assumption | exact Ne.symm (by assumption)))
                      replace b5 := blk_grown b5 lS15 (E.nes (by first | assumption | exact Ne.symm (by assumption)))
                      replace b11 := blk_grown b11 lS15 (E.nes (by first | assumption | exact Ne.symm (by assumption)))
                      replace RP := Kd.R_grown1 RP rfl lS15 (by first | assumption | exact Kd.R_ne RP b12 (by decide))
                      replace RQ := Kd.R_grown1 RQ rfl lS15 (by first | assumption | exact Kd.R_ne RQ b12 (by decide))
                      replace L := E.below_own L h12_L lS15
                      replace b12 := c12
                      clear c12
                      refine E.GJ.done (by kernel_rfl) ?_
                      refine E.QG.code ?_
                      obtain ⟨gK, eK, hgK, tK, ⟨_, bK⟩, stK⟩ := row45_set RQ hil
                      refine E.CG.list ?_
                      refine E.GL.run rfl rfl rfl (E.Runs.fieldAddr rfl rfl hu25 rfl (by assumption) rfl) ?_
                      refine E.GL.run rfl rfl rfl (E.Runs.load1 rfl rfl hu23 rfl (by first | assumption | exact E.blkc (by assumption) rfl | exact pw_cell_below L (by assumption))) ?_
                      refine E.GL.run rfl rfl rfl (E.Runs.fieldAddr rfl rfl hu51 rfl (by assumption) rfl) ?_
                      refine E.GL.run rfl rfl rfl (E.Runs.load rfl rfl hu3 (by first | assumption | exact E.blkc (by assumption) rfl | exact pw_cell_below L (by assumption))) ?_
                      refine E.GL.run rfl rfl rfl (E.Runs.loads (cs := [.int .i64 q.f0, .int .i64 q.f1, .int .i64 (mn 20 (q.f2 + x2)), .int .i64 (mx 1 (q.f3 - x3))]) rfl rfl hu45 rfl info45s (blk_cells b12)) ?_
                      refine E.GL.run rfl rfl rfl (E.Runs.indexAddrA (i := i) rfl rfl rfl hu23 z45 o45 (by omega) eK (show _ = (⟨gK, i * 4, none⟩ : Addr) from by rw [Go.Addr.add_mid, Nat.zero_add])) ?_
                      refine E.GL.sn rfl rfl (E.ST.storeMid (cells := [.int .i64 q.f0, .int .i64 q.f1, .int .i64 (mn 20 (q.f2 + x2)), .int .i64 (mx 1 (q.f3 - x3))]) rfl rfl rfl tK info45s (four_one _ _ _ _) ?_)
                      obtain ⟨wK, hwK, RK, gK'⟩ := stK ⟨q.f0, q.f1, mn 20 (q.f2 + x2), mx 1 (q.f3 - x3)⟩
                      rw [← hwK]
                      replace b3 := blk_grown b3 gK' (E.nes (blk_ne b3 bK (by decide)))
                      replace b5 := blk_grown b5 gK' (E.nes (blk_ne b5 bK (by decide)))
                      replace b11 := blk_grown b11 gK' (E.nes (blk_ne b11 bK (by decide)))
                      replace RP := over_blk RP bK (by decide) rfl gK'
                      replace L := E.below_own L hgK gK'
                      clear RQ
                      clear b12
                      have hl1 : (qs.set i ⟨q.f0, q.f1, mn 20 (q.f2 + x2), mx 1 (q.f3 - x3)⟩).length = qs.length := List.length_set
                      replace RK := R_len hl1.symm RK
                      rw [← hl1] at b11
                      refine E.GL.done ?_
                      exact E.QG.meet1 (qs.set i ⟨q.f0, q.f1, mn 20 (q.f2 + x2), mx 1 (q.f3 - x3)⟩) (E.subc rfl (E.subc rfl (E.subc rfl (E.subc rfl (E.subc rfl (E.subn)))))) (by first | exact ⟨hWq, hl1, b3, b5, b11, RP, RK, L⟩ | exact ⟨wider_refl qs, rfl, b3, b5, b11, RP, RQ, L⟩ | fail)
                    · refine E.GL.run rfl rfl rfl (E.Runs.pick_t rfl rfl rfl) ?_
                      refine E.GL.done ?_
                      refine E.QG.code ?_
                      refine E.CG.cond_f rfl ?_
                      refine E.CG.skip ?_
                      exact E.QG.meet1 qs (E.subc rfl (E.subc rfl (E.subc rfl (E.subc rfl (E.subc rfl (E.subn)))))) (by first | exact ⟨hWq, hl1, b3, b5, b11, RP, RK, L⟩ | exact ⟨wider_refl qs, rfl, b3, b5, b11, RP, RQ, L⟩ | fail)
                  · refine E.GL.run rfl rfl rfl (E.Runs.move rfl rfl) ?_
                    refine E.GL.skip rfl rfl rfl ?_
                    refine E.GL.skip rfl rfl rfl ?_
                    refine E.GL.skip rfl rfl rfl ?_
                    refine E.GL.skip rfl rfl rfl ?_
                    refine E.GL.skip rfl rfl rfl ?_
                    refine E.GL.skip rfl rfl rfl ?_
                    refine E.GL.run rfl rfl rfl (E.Runs.pick_f rfl rfl rfl) ?_
                    refine E.GL.done ?_
                    refine E.QG.code ?_
                    refine E.CG.cond_f rfl ?_
                    refine E.CG.skip ?_
                    exact E.QG.meet1 qs (E.subc rfl (E.subc rfl (E.subc rfl (E.subc rfl (E.subc rfl (E.subn)))))) (by first | exact ⟨hWq, hl1, b3, b5, b11, RP, RK, L⟩ | exact ⟨wider_refl qs, rfl, b3, b5, b11, RP, RQ, L⟩ | fail)
                intro q1 w10
                rintro ⟨hW, hl1, b3, b5, b11, RP, RQ, L⟩
                refine E.QG.code ?_
                refine E.CG.seq ?_
                refine E.CG.cut1 (fun (q2 : List S45) => [(1, .int .i64 (T : Int)), (3, .pointer (some ⟨g3, 0, none⟩)), (5, .pointer (some ⟨g5, 0, none⟩)), (7, .int .i64 N60), (11, .pointer (some ⟨g11, 0, none⟩))]) (fun q2 w' => Wider qs q2 ∧ q2.length ≤ 41 ∧ w'.heap[g3]? = some (.cells #[.slice A ps.length c, .slice B qs.length d] 25 (0, 0)) ∧ w'.heap[g5]? = some (.cells #[.int .i64 x0, .int .i64 x1, .int .i64 x2, .int .i64 x3, .int .i64 x4, .int .i64 y.f0, .int .i64 y.f1, .int .i64 y.f2, .int .i64 y.f3] 51 (0, 0)) ∧ ∃ B2 d2, w'.heap[g11]? = some (.cells #[.slice A3 ps.length c3, .slice B2 q2.length d2] 25 (0, 0)) ∧ Kd.R kI 3 w' w.heap.size (fun _ => True) (.slice A3 ps.length c3) ps ∧ Kd.R k45 45 w' w.heap.size (fun _ => True) (.slice B2 q2.length d2) q2 ∧ Below w.heap.size w w') ?_ ?_
                · refine E.CG.seq ?_
                  refine E.CG.list ?_
                  refine E.GL.run rfl rfl rfl (E.Runs.fieldAddr rfl rfl hu25 rfl (by assumption) rfl) ?_
                  refine E.GL.run rfl rfl rfl (E.Runs.load1 rfl rfl hu23 rfl (by first | assumption | exact E.blkc (by assumption) rfl | exact pw_cell_below L (by assumption))) ?_
                  refine E.GL.run rfl rfl rfl (E.Runs.len rfl rfl hu23) ?_
                  refine E.GL.cmp rfl rfl rfl (fun _ h => (E.Runs.lss rfl rfl rfl h)) (fun h124 => ?_) (fun h124 => ?_)
                  · refine E.GL.done ?_
                    refine E.QG.code ?_
                    refine E.CG.cond_t rfl ?_
                    refine E.CG.list ?_
                    refine E.GL.run rfl rfl rfl (E.Runs.fieldAddr rfl rfl hu25 rfl (by assumption) rfl) ?_
                    refine E.GL.run rfl rfl rfl (E.Runs.load1 rfl rfl hu23 rfl (by first | assumption | exact E.blkc (by assumption) rfl | exact pw_cell_below L (by assumption))) ?_
                    refine E.GL.run rfl rfl rfl (E.Runs.fieldAddr rfl rfl hu51 rfl (by assumption) rfl) ?_
                    refine E.GL.run rfl rfl rfl (E.Runs.loads (cs := [.int .i64 y.f0, .int .i64 y.f1, .int .i64 y.f2, .int .i64 y.f3]) rfl rfl hu45 rfl info45s (mid51 b5)) ?_
                    refine E.GL.st rfl rfl rfl (E.ST.litB (cs := (([y] : List S45).flatMap four45).toArray) rfl (E.epc rfl E.epn) (lit23_1 y) fun g129 w129 e129 b129 l129 => ?_)
                    have h129_L : w.heap.size ≤ g129 := by rw [e129]; exact L.size
                    have n129_b3 : g3 ≠ g129 := by have := blk_lt b3; omega
                    have n129_b5 : g5 ≠ g129 := by have := blk_lt b5; omega
                    have n129_b11 : g11 ≠ g129 := by have := blk_lt b11; omega
                    have n129_RP : some g129 ≠ ((Value.slice A3 ps.length c3)).ownBlock := fun h => by have := Kd.R_lt RP _ h.symm; omega
                    have n129_RQ : some g129 ≠ ((Value.slice B3 q1.length d3)).ownBlock := fun h => by have := Kd.R_lt RQ _ h.symm; omega
                    replace b3 := blk_below b3 l129
                    replace b5 := blk_below b5 l129
                    replace b11 := blk_below b11 l129
                    replace RP := Kd.R_below RP l129
                    replace RQ := Kd.R_below RQ l129
                    replace L := below_step L l129
                    refine E.GL.st rfl rfl rfl (E.ST.appendRows k45 w.heap.size (w0 := w) (s := .tmp 126) (x := .tmp 129) rfl hu23 info45 rfl (by decide) (by decide) rfl rfl RQ (C_45 [y] (by simp) b129) made23 L L.size (by first | omega | (simp only [List.length_cons, List.length_nil]; omega)) fun u130 w130 r130 k130 gr130 => ?_)
                    replace b3 := blk_grown b3 gr130 (Kd.R_ne RQ b3 (by decide))
                    replace b5 := blk_grown b5 gr130 (Kd.R_ne RQ b5 (by decide))
                    replace b11 := blk_grown b11 gr130 (Kd.R_ne RQ b11 (by decide))
                    clear b129
                    replace RP := Kd.R_over' RP (Kd.R_typed RQ) (by decide) gr130
                    replace L := k130
                    obtain ⟨B4, d4, hv130⟩ := Kd.R_slice r130
                    subst hv130
                    clear k130 RQ gr130
                    refine E.GL.run rfl rfl rfl (E.Runs.fieldAddr rfl rfl hu25 rfl (by assumption) rfl) ?_
                    refine E.GL.sn rfl rfl (E.ST.storeSl (cs := [.slice A3 ps.length c3, .slice B3 q1.length d3]) rfl z23 o23 rfl rfl b11 rfl rfl fun wS157 c11 lS157 => ?_)
                    replace b3 := blk_grown b3 lS157 (E.nes (by first | assumption | exact Ne.symm (by assumption)))
                    replace b5 := blk_grown b5 lS157 (E.nes (by first | assumption | exact Ne.symm (by assumption)))
                    replace RP := Kd.R_grown1 RP rfl lS157 (by first | assumption | exact Kd.R_ne RP b11 (by decide))
                    replace r130 := Kd.R_grown1 r130 rfl lS157 (by first | assumption | exact Kd.R_ne r130 b11 (by decide))
                    replace L := E.below_own L h11_L lS157
                    replace b11 := c11
                    clear c11
                    refine E.GL.done ?_
                    exact E.QG.meet1 (q1 ++ [y]) (E.subc rfl (E.subc rfl (E.subc rfl (E.subc rfl (E.subc rfl (E.subn)))))) (by first | exact ⟨hW, by omega, b3, b5, B3, d3, b11, RP, RQ, L⟩ | exact ⟨wider_app hW y, by simp only [List.length_append, List.length_singleton]; omega, b3, b5, B4, d4, b11, RP, r130, L⟩ | fail)
                  · refine E.GL.done ?_
                    refine E.QG.code ?_
                    refine E.CG.cond_f rfl ?_
                    refine E.CG.skip ?_
                    exact E.QG.meet1 q1 (E.subc rfl (E.subc rfl (E.subc rfl (E.subc rfl (E.subc rfl (E.subn)))))) (by first | exact ⟨hW, by omega, b3, b5, B3, d3, b11, RP, RQ, L⟩ | exact ⟨wider_app hW y, by simp only [List.length_append, List.length_singleton]; omega, b3, b5, B4, d4, b11, RP, r130, L⟩ | fail)
                intro q2 w14
                rintro ⟨hW, hl2, b3, b5, B2, d2, b11, RP, RQ, L⟩
                refine E.QG.code ?_
                refine E.CG.seq ?_
                refine E.CG.cut1 (fun (_u : Unit) => [(1, .int .i64 (T : Int)), (3, .pointer (some ⟨g3, 0, none⟩)), (5, .pointer (some ⟨g5, 0, none⟩)), (7, .int .i64 N60)]) (fun _u w' => w'.heap[g3]? = some (.cells #[.slice A ps.length c, .slice B qs.length d] 25 (0, 0)) ∧ w'.heap[g5]? = some (.cells #[.int .i64 x0, .int .i64 x1, .int .i64 x2, .int .i64 x3, .int .i64 x4, .int .i64 y.f0, .int .i64 y.f1, .int .i64 y.f2, .int .i64 y.f3] 51 (0, 0)) ∧ Below w.heap.size w w') ?_ ?_
                · refine E.CG.seq ?_
                  refine E.CG.list ?_
                  refine E.GL.run rfl rfl rfl (E.Runs.loads (cs := [.slice A3 ps.length c3, .slice B2 q2.length d2]) rfl rfl hu25 rfl info25s (blk_cells b11)) ?_
                  refine E.GL.run rfl rfl rfl (E.Runs.move rfl rfl) ?_
                  by_cases h134 : ready ps q2 (T : Int)
                  · obtain ⟨_, _, hH3, _, _⟩ := id h134
                    have hE3 : chkE ps q2 T = 0 := chkE_ok.mpr ⟨hH3, by unfold inR; omega⟩
                    refine E.GL.st rfl rfl rfl (E.ST.call rfl ent27 (E.evc rfl (E.evc rfl E.evn)) ((ready_calls ps q2 A3 B2 c3 d2 _ true (Kd.R_reads' RP).2.2 (Kd.R_reads' RQ).2.2 T (iff_of_true rfl h134)).mono ?_))
                    rintro e w134 ⟨rfl, l134⟩
                    refine ⟨_, rfl, ?_⟩
                    replace b3 := blk_below b3 l134
                    replace b5 := blk_below b5 l134
                    replace b11 := blk_below b11 l134
                    replace RP := Kd.R_below RP l134
                    replace RQ := Kd.R_below RQ l134
                    replace L := below_step L l134
                    refine E.GL.done ?_
                    refine E.QG.code ?_
                    refine E.CG.cond_t rfl ?_
                    refine E.CG.seq ?_
                    refine E.CG.list ?_
                    refine E.GL.run rfl rfl rfl (E.Runs.loads (cs := [.slice A3 ps.length c3, .slice B2 q2.length d2]) rfl rfl hu25 rfl info25s (blk_cells b11)) ?_
                    refine E.GL.run rfl rfl rfl (E.Runs.move rfl rfl) ?_
                    refine E.GL.st rfl rfl rfl (E.ST.call rfl ent28 (E.evc rfl (E.evc rfl E.evn)) ((most_calls ps q2 A3 B2 c3 d2 _ (Kd.R_reads' RP).2.2 (Kd.R_reads' RQ).2.2 (by omega) (by omega) T).mono ?_))
                    rintro e w138 ⟨N138, rfl, hM138, l138⟩
                    refine ⟨_, rfl, ?_⟩
                    replace b3 := blk_below b3 l138
                    replace b5 := blk_below b5 l138
                    replace b11 := blk_below b11 l138
                    replace RP := Kd.R_below RP l138
                    replace RQ := Kd.R_below RQ l138
                    replace L := below_step L l138
                    rw [hE3]
                    have hI138 := hM138.1 hE3
                    rw [Int.toNat_natCast] at hI138
                    have hle138 := most_more hH hH3 hW hI60 hI138
                    refine E.GL.run rfl rfl rfl (E.Runs.move rfl rfl) ?_
                    refine E.GL.run rfl rfl rfl (E.Runs.extract rfl rfl rfl) ?_
                    refine E.GL.run rfl rfl rfl (E.Runs.extract rfl rfl rfl) ?_
                    refine E.GL.run rfl rfl rfl (E.Runs.assign rfl rfl) ?_
                    refine E.GL.run rfl rfl rfl (E.Runs.assign rfl rfl) ?_
                    refine E.GL.done ?_
                    refine E.QG.code ?_
                    refine E.CG.seq ?_
                    refine E.CG.list ?_
                    refine E.GL.run rfl rfl rfl (E.Runs.loads (cs := [.slice A ps.length c, .slice B qs.length d]) rfl rfl hu25 rfl info25s (blk_cells b3)) ?_
                    refine E.GL.st rfl rfl rfl (E.ST.call rfl ent21 (E.evc rfl E.evn) ((empty_calls ps qs A B c d _ (Kd.C_below hP L) (Kd.C_below hQ L) (by omega) (by omega)).mono ?_))
                    rintro e w143 ⟨N143, E143, rfl, hE143, l143⟩
                    refine ⟨_, rfl, ?_⟩
                    replace b3 := blk_below b3 l143
                    replace b5 := blk_below b5 l143
                    replace b11 := blk_below b11 l143
                    replace RP := Kd.R_below RP l143
                    replace RQ := Kd.R_below RQ l143
                    replace L := below_step L l143
                    refine E.GL.run rfl rfl rfl (E.Runs.move rfl rfl) ?_
                    refine E.GL.run rfl rfl rfl (E.Runs.extract rfl rfl rfl) ?_
                    refine E.GL.run rfl rfl rfl (E.Runs.extract rfl rfl rfl) ?_
                    refine E.GL.run rfl rfl rfl (E.Runs.assign rfl rfl) ?_
                    refine E.GL.run rfl rfl rfl (E.Runs.assign rfl rfl) ?_
                    refine E.GL.done ?_
                    refine E.QG.code ?_
                    refine E.CG.seq ?_
                    refine E.CG.list ?_
                    refine E.GL.run rfl rfl rfl (E.Runs.loads (cs := [.slice A3 ps.length c3, .slice B2 q2.length d2]) rfl rfl hu25 rfl info25s (blk_cells b11)) ?_
                    refine E.GL.st rfl rfl rfl (E.ST.call rfl ent21 (E.evc rfl E.evn) ((empty_calls ps q2 A3 B2 c3 d2 _ (Kd.R_reads' RP).2.2 (Kd.R_reads' RQ).2.2 (by omega) (by omega)).mono ?_))
                    rintro e w148 ⟨N148, E148, rfl, hE148, l148⟩
                    refine ⟨_, rfl, ?_⟩
                    replace b3 := blk_below b3 l148
                    replace b5 := blk_below b5 l148
                    replace b11 := blk_below b11 l148
                    replace RP := Kd.R_below RP l148
                    replace RQ := Kd.R_below RQ l148
                    replace L := below_step L l148
                    refine E.GL.run rfl rfl rfl (E.Runs.move rfl rfl) ?_
                    refine E.GL.run rfl rfl rfl (E.Runs.extract rfl rfl rfl) ?_
                    refine E.GL.run rfl rfl rfl (E.Runs.extract rfl rfl rfl) ?_
                    refine E.GL.run rfl rfl rfl (E.Runs.assign rfl rfl) ?_
                    refine E.GL.run rfl rfl rfl (E.Runs.assign rfl rfl) ?_
                    refine E.GL.done ?_
                    refine E.QG.code ?_
                    refine E.CG.seq ?_
                    refine E.CG.list ?_
                    refine E.GL.run rfl rfl rfl (E.Runs.move rfl rfl) ?_
                    refine E.GL.run rfl rfl rfl (E.Runs.neq rfl rfl rfl (E.ne_f rfl)) ?_
                    refine E.GL.run rfl rfl rfl (E.Runs.move rfl rfl) ?_
                    refine E.GL.run rfl rfl rfl (E.Runs.move rfl rfl) ?_
                    refine E.GL.run rfl rfl rfl (E.Runs.move rfl rfl) ?_
                    refine E.GL.run rfl rfl rfl (E.Runs.lss rfl rfl rfl (decide_eq_false (by omega))) ?_
                    refine E.GL.run rfl rfl rfl (E.Runs.pick_f rfl rfl rfl) ?_
                    refine E.GL.run rfl rfl rfl (E.Runs.move rfl rfl) ?_
                    refine E.GL.run rfl rfl rfl (E.Runs.move rfl rfl) ?_
                    refine E.GL.cmp rfl rfl rfl (fun _ h => (E.Runs.eql rfl rfl rfl h)) (fun h160 => ?_) (fun h160 => ?_)
                    · obtain ⟨hd, hle148⟩ := empty_more hH hH3 hW hE143 hE148 h160
                      refine E.GL.run rfl rfl rfl (E.Runs.move rfl rfl) ?_
                      refine E.GL.run rfl rfl rfl (E.Runs.move rfl rfl) ?_
                      refine E.GL.run rfl rfl rfl (E.Runs.neq rfl rfl rfl (E.ne_f hd)) ?_
                      refine E.GL.run rfl rfl rfl (E.Runs.move rfl rfl) ?_
                      refine E.GL.run rfl rfl rfl (E.Runs.move rfl rfl) ?_
                      refine E.GL.run rfl rfl rfl (E.Runs.move rfl rfl) ?_
                      refine E.GL.run rfl rfl rfl (E.Runs.gtr rfl rfl rfl (decide_eq_false (by omega))) ?_
                      refine E.GL.run rfl rfl rfl (E.Runs.pick_f rfl rfl rfl) ?_
                      refine E.GL.run rfl rfl rfl (E.Runs.pick_t rfl rfl rfl) ?_
                      refine E.GL.run rfl rfl rfl (E.Runs.pick_f rfl rfl rfl) ?_
                      refine E.GL.done ?_
                      refine E.QG.code ?_
                      refine E.CG.cond_f rfl ?_
                      refine E.CG.skip ?_
                      exact E.QG.meet1 () (E.subc rfl (E.subc rfl (E.subc rfl (E.subc rfl (E.subn))))) ⟨b3, b5, L⟩
                    · refine E.GL.run rfl rfl rfl (E.Runs.move rfl rfl) ?_
                      refine E.GL.skip rfl rfl rfl ?_
                      refine E.GL.skip rfl rfl rfl ?_
                      refine E.GL.skip rfl rfl rfl ?_
                      refine E.GL.skip rfl rfl rfl ?_
                      refine E.GL.skip rfl rfl rfl ?_
                      refine E.GL.skip rfl rfl rfl ?_
                      refine E.GL.skip rfl rfl rfl ?_
                      refine E.GL.run rfl rfl rfl (E.Runs.pick_f rfl rfl rfl) ?_
                      refine E.GL.run rfl rfl rfl (E.Runs.pick_f rfl rfl rfl) ?_
                      refine E.GL.done ?_
                      refine E.QG.code ?_
                      refine E.CG.cond_f rfl ?_
                      refine E.CG.skip ?_
                      exact E.QG.meet1 () (E.subc rfl (E.subc rfl (E.subc rfl (E.subc rfl (E.subn))))) ⟨b3, b5, L⟩
                  · refine E.GL.st rfl rfl rfl (E.ST.call rfl ent27 (E.evc rfl (E.evc rfl E.evn)) ((ready_calls ps q2 A3 B2 c3 d2 _ false (Kd.R_reads' RP).2.2 (Kd.R_reads' RQ).2.2 T (iff_of_false Bool.false_ne_true h134)).mono ?_))
                    rintro e w134 ⟨rfl, l134⟩
                    refine ⟨_, rfl, ?_⟩
                    replace b3 := blk_below b3 l134
                    replace b5 := blk_below b5 l134
                    replace b11 := blk_below b11 l134
                    replace RP := Kd.R_below RP l134
                    replace RQ := Kd.R_below RQ l134
                    replace L := below_step L l134
                    refine E.GL.done ?_
                    refine E.QG.code ?_
                    refine E.CG.cond_f rfl ?_
                    refine E.CG.skip ?_
                    exact E.QG.meet1 () (E.subc rfl (E.subc rfl (E.subc rfl (E.subc rfl (E.subn))))) ⟨b3, b5, L⟩
                intro _u w16
                rintro ⟨b3, b5, L⟩
                refine E.QG.code ?_
                refine E.CG.seq ?_
                refine E.CG.seq ?_
                refine E.CG.list ?_
                refine E.GL.run rfl rfl rfl (E.Runs.fieldAddr rfl rfl hu51 rfl (by assumption) rfl) ?_
                refine E.GL.run rfl rfl rfl (E.Runs.load rfl rfl hu3 (by first | assumption | exact E.blkc (by assumption) rfl | exact pw_cell_below L (by assumption))) ?_
                refine E.GL.cmp rfl rfl rfl (fun _ h => (E.Runs.lss rfl rfl rfl h)) (fun h173 => ?_) (fun h173 => ?_)
                · refine E.GL.run rfl rfl rfl (E.Runs.move rfl rfl) ?_
                  refine E.GL.skip rfl rfl rfl ?_
                  refine E.GL.skip rfl rfl rfl ?_
                  refine E.GL.skip rfl rfl rfl ?_
                  refine E.GL.skip rfl rfl rfl ?_
                  refine E.GL.skip rfl rfl rfl ?_
                  refine E.GL.skip rfl rfl rfl ?_
                  refine E.GL.run rfl rfl rfl (E.Runs.pick_t rfl rfl rfl) ?_
                  refine E.GL.done ?_
                  refine E.QG.code ?_
                  refine E.CG.cond_t rfl ?_
                  refine E.CG.seq ?_
                  refine E.CG.list ?_
                  refine E.GL.st rfl rfl rfl (E.ST.call rfl ent12 E.evn ((works_calls _).mono ?_))
                  rintro e w182 ⟨rfl, l182⟩
                  refine ⟨_, rfl, ?_⟩
                  replace b3 := blk_below b3 l182
                  replace b5 := blk_below b5 l182
                  replace L := below_step L l182
                  refine E.GL.run rfl rfl rfl (E.Runs.assign rfl rfl) ?_
                  refine E.GL.done ?_
                  refine E.QG.code ?_
                  refine E.CG.ret ?_
                  refine E.QG.pass_ret ?_
                  exact E.QG.result rfl rfl ⟨rfl, L⟩
                · refine E.GL.run rfl rfl rfl (E.Runs.move rfl rfl) ?_
                  refine E.GL.run rfl rfl rfl (E.Runs.fieldAddr rfl rfl hu51 rfl (by assumption) rfl) ?_
                  refine E.GL.run rfl rfl rfl (E.Runs.load rfl rfl hu3 (by first | assumption | exact E.blkc (by assumption) rfl | exact pw_cell_below L (by assumption))) ?_
                  refine E.GL.run rfl rfl rfl (E.Runs.fieldAddr rfl rfl hu25 rfl (by assumption) rfl) ?_
                  refine E.GL.run rfl rfl rfl (E.Runs.load1 rfl rfl hu22 rfl (by first | assumption | exact E.blkc (by assumption) rfl | exact pw_cell_below L (by assumption))) ?_
                  refine E.GL.run rfl rfl rfl (E.Runs.len rfl rfl hu22) ?_
                  refine E.GL.cmp rfl rfl rfl (fun _ h => (E.Runs.geq rfl rfl rfl h)) (fun h180 => ?_) (fun h180 => ?_)
                  · refine E.GL.run rfl rfl rfl (E.Runs.pick_f rfl rfl rfl) ?_
                    refine E.GL.done ?_
                    refine E.QG.code ?_
                    refine E.CG.cond_t rfl ?_
                    refine E.CG.seq ?_
                    refine E.CG.list ?_
                    refine E.GL.st rfl rfl rfl (E.ST.call rfl ent12 E.evn ((works_calls _).mono ?_))
                    rintro e w182 ⟨rfl, l182⟩
                    refine ⟨_, rfl, ?_⟩
                    replace b3 := blk_below b3 l182
                    replace b5 := blk_below b5 l182
                    replace L := below_step L l182
                    refine E.GL.run rfl rfl rfl (E.Runs.assign rfl rfl) ?_
                    refine E.GL.done ?_
                    refine E.QG.code ?_
                    refine E.CG.ret ?_
                    refine E.QG.pass_ret ?_
                    exact E.QG.result rfl rfl ⟨rfl, L⟩
                  · obtain ⟨r, rfl⟩ : ∃ r : Nat, x4 = r := ⟨x4.toNat, by omega⟩
                    have hr : r < ps.length := by omega
                    obtain ⟨x, hx⟩ : ∃ x, ps[r]? = some x := ⟨_, List.getElem?_eq_getElem hr⟩
                    have hxd : ps.getD r 0 = x := by rw [List.getD_eq_getElem?_getD, hx]; rfl
                    obtain ⟨hx0, hx1⟩ := hH.p x (List.mem_of_getElem? hx)
                    refine E.GL.run rfl rfl rfl (E.Runs.pick_f rfl rfl rfl) ?_
                    refine E.GL.done ?_
                    refine E.QG.code ?_
                    refine E.CG.cond_f rfl ?_
                    refine E.CG.skip ?_
                    refine E.QG.code ?_
                    refine E.CG.seq ?_
                    refine E.CG.list ?_
                    refine E.GL.run rfl rfl rfl (E.Runs.loads (cs := [.slice A ps.length c, .slice B qs.length d]) rfl rfl hu25 rfl info25s (blk_cells b3)) ?_
                    have hs184 := L.size
                    refine E.GL.st rfl rfl rfl (E.ST.call rfl ent13 (E.evc rfl E.evn) ((copy_calls ps qs A B c d _ (Kd.C_below hP L) (Kd.C_below hQ L) (by omega) (by omega)).mono ?_))
                    rintro e w184 ⟨A5, B5, c5, d5, rfl, SP, SQ, l184⟩
                    refine ⟨_, rfl, ?_⟩
                    replace b3 := blk_below b3 l184
                    replace b5 := blk_below b5 l184
                    replace L := below_step L l184
                    replace SP := Kd.R_lower SP hs184
                    replace SQ := Kd.R_lower SQ hs184
                    refine E.GL.st rfl rfl rfl (E.ST.alloc rfl info25z fun g19 w19 e19 b19 l19 => ?_)
                    have h19_L : w.heap.size ≤ g19 := by rw [e19]; exact L.size
                    have n19_b3 : g3 ≠ g19 := by have := blk_lt b3; omega
                    have n19_b5 : g5 ≠ g19 := by have := blk_lt b5; omega
                    have n19_SP : some g19 ≠ ((Value.slice A5 ps.length c5)).ownBlock := fun h => by have := Kd.R_lt SP _ h.symm; omega
                    have n19_SQ : some g19 ≠ ((Value.slice B5 qs.length d5)).ownBlock := fun h => by have := Kd.R_lt SQ _ h.symm; omega
                    replace b3 := blk_below b3 l19
                    replace b5 := blk_below b5 l19
                    replace SP := Kd.R_below SP l19
                    replace SQ := Kd.R_below SQ l19
                    replace L := below_step L l19
                    refine E.GL.store_whole rfl rfl rfl rfl rfl b19 rfl info25s (slices_one _ _ _ _ _ _) fun wS24_3 c19 lS24_3 => ?_
                    replace b3 := blk_grown b3 lS24_3 (E.nes (by first | assumption | exact Ne.symm (by assumption)))
                    replace b5 := blk_grown b5 lS24_3 (E.nes (by first | assumption | exact Ne.symm (by assumption)))
                    replace SP := Kd.R_grown1 SP rfl lS24_3 (by first | assumption | exact Kd.R_ne SP b19 (by decide))
                    replace SQ := Kd.R_grown1 SQ rfl lS24_3 (by first | assumption | exact Kd.R_ne SQ b19 (by decide))
                    replace L := E.below_own L h19_L lS24_3
                    replace b19 := c19
                    clear c19
                    refine E.GL.done ?_
                    refine E.QG.code ?_
                    refine E.CG.seq ?_
                    obtain ⟨gK, eK, hgK, cK, fK, ⟨_, bK⟩, stK⟩ := rowI_at SP hx
                    refine E.CG.list ?_
                    refine E.GL.run rfl rfl rfl (E.Runs.fieldAddr rfl rfl hu25 rfl (by assumption) rfl) ?_
                    refine E.GL.run rfl rfl rfl (E.Runs.load1 rfl rfl hu22 rfl (by first | assumption | exact E.blkc (by assumption) rfl | exact pw_cell_below L (by assumption))) ?_
                    refine E.GL.run rfl rfl rfl (E.Runs.fieldAddr rfl rfl hu51 rfl (by assumption) rfl) ?_
                    refine E.GL.run rfl rfl rfl (E.Runs.load rfl rfl hu3 (by first | assumption | exact E.blkc (by assumption) rfl | exact pw_cell_below L (by assumption))) ?_
                    refine E.GL.run rfl rfl rfl (E.Runs.indexAddrA (i := r) rfl rfl rfl hu22 z3 o3 (by omega) eK (show _ = (⟨gK, r * 1, none⟩ : Addr) from by rw [Go.Addr.add_mid, Nat.zero_add])) ?_
                    refine E.GL.run rfl rfl rfl (E.Runs.load rfl rfl hu3 cK) ?_
                    refine E.GL.run rfl rfl rfl (E.Runs.add rfl rfl rfl (IntWalk.i64_in _ (by omega))) ?_
                    refine E.GL.run rfl rfl rfl (E.Runs.indexAddrA (i := r) rfl rfl rfl hu22 z3 o3 (by omega) eK (show _ = (⟨gK, r * 1, none⟩ : Addr) from by rw [Go.Addr.add_mid, Nat.zero_add])) ?_
                    refine E.GL.sn rfl rfl (E.ST.storeN rfl z3 o3 rfl rfl cK fK ?_)
                    obtain ⟨wK, hwK, RK, gK'⟩ := stK (x + 1)
                    rw [← hwK]
                    replace b3 := blk_grown b3 gK' (E.nes (blk_ne b3 bK (by decide)))
                    replace b5 := blk_grown b5 gK' (E.nes (blk_ne b5 bK (by decide)))
                    replace b19 := blk_grown b19 gK' (E.nes (blk_ne b19 bK (by decide)))
                    replace SQ := over_blk SQ bK (by decide) rfl gK'
                    replace L := E.below_own L hgK gK'
                    clear SP
                    have hl2 : (ps.set r (x + 1)).length = ps.length := List.length_set
                    replace RK := R_len hl2.symm RK
                    rw [← hl2] at b19
                    refine E.GL.done ?_
                    refine E.QG.code ?_
                    refine E.CG.seq ?_
                    refine E.CG.seq ?_
                    refine E.CG.list ?_
                    refine E.GL.run rfl rfl rfl (E.Runs.loads (cs := [.slice A5 (ps.set r (x + 1)).length c5, .slice B5 qs.length d5]) rfl rfl hu25 rfl info25s (blk_cells b19)) ?_
                    refine E.GL.run rfl rfl rfl (E.Runs.move rfl rfl) ?_
                    by_cases h195 : ready (ps.set r (x + 1)) qs (T : Int)
                    · obtain ⟨_, _, hH4, _, _⟩ := id h195
                      have hE4 : chkE (ps.set r (x + 1)) qs T = 0 := chkE_ok.mpr ⟨hH4, by unfold inR; omega⟩
                      refine E.GL.st rfl rfl rfl (E.ST.call rfl ent27 (E.evc rfl (E.evc rfl E.evn)) ((ready_calls (ps.set r (x + 1)) qs A5 B5 c5 d5 _ true (Kd.R_reads' RK).2.2 (Kd.R_reads' SQ).2.2 T (iff_of_true rfl h195)).mono ?_))
                      rintro e w195 ⟨rfl, l195⟩
                      refine ⟨_, rfl, ?_⟩
                      replace b3 := blk_below b3 l195
                      replace b5 := blk_below b5 l195
                      replace b19 := blk_below b19 l195
                      replace RK := Kd.R_below RK l195
                      replace SQ := Kd.R_below SQ l195
                      replace L := below_step L l195
                      refine E.GL.run rfl rfl rfl (E.Runs.not rfl rfl) ?_
                      refine E.GL.done ?_
                      refine E.QG.code ?_
                      refine E.CG.cond_f rfl ?_
                      refine E.CG.skip ?_
                      refine E.QG.code ?_
                      refine E.CG.seq ?_
                      refine E.CG.list ?_
                      refine E.GL.run rfl rfl rfl (E.Runs.loads (cs := [.slice A5 (ps.set r (x + 1)).length c5, .slice B5 qs.length d5]) rfl rfl hu25 rfl info25s (blk_cells b19)) ?_
                      refine E.GL.run rfl rfl rfl (E.Runs.move rfl rfl) ?_
                      refine E.GL.st rfl rfl rfl (E.ST.call rfl ent28 (E.evc rfl (E.evc rfl E.evn)) ((most_calls (ps.set r (x + 1)) qs A5 B5 c5 d5 _ (Kd.R_reads' RK).2.2 (Kd.R_reads' SQ).2.2 (by omega) (by omega) T).mono ?_))
                      rintro e w201 ⟨N201, rfl, hM201, l201⟩
                      refine ⟨_, rfl, ?_⟩
                      replace b3 := blk_below b3 l201
                      replace b5 := blk_below b5 l201
                      replace b19 := blk_below b19 l201
                      replace RK := Kd.R_below RK l201
                      replace SQ := Kd.R_below SQ l201
                      replace L := below_step L l201
                      rw [hE4]
                      have hI201 := hM201.1 hE4
                      rw [Int.toNat_natCast] at hI201
                      rw [← hxd] at hH4 hI201
                      have hb201 := most_bump hr hH hH4 hI60 hI201
                      refine E.GL.run rfl rfl rfl (E.Runs.move rfl rfl) ?_
                      refine E.GL.run rfl rfl rfl (E.Runs.extract rfl rfl rfl) ?_
                      refine E.GL.run rfl rfl rfl (E.Runs.extract rfl rfl rfl) ?_
                      refine E.GL.run rfl rfl rfl (E.Runs.assign rfl rfl) ?_
                      refine E.GL.run rfl rfl rfl (E.Runs.assign rfl rfl) ?_
                      refine E.GL.done ?_
                      refine E.QG.code ?_
                      refine E.CG.seq ?_
                      refine E.CG.list ?_
                      refine E.GL.run rfl rfl rfl (E.Runs.move rfl rfl) ?_
                      refine E.GL.run rfl rfl rfl (E.Runs.eql rfl rfl rfl (decide_eq_true rfl)) ?_
                      refine E.GL.run rfl rfl rfl (E.Runs.move rfl rfl) ?_
                      refine E.GL.run rfl rfl rfl (E.Runs.move rfl rfl) ?_
                      refine E.GL.run rfl rfl rfl (E.Runs.move rfl rfl) ?_
                      refine E.GL.cmp rfl rfl rfl (fun _ h => (E.Runs.eql rfl rfl rfl h)) (fun h209 => ?_) (fun h209 => ?_)
                      · refine E.GL.run rfl rfl rfl (E.Runs.move rfl rfl) ?_
                        refine E.GL.skip rfl rfl rfl ?_
                        refine E.GL.skip rfl rfl rfl ?_
                        refine E.GL.skip rfl rfl rfl ?_
                        refine E.GL.skip rfl rfl rfl ?_
                        refine E.GL.run rfl rfl rfl (E.Runs.pick_t rfl rfl rfl) ?_
                        refine E.GL.run rfl rfl rfl (E.Runs.pick_t rfl rfl rfl) ?_
                        refine E.GL.run rfl rfl rfl (E.Runs.move rfl rfl) ?_
                        refine E.GL.st rfl rfl rfl (E.ST.call rfl ent12 E.evn ((works_calls _).mono ?_))
                        rintro e w218 ⟨rfl, l218⟩
                        refine ⟨_, rfl, ?_⟩
                        replace b3 := blk_below b3 l218
                        replace b5 := blk_below b5 l218
                        replace b19 := blk_below b19 l218
                        replace RK := Kd.R_below RK l218
                        replace SQ := Kd.R_below SQ l218
                        replace L := below_step L l218
                        refine E.GL.run rfl rfl rfl (E.Runs.pick_t rfl rfl rfl) ?_
                        refine E.GL.run rfl rfl rfl (E.Runs.assign rfl rfl) ?_
                        refine E.GL.done ?_
                        refine E.QG.code ?_
                        refine E.CG.ret ?_
                        exact E.QG.result rfl rfl ⟨rfl, L⟩
                      · refine E.GL.run rfl rfl rfl (E.Runs.move rfl rfl) ?_
                        refine E.GL.run rfl rfl rfl (E.Runs.move rfl rfl) ?_
                        refine E.GL.run rfl rfl rfl (E.Runs.move rfl rfl) ?_
                        refine E.GL.run rfl rfl rfl (E.Runs.add rfl rfl rfl (IntWalk.i64_in _ (by omega))) ?_
                        refine E.GL.run rfl rfl rfl (E.Runs.eql rfl rfl rfl (decide_eq_true (by omega))) ?_
                        refine E.GL.run rfl rfl rfl (E.Runs.pick_f rfl rfl rfl) ?_
                        refine E.GL.run rfl rfl rfl (E.Runs.pick_t rfl rfl rfl) ?_
                        refine E.GL.run rfl rfl rfl (E.Runs.move rfl rfl) ?_
                        refine E.GL.st rfl rfl rfl (E.ST.call rfl ent12 E.evn ((works_calls _).mono ?_))
                        rintro e w218 ⟨rfl, l218⟩
                        refine ⟨_, rfl, ?_⟩
                        replace b3 := blk_below b3 l218
                        replace b5 := blk_below b5 l218
                        replace b19 := blk_below b19 l218
                        replace RK := Kd.R_below RK l218
                        replace SQ := Kd.R_below SQ l218
                        replace L := below_step L l218
                        refine E.GL.run rfl rfl rfl (E.Runs.pick_t rfl rfl rfl) ?_
                        refine E.GL.run rfl rfl rfl (E.Runs.assign rfl rfl) ?_
                        refine E.GL.done ?_
                        refine E.QG.code ?_
                        refine E.CG.ret ?_
                        exact E.QG.result rfl rfl ⟨rfl, L⟩
                    · refine E.GL.st rfl rfl rfl (E.ST.call rfl ent27 (E.evc rfl (E.evc rfl E.evn)) ((ready_calls (ps.set r (x + 1)) qs A5 B5 c5 d5 _ false (Kd.R_reads' RK).2.2 (Kd.R_reads' SQ).2.2 T (iff_of_false Bool.false_ne_true h195)).mono ?_))
                      rintro e w195 ⟨rfl, l195⟩
                      refine ⟨_, rfl, ?_⟩
                      replace b3 := blk_below b3 l195
                      replace b5 := blk_below b5 l195
                      replace b19 := blk_below b19 l195
                      replace RK := Kd.R_below RK l195
                      replace SQ := Kd.R_below SQ l195
                      replace L := below_step L l195
                      refine E.GL.run rfl rfl rfl (E.Runs.not rfl rfl) ?_
                      refine E.GL.done ?_
                      refine E.QG.code ?_
                      refine E.CG.cond_t rfl ?_
                      refine E.CG.seq ?_
                      refine E.CG.list ?_
                      refine E.GL.st rfl rfl rfl (E.ST.call rfl ent12 E.evn ((works_calls _).mono ?_))
                      rintro e w197 ⟨rfl, l197⟩
                      refine ⟨_, rfl, ?_⟩
                      replace b3 := blk_below b3 l197
                      replace b5 := blk_below b5 l197
                      replace b19 := blk_below b19 l197
                      replace RK := Kd.R_below RK l197
                      replace SQ := Kd.R_below SQ l197
                      replace L := below_step L l197
                      refine E.GL.run rfl rfl rfl (E.Runs.assign rfl rfl) ?_
                      refine E.GL.done ?_
                      refine E.QG.code ?_
                      refine E.CG.ret ?_
                      refine E.QG.pass_ret ?_
                      exact E.QG.result rfl rfl ⟨rfl, L⟩
  · refine E.GL.st rfl rfl rfl (E.ST.call rfl ent27 (E.evc rfl (E.evc rfl E.evn)) ((ready_calls ps qs A B c d _ false (Kd.C_below hP L) (Kd.C_below hQ L) m1 (iff_of_false Bool.false_ne_true h24)).mono ?_))
    rintro e w24 ⟨rfl, l24⟩
    refine ⟨_, rfl, ?_⟩
    replace b3 := blk_below b3 l24
    replace b5 := blk_below b5 l24
    replace L := below_step L l24
    refine E.GL.run rfl rfl rfl (E.Runs.not rfl rfl) ?_
    refine E.GL.run rfl rfl rfl (E.Runs.move rfl rfl) ?_
    refine E.GL.skip rfl rfl rfl ?_
    refine E.GL.skip rfl rfl rfl ?_
    refine E.GL.skip rfl rfl rfl ?_
    refine E.GL.run rfl rfl rfl (E.Runs.pick_t rfl rfl rfl) ?_
    refine E.GL.run rfl rfl rfl (E.Runs.move rfl rfl) ?_
    refine E.GL.skip rfl rfl rfl ?_
    refine E.GL.skip rfl rfl rfl ?_
    refine E.GL.skip rfl rfl rfl ?_
    refine E.GL.run rfl rfl rfl (E.Runs.pick_t rfl rfl rfl) ?_
    refine E.GL.run rfl rfl rfl (E.Runs.move rfl rfl) ?_
    refine E.GL.skip rfl rfl rfl ?_
    refine E.GL.skip rfl rfl rfl ?_
    refine E.GL.skip rfl rfl rfl ?_
    refine E.GL.run rfl rfl rfl (E.Runs.pick_t rfl rfl rfl) ?_
    refine E.GL.run rfl rfl rfl (E.Runs.move rfl rfl) ?_
    refine E.GL.skip rfl rfl rfl ?_
    refine E.GL.skip rfl rfl rfl ?_
    refine E.GL.skip rfl rfl rfl ?_
    refine E.GL.run rfl rfl rfl (E.Runs.pick_t rfl rfl rfl) ?_
    refine E.GL.run rfl rfl rfl (E.Runs.move rfl rfl) ?_
    refine E.GL.skip rfl rfl rfl ?_
    refine E.GL.skip rfl rfl rfl ?_
    refine E.GL.skip rfl rfl rfl ?_
    refine E.GL.run rfl rfl rfl (E.Runs.pick_t rfl rfl rfl) ?_
    refine E.GL.run rfl rfl rfl (E.Runs.move rfl rfl) ?_
    refine E.GL.skip rfl rfl rfl ?_
    refine E.GL.skip rfl rfl rfl ?_
    refine E.GL.skip rfl rfl rfl ?_
    refine E.GL.run rfl rfl rfl (E.Runs.pick_t rfl rfl rfl) ?_
    refine E.GL.done ?_
    refine E.QG.code ?_
    refine E.CG.cond_t rfl ?_
    refine E.CG.seq ?_
    refine E.CG.list ?_
    refine E.GL.st rfl rfl rfl (E.ST.call rfl ent12 E.evn ((works_calls _).mono ?_))
    rintro e w56 ⟨rfl, l56⟩
    refine ⟨_, rfl, ?_⟩
    replace b3 := blk_below b3 l56
    replace b5 := blk_below b5 l56
    replace L := below_step L l56
    refine E.GL.run rfl rfl rfl (E.Runs.assign rfl rfl) ?_
    refine E.GL.done ?_
    refine E.QG.code ?_
    refine E.CG.ret ?_
    refine E.QG.pass_ret ?_
    exact E.QG.result rfl rfl ⟨rfl, L⟩

end Go.Proofs.Ytmnjlnkfihklgaa.T
namespace Go.Proofs.Ytmnjlnkfihklgaa.T
open Go.ChangeShapes Go.WideShapes Go.ChangeAt Go.Deep
open Go.RowKit Go.Proofs.YtmnjlnkfihklgaaW.PrintWords Go.Proofs.YtmnjlnkfihklgaaW.PrintMore
open Go.Proofs.Ytmnjlnkfihklgaa.P
set_option linter.unusedVariables false
set_option linter.unusedSimpArgs false

section
variable {X : Type} {enc : TypeId × Value → X} {w : World} {base : Nat} {spare : Nat → Bool} {held : Bool}
theorem fld {fs : Array Field} {n : Nat} {cs : List Value} {xs : List (DataW X × List MemPlace)} (hlen : xs.length = fs.size) (hg : ∀ (i : Nat) (f : Field), fs[i]? = some f → DataW.trod enc Try.prog w base spare held n f.type ((cs.drop f.offset).take (Try.prog.cellsOf f.type)) = xs[i]?) (i : Nat) (f : Field) (hf : fs[i]? = some f)
    (ty : TypeId) (off k : Nat) (h1 : f.type = ty) (h2 : f.offset = off) (h3 : Try.prog.cellsOf ty = k) :
    ∃ y, DataW.trod enc Try.prog w base spare held n ty ((cs.drop off).take k) = some y := by
  have hi : i < xs.length := by rw [hlen]; exact (Array.getElem?_eq_some_iff.1 hf).1
  subst h1 h2 h3
  exact ⟨_, (hg i f hf).trans (List.getElem?_eq_getElem hi)⟩

theorem cells3 : Try.prog.cellsOf 3 = 1 := by kernel_rfl

theorem trod3 {n : Nat} {cs : List Value} {x : DataW X × List MemPlace} (h : DataW.trod enc Try.prog w base spare held n 3 cs = some x) : ∃ (a : Int), cs = [.int .i64 a] := by
  obtain ⟨a, hc, _⟩ := DataW.trod_int Try.underlying3 h
  exact ⟨a, hc⟩

set_option maxRecDepth 100000 in
theorem int_open {r : Reach} {b0 : Nat} {v : Value} {d : DataW X} {p : List MemPlace} (hval : Value.okWide Try.prog w r b0 3 v) (h : DataW.Trod enc Try.prog w base spare held 3 v d p) : ∃ m : Int, v = .int .i64 m := okWide_int Try.underlying3 hval

theorem cells25 : Try.prog.cellsOf 25 = 2 := by kernel_rfl

theorem cells22 : Try.prog.cellsOf 22 = 1 := by kernel_rfl

theorem trod22 {n : Nat} {cs : List Value} {x : DataW X × List MemPlace} (h : DataW.trod enc Try.prog w base spare held n 22 cs = some x) : ∃ (aA : Option Addr) (ac : Nat) (al : List Int), cs = [.slice aA al.length ac] ∧ al.length ≤ ac ∧ Kd.C (Kd.int .i64) w aA al.length al := by
  rcases open_slice Try.underlying22 h with ⟨rfl, _⟩ | ⟨a, len, cap, m, k, D, Pl, rfl, hb, hl, hm, hmm, hx, hi⟩
  · exact ⟨none, 0, [], rfl, Nat.le_refl _, rfl, by simp, fun h => absurd h (by simp)⟩
  · have hlm : len ≤ m := by rw [hmm]; split <;> omega
    have H : ∀ i, i < len → ∃ s : Int, w.cells? base (a.add (i * 1)) 1 = some [.int .i64 s] := by
      intro i hil
      obtain ⟨cs', hc, ht⟩ := hi i (by omega)
      obtain ⟨a, rfl⟩ := trod3 ht
      rw [cells3] at hc
      exact ⟨a, hc⟩
    obtain ⟨F, hF⟩ : ∃ F : Nat → Int, ∀ i, i < len → w.cells? base (a.add (i * 1)) 1 = some [.int .i64 (F i)] := by
      refine ⟨fun i => if h : i < len then (H i h).choose else 0, fun i h => ?_⟩
      simp only [dif_pos h]
      exact (H i h).choose_spec
    refine ⟨some a, cap, (List.range len).map F, by simp, by simpa using hl, ?_, ?_, ?_⟩
    · rfl
    · simp only [List.length_map, List.length_range]
      unfold maxLen at hm
      omega
    · intro _
      refine ⟨a, rfl, fun j p hj => ?_⟩
      have hjl : j < len := by
        have := (List.getElem?_eq_some_iff.1 hj).1
        simpa using this
      have hp : p = F j := by
        rw [List.getElem?_map, List.getElem?_range hjl] at hj
        simpa using hj.symm
      subst hp
      refine ⟨[.int .i64 (F j)], rfl, rfl, ?_⟩
      intro i u hu
      obtain ⟨_, hcl, hat⟩ := World.cells?_some (hF j hjl)
      have hil : i < 1 := (List.getElem?_eq_some_iff.1 hu).1
      have := hat i hil
      rw [Go.Deep.add_add] at this
      rw [show j * ((Kd.int .i64)).sz + i = j * 1 + i from rfl, this, hu]

theorem cells23 : Try.prog.cellsOf 23 = 1 := by kernel_rfl

theorem cells45 : Try.prog.cellsOf 45 = 4 := by kernel_rfl

theorem list_of4 {cs : List Value} (h : cs.length = 4) : ∃ v0 v1 v2 v3, cs = [v0, v1, v2, v3] := by
  match cs, h with
  | [v0, v1, v2, v3], _ => exact ⟨v0, v1, v2, v3, rfl⟩

theorem trod45 {n : Nat} {cs : List Value} {x : DataW X × List MemPlace} (h : DataW.trod enc Try.prog w base spare held n 45 cs = some x) : ∃ (a_0 : Int) (a_1 : Int) (a_2 : Int) (a_3 : Int), cs = [.int .i64 a_0, .int .i64 a_1, .int .i64 a_2, .int .i64 a_3] := by
  obtain ⟨xs, m, _, hx, hl, hlen, hg⟩ := DataW.trod_struct Try.underlying45 h
  rw [cells45] at hl
  obtain ⟨v0, v1, v2, v3, rfl⟩ := list_of4 hl
  obtain ⟨y0, h0⟩ := fld hlen hg 0 _ rfl 3 0 1 rfl rfl cells3
  obtain ⟨y1, h1⟩ := fld hlen hg 1 _ rfl 3 1 1 rfl rfl cells3
  obtain ⟨y2, h2⟩ := fld hlen hg 2 _ rfl 3 2 1 rfl rfl cells3
  obtain ⟨y3, h3⟩ := fld hlen hg 3 _ rfl 3 3 1 rfl rfl cells3
  obtain ⟨a_0, e0⟩ := trod3 h0
  obtain ⟨a_1, e1⟩ := trod3 h1
  obtain ⟨a_2, e2⟩ := trod3 h2
  obtain ⟨a_3, e3⟩ := trod3 h3
  simp only [List.drop_zero, List.take_succ_cons, List.take_zero, List.drop_succ_cons, List.cons.injEq, and_true] at e0 e1 e2 e3
  subst e0 e1 e2 e3
  exact ⟨a_0, a_1, a_2, a_3, rfl⟩

theorem trod23 {n : Nat} {cs : List Value} {x : DataW X × List MemPlace} (h : DataW.trod enc Try.prog w base spare held n 23 cs = some x) : ∃ (aA : Option Addr) (ac : Nat) (al : List S45), cs = [.slice aA al.length ac] ∧ al.length ≤ ac ∧ Kd.C k45 w aA al.length al := by
  rcases open_slice Try.underlying23 h with ⟨rfl, _⟩ | ⟨a, len, cap, m, k, D, Pl, rfl, hb, hl, hm, hmm, hx, hi⟩
  · exact ⟨none, 0, [], rfl, Nat.le_refl _, rfl, by simp, fun h => absurd h (by simp)⟩
  · have hlm : len ≤ m := by rw [hmm]; split <;> omega
    have H : ∀ i, i < len → ∃ s : S45, w.cells? base (a.add (i * 4)) 4 = some [.int .i64 s.f0, .int .i64 s.f1, .int .i64 s.f2, .int .i64 s.f3] := by
      intro i hil
      obtain ⟨cs', hc, ht⟩ := hi i (by omega)
      obtain ⟨a_0, a_1, a_2, a_3, rfl⟩ := trod45 ht
      rw [cells45] at hc
      exact ⟨⟨a_0, a_1, a_2, a_3⟩, hc⟩
    obtain ⟨F, hF⟩ : ∃ F : Nat → S45, ∀ i, i < len → w.cells? base (a.add (i * 4)) 4 = some [.int .i64 (F i).f0, .int .i64 (F i).f1, .int .i64 (F i).f2, .int .i64 (F i).f3] := by
      refine ⟨fun i => if h : i < len then (H i h).choose else P.z45, fun i h => ?_⟩
      simp only [dif_pos h]
      exact (H i h).choose_spec
    refine ⟨some a, cap, (List.range len).map F, by simp, by simpa using hl, ?_, ?_, ?_⟩
    · rfl
    · simp only [List.length_map, List.length_range]
      unfold maxLen at hm
      omega
    · intro _
      refine ⟨a, rfl, fun j p hj => ?_⟩
      have hjl : j < len := by
        have := (List.getElem?_eq_some_iff.1 hj).1
        simpa using this
      have hp : p = F j := by
        rw [List.getElem?_map, List.getElem?_range hjl] at hj
        simpa using hj.symm
      subst hp
      refine ⟨[.int .i64 (F j).f0, .int .i64 (F j).f1, .int .i64 (F j).f2, .int .i64 (F j).f3], rfl, k45_mk w (F j), ?_⟩
      intro i u hu
      obtain ⟨_, hcl, hat⟩ := World.cells?_some (hF j hjl)
      have hil : i < 4 := (List.getElem?_eq_some_iff.1 hu).1
      have := hat i hil
      rw [Go.Deep.add_add] at this
      rw [show j * (k45).sz + i = j * 4 + i from rfl, this, hu]

theorem list_of2 {cs : List Value} (h : cs.length = 2) : ∃ v0 v1, cs = [v0, v1] := by
  match cs, h with
  | [v0, v1], _ => exact ⟨v0, v1, rfl⟩

theorem trod25 {n : Nat} {cs : List Value} {x : DataW X × List MemPlace} (h : DataW.trod enc Try.prog w base spare held n 25 cs = some x) : ∃ (a_0A : Option Addr) (a_0c : Nat) (a_0l : List Int) (a_1A : Option Addr) (a_1c : Nat) (a_1l : List S45), cs = [.slice a_0A a_0l.length a_0c, .slice a_1A a_1l.length a_1c] ∧ a_0l.length ≤ a_0c ∧ Kd.C (Kd.int .i64) w a_0A a_0l.length a_0l ∧ a_1l.length ≤ a_1c ∧ Kd.C k45 w a_1A a_1l.length a_1l := by
  obtain ⟨xs, m, _, hx, hl, hlen, hg⟩ := DataW.trod_struct Try.underlying25 h
  rw [cells25] at hl
  obtain ⟨v0, v1, rfl⟩ := list_of2 hl
  obtain ⟨y0, h0⟩ := fld hlen hg 0 _ rfl 22 0 1 rfl rfl cells22
  obtain ⟨y1, h1⟩ := fld hlen hg 1 _ rfl 23 1 1 rfl rfl cells23
  obtain ⟨a_0A, a_0c, a_0l, e0, f0_0, f0_1⟩ := trod22 h0
  obtain ⟨a_1A, a_1c, a_1l, e1, f1_0, f1_1⟩ := trod23 h1
  simp only [List.drop_zero, List.take_succ_cons, List.take_zero, List.drop_succ_cons, List.cons.injEq, and_true] at e0 e1
  subst e0 e1
  exact ⟨a_0A, a_0c, a_0l, a_1A, a_1c, a_1l, rfl, f0_0, f0_1, f1_0, f1_1⟩

set_option maxRecDepth 100000 in
theorem house_open {r : Reach} {b0 : Nat} {v : Value} {d : DataW X} {p : List MemPlace} (hval : Value.okWide Try.prog w r b0 25 v) (h : DataW.Trod enc Try.prog w base spare held 25 v d p) : ∃ (a_0A : Option Addr) (a_0c : Nat) (a_0l : List Int) (a_1A : Option Addr) (a_1c : Nat) (a_1l : List S45), v = .agg #[.slice a_0A a_0l.length a_0c, .slice a_1A a_1l.length a_1c] ∧ a_0l.length ≤ a_0c ∧ Kd.C (Kd.int .i64) w a_0A a_0l.length a_0l ∧ a_1l.length ≤ a_1c ∧ Kd.C k45 w a_1A a_1l.length a_1l := by
  obtain ⟨cs, rfl, hsz⟩ := okWide_struct Try.underlying25 hval
  obtain ⟨n, hn⟩ := h
  obtain ⟨a_0A, a_0c, a_0l, a_1A, a_1c, a_1l, hH, f0, f1, f2, f3⟩ := trod25 hn
  obtain ⟨l⟩ := cs
  obtain rfl : l = _ := hH
  exact ⟨a_0A, a_0c, a_0l, a_1A, a_1c, a_1l, rfl, f0, f1, f2, f3⟩

theorem cells51 : Try.prog.cellsOf 51 = 9 := by kernel_rfl

theorem list_of9 {cs : List Value} (h : cs.length = 9) : ∃ v0 v1 v2 v3 v4 v5 v6 v7 v8, cs = [v0, v1, v2, v3, v4, v5, v6, v7, v8] := by
  match cs, h with
  | [v0, v1, v2, v3, v4, v5, v6, v7, v8], _ => exact ⟨v0, v1, v2, v3, v4, v5, v6, v7, v8, rfl⟩

theorem trod51 {n : Nat} {cs : List Value} {x : DataW X × List MemPlace} (h : DataW.trod enc Try.prog w base spare held n 51 cs = some x) : ∃ (a_0 : Int) (a_1 : Int) (a_2 : Int) (a_3 : Int) (a_4 : Int) (a_5_0 : Int) (a_5_1 : Int) (a_5_2 : Int) (a_5_3 : Int), cs = [.int .i64 a_0, .int .i64 a_1, .int .i64 a_2, .int .i64 a_3, .int .i64 a_4, .int .i64 a_5_0, .int .i64 a_5_1, .int .i64 a_5_2, .int .i64 a_5_3] := by
  obtain ⟨xs, m, _, hx, hl, hlen, hg⟩ := DataW.trod_struct Try.underlying51 h
  rw [cells51] at hl
  obtain ⟨v0, v1, v2, v3, v4, v5, v6, v7, v8, rfl⟩ := list_of9 hl
  obtain ⟨y0, h0⟩ := fld hlen hg 0 _ rfl 3 0 1 rfl rfl cells3
  obtain ⟨y1, h1⟩ := fld hlen hg 1 _ rfl 3 1 1 rfl rfl cells3
  obtain ⟨y2, h2⟩ := fld hlen hg 2 _ rfl 3 2 1 rfl rfl cells3
  obtain ⟨y3, h3⟩ := fld hlen hg 3 _ rfl 3 3 1 rfl rfl cells3
  obtain ⟨y4, h4⟩ := fld hlen hg 4 _ rfl 3 4 1 rfl rfl cells3
  obtain ⟨y5, h5⟩ := fld hlen hg 5 _ rfl 45 5 4 rfl rfl cells45
  obtain ⟨a_0, e0⟩ := trod3 h0
  obtain ⟨a_1, e1⟩ := trod3 h1
  obtain ⟨a_2, e2⟩ := trod3 h2
  obtain ⟨a_3, e3⟩ := trod3 h3
  obtain ⟨a_4, e4⟩ := trod3 h4
  obtain ⟨a_5_0, a_5_1, a_5_2, a_5_3, e5⟩ := trod45 h5
  simp only [List.drop_zero, List.take_succ_cons, List.take_zero, List.drop_succ_cons, List.cons.injEq, and_true] at e0 e1 e2 e3 e4 e5
  obtain ⟨e5_0, e5_1, e5_2, e5_3⟩ := e5
  subst e0 e1 e2 e3 e4 e5_0 e5_1 e5_2 e5_3
  exact ⟨a_0, a_1, a_2, a_3, a_4, a_5_0, a_5_1, a_5_2, a_5_3, rfl⟩

set_option maxRecDepth 100000 in
theorem more_open {r : Reach} {b0 : Nat} {v : Value} {d : DataW X} {p : List MemPlace} (hval : Value.okWide Try.prog w r b0 51 v) (h : DataW.Trod enc Try.prog w base spare held 51 v d p) : ∃ (a_0 : Int) (a_1 : Int) (a_2 : Int) (a_3 : Int) (a_4 : Int) (a_5_0 : Int) (a_5_1 : Int) (a_5_2 : Int) (a_5_3 : Int), v = .agg #[.int .i64 a_0, .int .i64 a_1, .int .i64 a_2, .int .i64 a_3, .int .i64 a_4, .int .i64 a_5_0, .int .i64 a_5_1, .int .i64 a_5_2, .int .i64 a_5_3] := by
  obtain ⟨cs, rfl, hsz⟩ := okWide_struct Try.underlying51 hval
  obtain ⟨n, hn⟩ := h
  obtain ⟨a_0, a_1, a_2, a_3, a_4, a_5_0, a_5_1, a_5_2, a_5_3, hH⟩ := trod51 hn
  obtain ⟨l⟩ := cs
  obtain rfl : l = _ := hH
  exact ⟨a_0, a_1, a_2, a_3, a_4, a_5_0, a_5_1, a_5_2, a_5_3, rfl⟩

end

end Go.Proofs.Ytmnjlnkfihklgaa.T
