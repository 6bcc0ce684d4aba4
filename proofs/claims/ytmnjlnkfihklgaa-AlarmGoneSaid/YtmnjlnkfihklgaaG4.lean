/- Texts of this claim, put together: A21, A22, N13, A23, N14, A24, A25, N15, A26, A27, B2, O1. -/
import Derived.Test.YtmnjlnkfihklgaaG3
import Derived.Test.YtmnjlnkfihklgaaWRepsOne
import Derived.Test.YtmnjlnkfihklgaaRows
import Derived.ProofKit
import Derived.OpenShut
import Derived.ChangeOld
import Derived.SizedLaws
import Derived.Deep.Slices
namespace Go.Proofs.Ytmnjlnkfihklgaa.T
open Go.RowKit Go.Proofs.YtmnjlnkfihklgaaW.PrintWords Go.Proofs.YtmnjlnkfihklgaaW.PrintMore
open Go.Proofs.Ytmnjlnkfihklgaa.P
set_option linter.unusedVariables false
set_option linter.unusedSimpArgs false

end Go.Proofs.Ytmnjlnkfihklgaa.T
namespace Go.Proofs.Ytmnjlnkfihklgaa.T
open Go.RowKit Go.Proofs.YtmnjlnkfihklgaaW.PrintWords Go.Proofs.YtmnjlnkfihklgaaW.PrintMore
open Go.Proofs.Ytmnjlnkfihklgaa.P
set_option linter.unusedVariables false
set_option linter.unusedSimpArgs false

/-- The reference's node of a room in a minute; of one of ours. -/
def rN (R r m : Nat) : Nat := 1 + m * R + r
def lastN (R T : Nat) : Nat := 1 + R * (T + 1)
def xN (R T v : Nat) : Nat := if v = 0 then 0 else if v = 1 then lastN R T else rN R ((v - 2) / (T + 1)) ((v - 2) % (T + 1))
theorem xN_zero (R T : Nat) : xN R T 0 = 0 := rfl
theorem xN_one (R T : Nat) : xN R T 1 = lastN R T := rfl
theorem xN_node {R T r m : Nat} (hm : m ≤ T) : xN R T (nodeN T r m) = rN R r m := by
  have h2 := nodeN_two T r m
  unfold xN
  rw [if_neg (by omega), if_neg (by omega), (node_parts hm).1, (node_parts hm).2]
/-- The reference's edges, and its ways. -/
def xE (ps : List Int) (T : Nat) (e : Ed) : Ed := ⟨xN ps.length T e.fr, xN ps.length T e.td, if e.fr ≠ 0 ∧ e.up = -1 then allP ps else e.cap, e.up, e.um⟩
def edX (ps : List Int) (qs : List S45) (T : Nat) : List Ed := (edH ps qs T).map (xE ps T)
end Go.Proofs.Ytmnjlnkfihklgaa.T
namespace Go.Proofs.Ytmnjlnkfihklgaa.T
open Go.RowKit Go.Proofs.YtmnjlnkfihklgaaW.PrintWords Go.Proofs.YtmnjlnkfihklgaaW.PrintMore
open Go.Proofs.Ytmnjlnkfihklgaa.P
set_option linter.unusedVariables false
/-- All ways lie between nodes that there are. -/
def WsOk (ls : List S95) (n : Nat) : Prop := ∀ x ∈ ls, 0 ≤ x.f0 ∧ x.f0 < n ∧ 0 ≤ x.f1 ∧ x.f1 < n
/-- Where the search stands. -/
structure Pb (ls : List S95) (n : Nat) (V : List Nat) (bl : List Int) : Prop where
  nd : V.Nodup
  lt : ∀ x ∈ V, x < n
  v0 : V[0]? = some 0
  lb : bl.length = n
  is : ∀ v, v < n → (¬ bl[v]? = some 0 ↔ v ∈ V ∧ v ≠ 0)
  nn : ∀ x ∈ bl, 0 ≤ x
  back : ∀ (j v : Nat), V[j]? = some v → 0 < j → ∃ (j' k : Nat) (x : S95), j' < j ∧ ls[k]? = some x ∧ V[j']? = some x.f0.toNat ∧ bl[v]? = some ((k : Int) + 1) ∧ x.f1 = v ∧ 0 < x.f2
/-- Whose ways have been looked at. -/
def Dn (ls : List S95) (V : List Nat) (p : Nat) : Prop := ∀ (j v : Nat), j < p → V[j]? = some v → ∀ x ∈ ls, x.f0 = v → 0 < x.f2 → x.f1.toNat ∈ V
def Dk (ls : List S95) (V : List Nat) (u k : Nat) : Prop := ∀ (i : Nat) (x : S95), i < k → ls[i]? = some x → x.f0 = u → 0 < x.f2 → x.f1.toNat ∈ V
section
variable {ls : List S95} {n : Nat} {V : List Nat} {bl : List Int}
theorem Pb.few (h : Pb ls n V bl) : V.length ≤ n := by
  have := nodup_len (k := List.range n) h.nd (fun x hx => List.mem_range.mpr (h.lt x hx))
  simpa using this
theorem Pb.start (hn : 0 < n) : Pb ls n [0] (List.replicate n 0) := by
  refine ⟨by simp, fun x hx => ?_, rfl, by simp, fun v hv => ?_, fun x hx => ?_, fun j v hj h0 => ?_⟩
  · obtain rfl : x = 0 := by simpa using hx
    exact hn
  · rw [List.getElem?_replicate, if_pos hv]
    simp
  · rw [List.mem_replicate] at hx
    omega
  · obtain ⟨j, rfl⟩ : ∃ i, j = i + 1 := ⟨j - 1, by omega⟩
    simp at hj
theorem Pb.found {p u k t : Nat} {x : S95} (h : Pb ls n V bl) (hu : V[p]? = some u) (hx : ls[k]? = some x) (h0 : x.f0 = u) (h1 : 0 < x.f2) (ht : x.f1 = t) (htn : t < n) (ht0 : t ≠ 0) (hb : bl[t]? = some 0) : Pb ls n (V ++ [t]) (bl.set t ((k : Int) + 1)) := by
  have htV : t ∉ V := fun q => (h.is t htn).mpr ⟨q, ht0⟩ hb
  have hpl := (List.getElem?_eq_some_iff.1 hu).1
  have hl0 := (List.getElem?_eq_some_iff.1 h.v0).1
  refine ⟨nodup_snoc h.nd htV, fun y hy => ?_, ?_, by simp [h.lb], fun v hv => ?_, fun y hy => ?_, fun j v hj hj0 => ?_⟩
  · rcases List.mem_append.mp hy with q | q
    · exact h.lt y q
    · obtain rfl : y = t := by simpa using q
      exact htn
  · rw [List.getElem?_append_left (by omega)]
    exact h.v0
  · by_cases e : v = t
    · subst e
      rw [List.getElem?_set_self (by rw [h.lb]; exact htn)]
      refine iff_of_true (fun q => ?_) ⟨by simp, ht0⟩
      injection q with q
      omega
    · rw [List.getElem?_set_ne (fun q => e q.symm), h.is v hv]
      simp [e]
  · rcases List.mem_or_eq_of_mem_set hy with q | q
    · exact h.nn y q
    · omega
  · by_cases hlt : j < V.length
    · rw [List.getElem?_append_left hlt] at hj
      obtain ⟨j', k', y, q1, q2, q3, q4, q5, q6⟩ := h.back j v hj hj0
      refine ⟨j', k', y, q1, q2, ?_, ?_, q5, q6⟩
      · rw [List.getElem?_append_left (by omega)]; exact q3
      · rw [List.getElem?_set_ne (fun q => htV (by subst q; exact List.mem_of_getElem? hj))]
        exact q4
    · rw [List.getElem?_append_right (by omega)] at hj
      have hj2 := (List.getElem?_eq_some_iff.1 hj).1
      simp only [List.length_singleton] at hj2
      rw [show j - V.length = 0 by omega] at hj
      obtain rfl : t = v := by simpa using hj
      refine ⟨p, k, x, by omega, hx, ?_, ?_, ht, h1⟩
      · rw [List.getElem?_append_left hpl, hu, h0]
        simp
      · rw [List.getElem?_set_self (by rw [h.lb]; exact htn)]
theorem Dk.first (u : Nat) : Dk ls V u 0 := fun i x hi => by omega
theorem Dk.found {u k t : Nat} {x : S95} (h : Dk ls V u k) (hx : ls[k]? = some x) (ht : x.f1 = t) : Dk ls (V ++ [t]) u (k + 1) := fun i y hi hy a b => by
  by_cases e : i = k
  · subst e
    rw [hx] at hy
    cases hy
    rw [ht]
    simp
  · exact List.mem_append_left _ (h i y (by omega) hy a b)
theorem Dk.not {u k : Nat} {x : S95} (h : Dk ls V u k) (hx : ls[k]? = some x) (hn : x.f0 = u → 0 < x.f2 → x.f1.toNat ∈ V) : Dk ls V u (k + 1) := fun i y hi hy a b => by
  by_cases e : i = k
  · subst e
    rw [hx] at hy
    cases hy
    exact hn a b
  · exact h i y (by omega) hy a b
theorem Dn.next {p u k : Nat} (h : Dn ls V p) (hu : V[p]? = some u) (hk : Dk ls V u k) (hl : ls.length ≤ k) : Dn ls V (p + 1) := fun j v hj hv x hx a b => by
  by_cases e : j = p
  · subst e
    rw [hu] at hv
    cases hv
    obtain ⟨i, hi⟩ := List.mem_iff_getElem?.mp hx
    exact hk i x (by have := (List.getElem?_eq_some_iff.1 hi).1; omega) hi a b
  · exact h j v (by omega) hv x hx a b
/-- A way from the first node, its last step first. -/
def Wl (ls : List S95) (d : Nat → Nat) : Nat → List Int → Prop
  | v, [] => v = 0
  | v, i :: r => v ≠ 0 ∧ ∃ (k : Nat) (x : S95), i = k ∧ ls[k]? = some x ∧ x.f1 = v ∧ 0 < x.f2 ∧ d x.f0.toNat < d v ∧ Wl ls d x.f0.toNat r
/-- What the search returns. -/
def PathOk (ls : List S95) (last : Nat) (P : List Int) (b : Bool) : Prop :=
  (b = true → ∃ d, Wl ls d last P) ∧ (b = false → ∃ S : Nat → Prop, S 0 ∧ ¬ S last ∧ ∀ x ∈ ls, S x.f0.toNat → 0 < x.f2 → S x.f1.toNat)
/-- So much of the way is told. -/
def Wp (ls : List S95) (d : Nat → Nat) (last v : Nat) (P : List Int) : Prop := ∀ r, Wl ls d v r → Wl ls d last (P ++ r)
theorem Wp.first (ls : List S95) (d : Nat → Nat) (v : Nat) : Wp ls d v v [] := fun r h => h
theorem Wp.step {d : Nat → Nat} {last v k : Nat} {P : List Int} {x : S95} (h : Wp ls d last v P) (hv : v ≠ 0) (hx : ls[k]? = some x) (h1 : x.f1 = v) (h2 : 0 < x.f2) (h3 : d x.f0.toNat < d v) : Wp ls d last x.f0.toNat (P ++ [(k : Int)]) := fun r hr => by
  have := h ((k : Int) :: r) ⟨hv, k, x, rfl, hx, h1, h2, h3, hr⟩
  rw [List.append_assoc]
  exact this
theorem Pb.at_ (h : Pb ls n V bl) {v : Nat} (hv : v ∈ V) (h0 : v ≠ 0) : ∃ (k : Nat) (x : S95), ls[k]? = some x ∧ bl[v]? = some ((k : Int) + 1) ∧ x.f1 = v ∧ 0 < x.f2 ∧ x.f0.toNat ∈ V ∧ V.idxOf x.f0.toNat < V.idxOf v := by
  obtain ⟨j, hj⟩ := List.mem_iff_getElem?.mp hv
  have hj0 : 0 < j := by
    rcases Nat.eq_zero_or_pos j with e | e
    · subst e
      rw [h.v0] at hj
      exact absurd (Option.some.inj hj).symm h0
    · exact e
  obtain ⟨j', k, x, q1, q2, q3, q4, q5, q6⟩ := h.back j v hj hj0
  have idx_of : ∀ {k : Nat} {a : Nat}, V[k]? = some a → V.idxOf a = k := fun {k a} hk => by
    have h1 : V.idxOf a < V.length := List.idxOf_lt_length_of_mem (List.mem_of_getElem? hk)
    exact nodup_inj h.nd (by rw [List.getElem?_eq_getElem h1, List.getElem_idxOf h1]) hk
  exact ⟨k, x, q2, q4, q5, q6, List.mem_of_getElem? q3, by rw [idx_of q3, idx_of hj]; exact q1⟩
theorem Pb.closed (h : Pb ls n V bl) (hW : WsOk ls n) (hd : Dn ls V V.length) {last : Nat} (hl : last < n) (hb : bl[last]? = some 0) (hl0 : last ≠ 0) (P : List Int) : PathOk ls last P false := by
  refine ⟨fun q => (by cases q), fun _ => ⟨fun v => v ∈ V, List.mem_of_getElem? h.v0, fun q => (h.is last hl).mpr ⟨q, hl0⟩ hb, fun x hx a b => ?_⟩⟩
  obtain ⟨j, hj⟩ := List.mem_iff_getElem?.mp a
  have := hW x hx
  exact hd j _ (List.getElem?_eq_some_iff.1 hj).1 hj x hx (by omega) b
end
/-! ### In memory -/
structure Qm (w0 w : World) (gB cB n : Nat) (bl : List Int) (v7 : Value) (rw_ : List Int) : Prop where
  by_ : Kd.R kI 3 w w0.heap.size (fun _ => True) (.slice (some ⟨gB, 0, none⟩) n cB) bl
  row : Kd.R kI 3 w w0.heap.size (fun _ => True) v7 rw_
  ap : v7.ownBlock ≠ some gB
  bel : Below w0.heap.size w0 w
  size : w0.heap.size ≤ w.heap.size
section
variable {w0 w w' : World} {gB cB n : Nat} {bl : List Int} {v7 : Value} {rw_ : List Int}
theorem Qm.below (h : Qm w0 w gB cB n bl v7 rw_) (l : Below w.heap.size w w') : Qm w0 w' gB cB n bl v7 rw_ :=
  ⟨Kd.R_below h.by_ l, Kd.R_below h.row l, h.ap, below_step' h.bel h.size l, Nat.le_trans h.size l.size⟩
theorem Qm.set (h : Qm w0 w gB cB n bl v7 rw_) {i : Nat} {x : Int} (hi : bl[i]? = some x) :
    w.cell? ⟨gB, i * 1, none⟩ = some (.int .i64 x) ∧ w.frozen? ⟨gB, i * 1, none⟩ = false ∧ (∀ y : Int, ∃ w', w' = w.setCell ⟨gB, i * 1, none⟩ (.int .i64 y) ∧ Qm w0 w' gB cB n (bl.set i y) v7 rw_) := by
  obtain ⟨g, eA, hg, c1, fr, ⟨cells, hc⟩, st⟩ := rowI_at h.by_ hi
  injection eA with eA
  injection eA with eA
  subst eA
  refine ⟨c1, fr, fun y => ?_⟩
  obtain ⟨w', hw', R', g'⟩ := st y
  refine ⟨w', hw', R', ?_, h.ap, h.bel.grown g' h.size (fun z ez => by cases ez; exact hg), Nat.le_trans h.size g'.size⟩
  exact Kd.R_mono (Kd.R_grown (Kd.R_tight rfl h.row) g' (fun k hk ek => h.ap (by rw [← hk, ek]))) (fun _ _ => trivial)
end
end Go.Proofs.Ytmnjlnkfihklgaa.T
namespace Go.Proofs.Ytmnjlnkfihklgaa.T
open Go.RowKit Go.Proofs.YtmnjlnkfihklgaaW.PrintWords Go.Proofs.YtmnjlnkfihklgaaW.PrintMore
open Go.Proofs.Ytmnjlnkfihklgaa.P
set_option linter.unusedVariables false
set_option linter.unusedSimpArgs false

end Go.Proofs.Ytmnjlnkfihklgaa.T
namespace Go.Proofs.Ytmnjlnkfihklgaa.T
open Go.RowKit Go.Proofs.YtmnjlnkfihklgaaW.PrintWords Go.Proofs.YtmnjlnkfihklgaaW.PrintMore
open Go.Proofs.Ytmnjlnkfihklgaa.P
set_option linter.unusedVariables false
/-- The ways, with what flows. -/
def wayF (f : Nat → Int) : List Ed → Nat → List S95
  | [], _ => []
  | e :: r, k => ⟨e.fr, e.td, e.cap - f k⟩ :: ⟨e.td, e.fr, f k⟩ :: wayF f r (k + 1)
def hI (h : Nat × Bool) : Nat := 2 * h.1 + if h.2 then 0 else 1
theorem wayF_at (f : Nat → Int) : ∀ {E : List Ed} {k0 i : Nat} {e : Ed}, E[i]? = some e → (wayF f E k0)[2 * i]? = some ⟨e.fr, e.td, e.cap - f (k0 + i)⟩ ∧ (wayF f E k0)[2 * i + 1]? = some ⟨e.td, e.fr, f (k0 + i)⟩
  | [], _, _, _, h => by simp at h
  | a :: r, k0, 0, e, h => by
    obtain rfl : a = e := by simpa using h
    exact ⟨rfl, rfl⟩
  | a :: r, k0, i + 1, e, h => by
    have ih := wayF_at f (E := r) (k0 := k0 + 1) (i := i) (e := e) (by simpa using h)
    rw [show k0 + 1 + i = k0 + (i + 1) by omega] at ih
    refine ⟨?_, ?_⟩
    · rw [show 2 * (i + 1) = 2 * i + 1 + 1 by omega]
      simpa [wayF] using ih.1
    · rw [show 2 * (i + 1) + 1 = 2 * i + 1 + 1 + 1 by omega]
      simpa [wayF] using ih.2
theorem wayF_half {f : Nat → Int} {E : List Ed} {k : Nat} {e : Ed} (h : E[k]? = some e) (b : Bool) : (wayF f E 0)[hI (k, b)]? = some ⟨near e b, far e b, roomP E f (k, b)⟩ := by
  obtain ⟨h1, h2⟩ := wayF_at f (k0 := 0) h
  rw [Nat.zero_add] at h1 h2
  unfold hI roomP near far
  cases b
  · simp only [Bool.false_eq_true, if_false]
    exact h2
  · simp only [if_true, Nat.add_zero, getD_at h]
    exact h1
/-- A way, by the halves of its edges. -/
def Wh (E : List Ed) (f : Nat → Int) : Nat → List (Nat × Bool) → Prop
  | v, [] => v = 0
  | v, (k, b) :: r => v ≠ 0 ∧ ∃ e, E[k]? = some e ∧ far e b = v ∧ 0 < roomP E f (k, b) ∧ Wh E f (near e b) r
theorem wh_congr {E : List Ed} {f g : Nat → Int} : ∀ {H : List (Nat × Bool)} {v : Nat}, (∀ h ∈ H, roomP E g h = roomP E f h) → Wh E f v H → Wh E g v H
  | [], _, _, h => h
  | (k, b) :: r, v, hr, ⟨h1, e, h3, h4, h7, h8⟩ => ⟨h1, e, h3, h4, by rw [hr _ List.mem_cons_self]; exact h7, wh_congr (fun h hm => hr h (List.mem_cons_of_mem _ hm)) h8⟩
theorem wh_step {E : List Ed} {f : Nat → Int} {k : Nat} {b : Bool} {r : List (Nat × Bool)} {v : Nat} {e : Ed} (he : E[k]? = some e) (hf : far e b = v) (h0 : 0 < roomP E f (k, b)) (hw : Wh E f (near e b) r) (hnd : (((k, b) :: r).map Prod.fst).Nodup) (ho : FlowOk E f) :
    Wh E (upd f k (sgn b 1)) (near e b) r ∧ (r.map Prod.fst).Nodup ∧ FlowOk E (upd f k (sgn b 1)) ∧ ∀ u, exc (upd f k (sgn b 1)) u E 0 = exc f u E 0 + (if v = u then 1 else 0) - (if near e b = u then 1 else 0) := by
  rw [List.map_cons, List.nodup_cons] at hnd
  have hr : ∀ h ∈ r, roomP E (upd f k (sgn b 1)) h = roomP E f h := fun h hm => by
    obtain ⟨j, c⟩ := h
    exact room_upd_other c _ (fun q => hnd.1 (by subst q; exact List.mem_map.mpr ⟨_, hm, rfl⟩))
  refine ⟨wh_congr hr hw, hnd.2, fun j a ha => ?_, fun u => ?_⟩
  · by_cases q : j = k
    · subst q
      rw [he] at ha
      cases ha
      have h2 := ho j e he
      rw [upd_same]
      unfold roomP at h0
      rw [getD_at he] at h0
      cases b
      · simp only [sgn, Bool.false_eq_true, if_false] at h0 ⊢
        omega
      · simp only [sgn, if_true] at h0 ⊢
        omega
    · rw [upd_other f _ q]
      exact ho j a ha
  · have := exc_upd f u (sgn b 1) E 0 k e he
    rw [Nat.zero_add] at this
    rw [this]
    subst hf
    cases b
    · simp only [near, far, sgn, Bool.false_eq_true, if_false]
      split <;> split <;> omega
    · simp only [near, far, sgn, if_true]
/-! ### The two numberings of the nodes -/
theorem rN_lt {R T r m : Nat} (hr : r < R) (hm : m ≤ T) : 0 < rN R r m ∧ rN R r m < lastN R T := by
  have h1 := Nat.mul_le_mul_right R hm
  unfold rN lastN
  rw [Nat.mul_add, Nat.mul_one, Nat.mul_comm R T]
  omega
theorem rN_inj {R r m s k : Nat} (hr : r < R) (hs : s < R) (h : rN R r m = rN R s k) : r = s ∧ m = k := by
  unfold rN at h
  have h1 : (m * R + r) % R = (k * R + s) % R := by congr 1; omega
  have h2 : (m * R + r) / R = (k * R + s) / R := by congr 1; omega
  rw [Nat.mul_comm m R, Nat.mul_comm k R] at h1 h2
  rw [Nat.mul_add_mod, Nat.mul_add_mod, Nat.mod_eq_of_lt hr, Nat.mod_eq_of_lt hs] at h1
  rw [Nat.mul_add_div (by omega), Nat.mul_add_div (by omega), Nat.div_eq_of_lt hr, Nat.div_eq_of_lt hs] at h2
  exact ⟨h1, by omega⟩
theorem lastN_pos (R T : Nat) : 0 < lastN R T := by unfold lastN; omega
theorem xN_inj {R T v u : Nat} (hv : v < nodeN T R 0) (hu : u < nodeN T R 0) (h : xN R T v = xN R T u) : v = u := by
  have kind : ∀ v, v < nodeN T R 0 → v = 0 ∨ v = 1 ∨ ∃ r m, r < R ∧ m ≤ T ∧ v = nodeN T r m := fun v hv => by
    by_cases e0 : v = 0
    · exact .inl e0
    · by_cases e1 : v = 1
      · exact .inr (.inl e1)
      · exact .inr (.inr (node_of (by omega) hv))
  have lp := lastN_pos R T
  rcases kind v hv with rfl | rfl | ⟨r, m, hr, hm, rfl⟩
  · rcases kind u hu with rfl | rfl | ⟨s, k, hs, hk, rfl⟩
    · rfl
    · rw [xN_zero, xN_one] at h; omega
    · rw [xN_zero, xN_node hk] at h; have := rN_lt hs hk; omega
  · rcases kind u hu with rfl | rfl | ⟨s, k, hs, hk, rfl⟩
    · rw [xN_zero, xN_one] at h; omega
    · rfl
    · rw [xN_one, xN_node hk] at h; have := rN_lt hs hk; omega
  · rcases kind u hu with rfl | rfl | ⟨s, k, hs, hk, rfl⟩
    · rw [xN_zero, xN_node hm] at h; have := rN_lt hr hm; omega
    · rw [xN_one, xN_node hm] at h; have := rN_lt hr hm; omega
    · rw [xN_node hm, xN_node hk] at h
      obtain ⟨rfl, rfl⟩ := rN_inj hr hs h
      rfl
theorem exc_map {f : Nat → Int} {F : Ed → Ed} {g : Nat → Nat} {v : Nat} : ∀ {E : List Ed} {k : Nat}, (∀ e ∈ E, ((F e).fr = g v ↔ e.fr = v) ∧ ((F e).td = g v ↔ e.td = v)) → exc f (g v) (E.map F) k = exc f v E k
  | [], _, _ => rfl
  | e :: r, k, h => by
    have h1 := h e List.mem_cons_self
    simp only [List.map_cons, exc, exc_map (E := r) (k := k + 1) (fun x hx => h x (List.mem_cons_of_mem _ hx)), h1.1, h1.2]
section
variable {ps : List Int} {qs : List S45} {T : Nat} {f : Nat → Int}
theorem edX_at {k : Nat} {e : Ed} (h : (edH ps qs T)[k]? = some e) : (edX ps qs T)[k]? = some (xE ps T e) := by
  unfold edX
  rw [List.getElem?_map, h]
  rfl
theorem edX_exc (h : HOk ps qs) {v : Nat} (hv : v < nodeN T ps.length 0) : exc f (xN ps.length T v) (edX ps qs T) 0 = exc f v (edH ps qs T) 0 := by
  unfold edX
  refine exc_map (g := xN ps.length T) fun e he => ?_
  obtain ⟨h1, h2, _⟩ := edH_ok (T := T) h e he
  exact ⟨⟨fun q => xN_inj h1 hv q, fun q => by rw [← q]; rfl⟩, ⟨fun q => xN_inj h2 hv q, fun q => by rw [← q]; rfl⟩⟩
theorem allP_nonneg (h : HOk ps qs) : 0 ≤ allP ps := by
  unfold allP
  exact sumN_nonneg fun r hr => (h.p _ (getD_mem (z := 0) hr)).1
theorem edX_cap (h : HOk ps qs) : ∀ e ∈ edX ps qs T, 0 ≤ e.cap ∧ e.cap ≤ 1073741824 := by
  intro e he
  obtain ⟨a, ha, rfl⟩ := List.mem_map.mp he
  have h1 := edH_cap h a ha
  have h2 := allP_le h
  have h3 := allP_nonneg h
  unfold xE
  simp only
  split <;> omega
/-- Where the reference stands: so many are out. -/
structure Xf (ps : List Int) (qs : List S45) (T : Nat) (f : Nat → Int) (n : Int) : Prop where
  ok : FlowOk (edX ps qs T) f
  calm : ∀ v, v ≠ 0 → v ≠ lastN ps.length T → exc f v (edX ps qs T) 0 = 0
  out : exc f (lastN ps.length T) (edX ps qs T) 0 = n
theorem Xf.first (h : HOk ps qs) : Xf ps qs T (fun _ => 0) 0 := ⟨fun k e he => ⟨Int.le_refl _, (edX_cap h e (List.mem_of_getElem? he)).1⟩, fun v _ _ => exc_zero v _ 0, exc_zero _ _ 0⟩
theorem Xf.hflow {n : Int} (X : Xf ps qs T f n) (h : HOk ps qs) : HFlow ps qs T f n := by
  refine ⟨fun k e he => (X.ok k _ (edX_at he)).1, fun k e he hc => ?_, fun v hv h0 h1 => ?_, ?_⟩
  · have := (X.ok k _ (edX_at he)).2
    unfold xE at this
    simp only at this
    rw [if_neg (fun z => by rcases hc with q | q; exact z.1 q; exact q z.2)] at this
    exact this
  · rw [← edX_exc h hv]
    have lp := lastN_pos ps.length T
    refine X.calm _ (fun e => h0 ?_) (fun e => h1 ?_)
    · exact xN_inj hv (by have := one_lt ps T; omega) (e.trans (xN_zero _ _).symm)
    · exact xN_inj hv (one_lt ps T) (e.trans (xN_one _ _).symm)
  · rw [← edX_exc h (one_lt ps T), xN_one]
    exact X.out
theorem Xf.le {n : Int} (X : Xf ps qs T f n) (h : HOk ps qs) : n ≤ allP ps := (X.hflow h).out_le h
theorem bound_all (h : HOk ps qs) : boundU ps qs T (fun _ => T + 1) = allP ps := by
  unfold boundU allP
  rw [sumQ_congr (b := fun _ _ => 0), sumQ_zero, Int.add_zero]
  · exact sumN_congr fun r _ => if_pos (Nat.succ_pos T)
  · intro i k _ hk
    exact if_neg (fun z => by have h1 : T + 1 ≤ k := z.1; omega)
theorem Xf.most {n : Int} (X : Xf ps qs T f n) (h : HOk ps qs) (S : Nat → Prop) (h0 : S 0) (h1 : ¬ S (lastN ps.length T)) (hc : ∀ x ∈ wayF f (edX ps qs T) 0, S x.f0.toNat → 0 < x.f2 → S x.f1.toNat) : IsMost ps qs T n := by
  have F := X.hflow h
  have half : ∀ (k : Nat) (e : Ed), (edX ps qs T)[k]? = some e → ∀ b, S (near e b) → ¬ S (far e b) → roomP (edX ps qs T) f (k, b) ≤ 0 := by
    intro k e he b hs ht
    have := hc _ (List.mem_of_getElem? (wayF_half (f := f) he b))
    simp only [Int.toNat_natCast] at this
    by_cases q : 0 < roomP (edX ps qs T) f (k, b)
    · exact absurd (this hs q) ht
    · omega
  have cut : ∀ (k : Nat) (e : Ed), (edH ps qs T)[k]? = some e → (S (xN ps.length T e.fr) → ¬ S (xN ps.length T e.td) → f k = (xE ps T e).cap) ∧ (¬ S (xN ps.length T e.fr) → S (xN ps.length T e.td) → f k = 0) := by
    intro k e he
    have hx := edX_at he
    have hok := X.ok k _ hx
    refine ⟨fun a b => ?_, fun a b => ?_⟩
    · have := half k _ hx true a b
      unfold roomP at this
      rw [getD_at hx] at this
      simp only [if_true] at this
      omega
    · have := half k _ hx false b a
      unfold roomP at this
      simp only [Bool.false_eq_true, if_false] at this
      omega
  by_cases sat : ∃ r m k, r < ps.length ∧ m < T ∧ (edH ps qs T)[k]? = some (holdE T r m) ∧ f k = allP ps
  · obtain ⟨r, m, k, hr, hm, hk, e⟩ := sat
    have a1 := F.hold_le h hm hk
    have a2 := F.out_le h
    obtain rfl : n = allP ps := by omega
    exact ⟨⟨_, F.use h⟩, fun _ => T + 1, fun _ _ => Nat.le_refl _, bound_all h⟩
  · have up : ∀ r m, r < ps.length → m < T → S (rN ps.length r m) → S (rN ps.length r (m + 1)) := by
      intro r m hr hm hs
      refine Classical.byContradiction fun q => ?_
      obtain ⟨k, hk⟩ := hold_mem (qs := qs) hr hm
      have c1 := (cut k _ hk).1
      have hn := nodeN_two T r m
      unfold holdE at c1
      simp only [xN_node (show m ≤ T by omega), xN_node (show m + 1 ≤ T by omega)] at c1
      have := c1 hs q
      unfold xE at this
      simp only at this
      rw [if_pos ⟨by omega, trivial⟩] at this
      exact sat ⟨r, m, k, hr, hm, hk, this⟩
    have ups : ∀ r m, r < ps.length → S (rN ps.length r m) → ∀ j, m + j ≤ T → S (rN ps.length r (m + j)) := by
      intro r m hr hi j
      induction j with
      | zero => intro _; exact hi
      | succ j ih =>
        intro hj
        exact up r (m + j) hr (by omega) (ih (by omega))
    have hx : ∀ r, ∃ h, h ≤ T + 1 ∧ (∀ m, m < h → ¬ S (rN ps.length r m)) ∧ (h ≤ T → S (rN ps.length r h)) := fun r => first_of (fun m => S (rN ps.length r m)) T
    have hsp := fun r => Classical.choose_spec (hx r)
    refine ⟨⟨_, F.use h⟩, fun r => Classical.choose (hx r), fun r _ => (hsp r).1, ?_⟩
    refine F.most h (fun v => S (xN ps.length T v)) (by rw [xN_zero]; exact h0) (by rw [xN_one]; exact h1) _ (fun r m hr hm => ?_) (fun k e he => ?_)
    · rw [xN_node hm]
      obtain ⟨q1, q2, q3⟩ := hsp r
      constructor
      · intro q
        have := ups r _ hr (q3 (by omega)) (m - Classical.choose (hx r)) (by omega)
        rw [show Classical.choose (hx r) + (m - Classical.choose (hx r)) = m by omega] at this
        exact this
      · intro q
        by_cases z : Classical.choose (hx r) ≤ m
        · exact z
        · exact absurd q (q2 m (by omega))
    · refine ⟨fun a b => ?_, (cut k e he).2⟩
      have c1 := (cut k e he).1 a b
      rw [c1]
      unfold xE
      simp only
      by_cases z : e.fr ≠ 0 ∧ e.up = -1
      · refine absurd ?_ sat
        rcases List.mem_append.mp (List.mem_of_getElem? he) with hm | hm
        · obtain ⟨r, hr, rfl | ⟨m, hm', rfl⟩⟩ := edRs_mem hm
          · exact absurd rfl z.1
          · refine ⟨r, m, k, hr, hm', he, ?_⟩
            rw [c1]
            unfold xE
            simp only
            exact if_pos ⟨z.1, trivial⟩
        · obtain ⟨i, m, hi, hm', rfl⟩ := edQs_mem hm
          have := z.2
          simp only at this
          omega
      · rw [if_neg z]
end
end Go.Proofs.Ytmnjlnkfihklgaa.T
namespace Go.Proofs.Ytmnjlnkfihklgaa.T
open Go.RowKit Go.Proofs.YtmnjlnkfihklgaaW.PrintWords Go.Proofs.YtmnjlnkfihklgaaW.PrintMore
open Go.Proofs.Ytmnjlnkfihklgaa.P
set_option linter.unusedVariables false
set_option linter.unusedSimpArgs false

/-- A flow, and one more who is on the way to a node. -/
structure Xg (E : List Ed) (last : Nat) (f g : Nat → Int) (v : Nat) (H : List (Nat × Bool)) : Prop where
  wh : Wh E g v H
  nd : (H.map Prod.fst).Nodup
  ok : FlowOk E g
  exc : ∀ u, exc g u E 0 = T.exc f u E 0 + (if last = u then 1 else 0) - (if v = u then 1 else 0)
theorem Xg.step {E : List Ed} {last : Nat} {f g : Nat → Int} {k : Nat} {b : Bool} {r : List (Nat × Bool)} {v : Nat} {e : Ed} (X : Xg E last f g v ((k, b) :: r)) (he : E[k]? = some e) : Xg E last f (upd g k (sgn b 1)) (near e b) r := by
  obtain ⟨_, e', he', hf, h0, hw⟩ := X.wh
  rw [he] at he'
  cases he'
  obtain ⟨q1, q2, q3, q4⟩ := wh_step he hf h0 hw X.nd X.ok
  refine ⟨q1, q2, q3, fun u => ?_⟩
  rw [q4, X.exc]
  omega
theorem Xg.last {ps : List Int} {qs : List S45} {T v : Nat} {f g : Nat → Int} {n : Int} (X : Xg (edX ps qs T) (lastN ps.length T) f g v []) (F : Xf ps qs T f n) : Xf ps qs T g (n + 1) := by
  have h0 : v = 0 := X.wh
  subst h0
  have lp := lastN_pos ps.length T
  refine ⟨X.ok, fun u h1 h2 => ?_, ?_⟩
  · rw [X.exc, F.calm u h1 h2, if_neg (fun e => h2 e.symm), if_neg (fun e => h1 e.symm)]
    rfl
  · rw [X.exc, F.out, if_pos rfl, if_neg (by omega)]
    omega
end Go.Proofs.Ytmnjlnkfihklgaa.T
namespace Go.Proofs.Ytmnjlnkfihklgaa.T
open Go.RowKit Go.Proofs.YtmnjlnkfihklgaaW.PrintWords Go.Proofs.YtmnjlnkfihklgaaW.PrintMore
open Go.Proofs.Ytmnjlnkfihklgaa.P
set_option linter.unusedVariables false
set_option linter.unusedSimpArgs false

theorem isPl_all' {ps : List Int} {qs : List S45} {T : Nat} {l : List S35} (h : IsPl ps qs T l) : ∀ x ∈ l, MvOk qs T x := fun x hx => by
  obtain ⟨i, hi⟩ := List.mem_iff_getElem?.mp hx
  exact (h.mv i x hi).1

/-- Up to a later minute there are no fewer. -/
theorem sumN_more {a : Nat → Int} (h : ∀ k, 0 ≤ a k) {n : Nat} : ∀ {m}, n ≤ m → sumN a n ≤ sumN a m
  | 0, hm => by rw [show n = 0 by omega]; exact Int.le_refl _
  | m + 1, hm => by
    by_cases e : n = m + 1
    · rw [e]; exact Int.le_refl _
    · have h1 := sumN_more h (n := n) (m := m) (by omega)
      have h2 := h m
      simp only [sumN]
      omega
theorem bound_later {ps : List Int} {qs : List S45} (h : HOk ps qs) {T V : Nat} (hTV : T ≤ V) (hr : Nat → Nat) : boundU ps qs T hr ≤ boundU ps qs V hr := by
  unfold boundU
  refine Int.add_le_add_left ?_ _
  unfold sumQ
  refine sumN_le fun i hi => sumN_more (fun k => ?_) (by omega)
  have := (h.q _ (getD_mem (z := z45) hi)).2.2.2.2.2.1
  dsimp only
  split
  · exact this
  · exact Int.le_refl _
theorem most_later {ps : List Int} {qs : List S45} (h : HOk ps qs) {T V : Nat} {N M : Int} (hTV : T ≤ V) (a : IsMost ps qs T N) (b : IsMost ps qs V M) : N ≤ M := by
  obtain ⟨⟨u, hu, eu⟩, _⟩ := a
  obtain ⟨_, hr, _, er⟩ := b
  have h1 := use_le h hu hr
  have h2 := bound_later h hTV hr
  omega
set_option maxRecDepth 100000 in
set_option maxHeartbeats 8000000 in

theorem goneF_calls (ps : List Int) (qs : List S45) (A B : Option Addr) (c d : Nat) (w : World) (hP : Kd.C kI w A ps.length ps) (hQ : Kd.C k45 w B qs.length qs) (hn1 : ps.length ≤ 1000000) (hn2 : qs.length ≤ 1000000) (C : Option Addr) (k : Nat) (l : List S35) (hX : Kd.C k35 w C l.length l) (hn : l.length ≤ 1000000) (m0 : Int) :
    Calls Try.prog 17 #[hv ps qs A B c d, .int .i64 m0, .slice C l.length k] w fun e w' => ∃ N E, e = .returned (.tuple #[.int .i64 N, .int .i64 E]) ∧ GoneR ps qs m0 l N E ∧ Below w.heap.size w w' := by
  haveI : Decidable (IsPl ps qs m0.toNat l) := Classical.propDecidable _
  have hu3 := Try.underlying3
  have hu25 := Try.underlying25
  have hu26 := Try.underlying26
  obtain ⟨z3, o3⟩ := info_some info3s (by decide)
  obtain ⟨z25, o25⟩ := info_some info25s (by decide)
  refine E.enter (N := 23) Try.func17 rfl Try.ntmps17 (args := [hv ps qs A B c d, .int .i64 m0, .slice C l.length k]) (by simp) ?_
  have L := Below.refl w.heap.size w
  refine E.CG.seq ?_
  refine E.CG.list ?_
  refine E.GL.st rfl rfl rfl (E.ST.box rfl rfl fun g3 w3 e3 b3 l3 => ?_)
  have h3_L : w.heap.size ≤ g3 := by rw [e3]; exact L.size
  replace L := below_step L l3
  refine E.GL.run rfl rfl rfl (E.Runs.assign rfl rfl) ?_
  refine E.GL.run rfl rfl rfl (E.Runs.assign rfl rfl) ?_
  refine E.GL.done ?_
  refine E.QG.code ?_
  refine E.CG.seq ?_
  refine E.CG.seq ?_
  refine E.CG.list ?_
  refine E.GL.run rfl rfl rfl (E.Runs.loads (cs := [.slice A ps.length c, .slice B qs.length d]) rfl rfl hu25 rfl info25s (blk_cells b3)) ?_
  refine E.GL.run rfl rfl rfl (E.Runs.move rfl rfl) ?_
  refine E.GL.st rfl rfl rfl (E.ST.call rfl ent48 (E.evc rfl (E.evc rfl E.evn)) ((chk48 ps qs A B c d _ (Kd.C_below hP L) (Kd.C_below hQ L) hn1 hn2 m0).mono ?_))
  rintro e w11 ⟨rfl, l11⟩
  refine ⟨_, rfl, ?_⟩
  replace b3 := blk_below b3 l11
  replace L := below_step L l11
  refine E.GL.run rfl rfl rfl (E.Runs.assign rfl rfl) ?_
  refine E.GL.done ?_
  refine E.QG.code ?_
  refine E.CG.seq ?_
  refine E.CG.list ?_
  refine E.GL.run rfl rfl rfl (E.Runs.move rfl rfl) ?_
  refine E.GL.cmpn rfl rfl rfl (fun _ h => (E.Runs.neq rfl rfl rfl h)) (fun h13 => ?_) (fun h13 => ?_)
  · refine E.GL.done ?_
    refine E.QG.code ?_
    refine E.CG.cond_t rfl ?_
    refine E.CG.seq ?_
    refine E.CG.list ?_
    refine E.GL.run rfl rfl rfl (E.Runs.move rfl rfl) ?_
    refine E.GL.run rfl rfl rfl (E.Runs.assign rfl rfl) ?_
    refine E.GL.run rfl rfl rfl (E.Runs.assign rfl rfl) ?_
    refine E.GL.done ?_
    refine E.QG.code ?_
    refine E.CG.ret ?_
    refine E.QG.pass_ret ?_
    exact E.QG.result2 rfl rfl rfl ⟨_, _, rfl, ⟨fun _ => ⟨rfl, rfl⟩, fun k => absurd k h13⟩, L⟩
  · have hE := h13
    obtain ⟨hH, hm0, hm1⟩ := chkE_ok.mp h13
    obtain ⟨T, rfl⟩ : ∃ T : Nat, m0 = T := ⟨m0.toNat, by omega⟩
    have hT : T ≤ 60 := by omega
    refine E.GL.done ?_
    refine E.QG.code ?_
    refine E.CG.cond_f rfl ?_
    refine E.CG.skip ?_
    refine E.QG.code ?_
    refine E.CG.seq ?_
    refine E.CG.seq ?_
    refine E.CG.list ?_
    refine E.GL.run rfl rfl rfl (E.Runs.loads (cs := [.slice A ps.length c, .slice B qs.length d]) rfl rfl hu25 rfl info25s (blk_cells b3)) ?_
    refine E.GL.run rfl rfl rfl (E.Runs.move rfl rfl) ?_
    refine E.GL.run rfl rfl rfl (E.Runs.move rfl rfl) ?_
    by_cases h18 : IsPl ps qs T l
    · refine E.GL.st rfl rfl rfl (E.ST.call rfl ent33 (E.evc rfl (E.evc rfl (E.evc rfl E.evn))) ((isPlan_calls ps qs A B C c d k T l true hH (iff_of_true rfl h18) _ (Kd.C_below hP L) (Kd.C_below hQ L) (Kd.C_below hX L) hn hT).mono ?_))
      rintro e w18 ⟨rfl, l18⟩
      refine ⟨_, rfl, ?_⟩
      replace b3 := blk_below b3 l18
      replace L := below_step L l18
      refine E.GL.run rfl rfl rfl (E.Runs.not rfl rfl) ?_
      refine E.GL.done ?_
      refine E.QG.code ?_
      refine E.CG.cond_f rfl ?_
      refine E.CG.skip ?_
      refine E.QG.code ?_
      refine E.CG.seq ?_
      refine E.CG.list ?_
      refine E.GL.run rfl rfl rfl (E.Runs.loads (cs := [.slice A ps.length c, .slice B qs.length d]) rfl rfl hu25 rfl info25s (blk_cells b3)) ?_
      refine E.GL.run rfl rfl rfl (E.Runs.move rfl rfl) ?_
      refine E.GL.st rfl rfl rfl (E.ST.call rfl ent49 (E.evc rfl (E.evc rfl E.evn)) ((out_calls ps qs A B C c d k l _ (Kd.C_below hQ L) (Kd.C_below hX L) hn (fun x hx => by obtain ⟨q1, q2, q3, q4, q5⟩ := isPl_all' h18 x hx; unfold inR at q2; omega)).mono ?_))
      rintro e w22 ⟨rfl, l22⟩
      refine ⟨_, rfl, ?_⟩
      replace b3 := blk_below b3 l22
      replace L := below_step L l22
      refine E.GL.run rfl rfl rfl (E.Runs.assign rfl rfl) ?_
      refine E.GL.run rfl rfl rfl (E.Runs.assign rfl rfl) ?_
      refine E.GL.done ?_
      refine E.QG.code ?_
      refine E.CG.ret ?_
      exact E.QG.result2 rfl rfl rfl ⟨_, _, rfl, ⟨fun k => absurd hE k, fun _ => ⟨fun _ => ⟨rfl, rfl⟩, fun k => absurd h18 (by rw [Int.toNat_natCast] at k; exact k)⟩⟩, L⟩
    · refine E.GL.st rfl rfl rfl (E.ST.call rfl ent33 (E.evc rfl (E.evc rfl (E.evc rfl E.evn))) ((isPlan_calls ps qs A B C c d k T l false hH (iff_of_false Bool.false_ne_true h18) _ (Kd.C_below hP L) (Kd.C_below hQ L) (Kd.C_below hX L) hn hT).mono ?_))
      rintro e w18 ⟨rfl, l18⟩
      refine ⟨_, rfl, ?_⟩
      replace b3 := blk_below b3 l18
      replace L := below_step L l18
      refine E.GL.run rfl rfl rfl (E.Runs.not rfl rfl) ?_
      refine E.GL.done ?_
      refine E.QG.code ?_
      refine E.CG.cond_t rfl ?_
      refine E.CG.seq ?_
      refine E.CG.list ?_
      refine E.GL.run rfl rfl rfl (E.Runs.assign rfl rfl) ?_
      refine E.GL.run rfl rfl rfl (E.Runs.assign rfl rfl) ?_
      refine E.GL.done ?_
      refine E.QG.code ?_
      refine E.CG.ret ?_
      refine E.QG.pass_ret ?_
      exact E.QG.result2 rfl rfl rfl ⟨_, _, rfl, ⟨fun k => absurd hE k, fun _ => ⟨fun k => absurd (by rw [Int.toNat_natCast] at k; exact k) h18, fun _ => ⟨rfl, rfl⟩⟩⟩, L⟩

end Go.Proofs.Ytmnjlnkfihklgaa.T
namespace Go.Proofs.Ytmnjlnkfihklgaa.T
open Go.RowKit Go.Proofs.YtmnjlnkfihklgaaW.PrintWords Go.Proofs.YtmnjlnkfihklgaaW.PrintMore
open Go.Proofs.Ytmnjlnkfihklgaa.P
set_option linter.unusedVariables false
abbrev eP : List Int := [5, 4]
abbrev eQ : List S45 := [⟨0, 1, 2, 1⟩, ⟨0, -1, 1, 2⟩, ⟨1, -1, 3, 1⟩, ⟨1, 0, 1, 1⟩]
def uL : List (Nat × Nat × Int) → Nat → Nat → Int
  | [], _, _ => 0
  | (a, b, c) :: r, i, k => if a = i ∧ b = k then c else uL r i k
theorem use_of {ps : List Int} {qs : List S45} {T : Nat} {u : Nat → Nat → Int} (h : ∀ i, i < qs.length → ∀ k, k < T + 1 → k + (qs.getD i z45).f3.toNat < T + 1 → 0 ≤ u i k ∧ u i k ≤ (qs.getD i z45).f2) (h2 : ∀ r, r < ps.length → ∀ m, m < T + 1 → 0 ≤ thereU ps qs T u r m) : Use ps qs T u :=
  ⟨fun i k hi hk => h i hi k (by omega) hk, fun r m hr hm => h2 r hr m (by omega)⟩
def hrL (l : List Nat) (r : Nat) : Nat := l.getD r 0
theorem eOk : HOk eP eQ := by decide
set_option maxRecDepth 100000 in
theorem eMost2 : IsMost eP eQ 2 7 := ⟨⟨uL [(0, 0, 2), (1, 0, 1), (2, 0, 3), (2, 1, 3)], use_of (by decide) (by decide), by decide⟩, hrL [0, 0], by decide, by decide⟩
set_option maxRecDepth 100000 in
theorem eMost3 : IsMost eP eQ 3 9 := ⟨⟨uL [(0, 0, 2), (0, 1, 1), (1, 0, 1), (1, 1, 1), (2, 0, 3), (2, 1, 3), (2, 2, 1)], use_of (by decide) (by decide), by decide⟩, hrL [2, 3], by decide, by decide⟩
set_option maxRecDepth 100000 in
theorem eShut0 : IsMost eP (shutQ eQ 0) 3 6 := ⟨⟨uL [(1, 0, 1), (1, 1, 1), (2, 0, 3), (2, 1, 1)], use_of (by decide) (by decide), by decide⟩, hrL [0, 3], by decide, by decide⟩
set_option maxRecDepth 100000 in
theorem eShut1 : IsMost eP (shutQ eQ 1) 3 8 := ⟨⟨uL [(0, 0, 2), (0, 1, 2), (2, 0, 3), (2, 1, 3), (2, 2, 2)], use_of (by decide) (by decide), by decide⟩, hrL [0, 3], by decide, by decide⟩
set_option maxRecDepth 100000 in
theorem eShut2 : IsMost eP (shutQ eQ 2) 3 2 := ⟨⟨uL [(1, 0, 1), (1, 1, 1)], use_of (by decide) (by decide), by decide⟩, hrL [0, 0], by decide, by decide⟩
set_option maxRecDepth 100000 in
theorem eShut3 : IsMost eP (shutQ eQ 3) 3 9 := ⟨⟨uL [(0, 0, 2), (0, 1, 1), (1, 0, 1), (1, 1, 1), (2, 0, 3), (2, 1, 3), (2, 2, 1)], use_of (by decide) (by decide), by decide⟩, hrL [2, 3], by decide, by decide⟩
theorem eAll : allP eP = 9 := by decide
theorem eChk (m : Int) (h : inR m 0 60) : chkE eP eQ m = 0 := chkE_ok.mpr ⟨eOk, h⟩
theorem eMostR {N : Int} (h : MostR eP eQ 2 N) : N = 7 := (h.1 (eChk 2 (by decide))).one eOk eMost2
theorem eEmptyR {N E : Int} (h : EmptyR eP eQ N E) : N = 3 ∧ E = 0 := by
  rcases h.2 eOk with ⟨t, h1, h2, h3, h4, h5⟩ | ⟨h1, h2, h3⟩
  · refine ⟨?_, h3⟩
    rw [h2]
    rcases Nat.lt_trichotomy t 3 with q | q | q
    · have := most_later eOk (show t ≤ 2 by omega) h4 eMost2
      rw [eAll] at this
      omega
    · omega
    · exact absurd (by rw [eAll]; exact eMost3) (h5 3 q)
  · exact absurd (by rw [eAll]; exact eMost3) (h3 3 (by omega))
theorem eNeed : needL eP eQ 3 4 = [0, 1, 2] := by
  have a0 : needP eP eQ 3 0 := ⟨6, eShut0, by decide⟩
  have a1 : needP eP eQ 3 1 := ⟨8, eShut1, by decide⟩
  have a2 : needP eP eQ 3 2 := ⟨2, eShut2, by decide⟩
  have a3 : ¬ needP eP eQ 3 3 := fun ⟨M, h1, h2⟩ => by
    have := IsMost.one (shutQ_ok eOk (by decide)) h1 eShut3
    rw [eAll] at h2
    omega
  rw [needL_no a3, needL_yes a2, needL_yes a1, needL_yes a0]
  rfl
theorem eNeedR {l : List Int} (h : NeedR eP eQ 3 l) : l = [0, 1, 2] := (h.1 (eChk 3 (by decide))).trans eNeed
abbrev eL : List S35 := [⟨0, 0, 2⟩, ⟨0, 1, 1⟩, ⟨0, 2, 3⟩, ⟨1, 2, 3⟩]
theorem isPl_of {ps : List Int} {qs : List S45} {T : Nat} {l : List S35} (h : ∀ i, i < l.length → Mv1 qs T l i (l.getD i ⟨0, 0, 0⟩)) (h2 : ∀ r, r < ps.length → ∀ m, m < T + 1 → 0 ≤ thM ps qs l r m) : IsPl ps qs T l :=
  ⟨fun i x hx => by
    have hi := (List.getElem?_eq_some_iff.1 hx).1
    have := h i hi
    rw [show l.getD i ⟨0, 0, 0⟩ = x by simp [List.getD_eq_getElem?_getD, hx]] at this
    exact this, fun r m hr hm => h2 r hr m (by omega)⟩
instance (qs : List S45) (T : Int) (x : S35) : Decidable (MvOk qs T x) := by unfold MvOk; infer_instance
instance (qs : List S45) (T : Int) (l : List S35) (i : Nat) (x : S35) : Decidable (Mv1 qs T l i x) := by unfold Mv1; infer_instance
set_option maxRecDepth 100000 in
theorem ePlan : IsPl eP eQ 2 eL := isPl_of (by decide) (by decide)
theorem eGoneR {N E : Int} (h : GoneR eP eQ 2 eL N E) : N = 7 ∧ E = 0 := by
  obtain ⟨h1, h2⟩ := (h.2 (eChk 2 (by decide))).1 ePlan
  refine ⟨?_, h2⟩
  rw [h1]
  decide
end Go.Proofs.Ytmnjlnkfihklgaa.T
namespace Go.Proofs.Ytmnjlnkfihklgaa.T
open Go.RowKit Go.Proofs.YtmnjlnkfihklgaaW.PrintWords Go.Proofs.YtmnjlnkfihklgaaW.PrintMore
open Go.Proofs.Ytmnjlnkfihklgaa.P
set_option linter.unusedVariables false
set_option linter.unusedSimpArgs false

def big (ps : List Int) (qs : List S45) : Prop := 40 < ps.length ∨ 40 < qs.length
instance (ps : List Int) (qs : List S45) : Decidable (big ps qs) := by unfold big; infer_instance
def farH (ps : List Int) (qs : List S45) : Prop := big ps qs ∨ HOk ps qs ∧ (3 < ps.length ∨ 5 < qs.length ∨ 12 < allP ps)
instance (ps : List Int) (qs : List S45) : Decidable (farH ps qs) := by unfold farH; infer_instance
def late (m : Int) : Prop := 10 < m ∧ m ≤ 60
instance (m : Int) : Decidable (late m) := by unfold late; infer_instance
def ready (ps : List Int) (qs : List S45) (m : Int) : Prop := ¬ farH ps qs ∧ ¬ late m ∧ HOk ps qs ∧ 0 ≤ m ∧ m ≤ 60
instance (ps : List Int) (qs : List S45) (m : Int) : Decidable (ready ps qs m) := by unfold ready; infer_instance
theorem not_big {ps : List Int} {qs : List S45} (h : ¬ big ps qs) : ps.length ≤ 40 ∧ qs.length ≤ 40 := by unfold big at h; omega
/-- Whole numbers written out, in a block of ours. -/
theorem C_nums {w : World} {g : Nat} (l : List Int) (hb : w.heap[g]? = some (.cells (l.map (Value.int .i64)).toArray 3 (0, 0))) (hn : l.length ≤ 1000000) : Kd.C kI w (some ⟨g, 0, none⟩) l.length l := by
  refine ⟨rfl, by omega, fun _ => ⟨_, rfl, ?_⟩⟩
  intro j p hj
  refine ⟨[.int .i64 p], rfl, rfl, fun i u hu => ?_⟩
  have hi : i < 1 := (List.getElem?_eq_some_iff.1 hu).1
  obtain rfl : i = 0 := by omega
  cases hu
  rw [Addr.add_mid, blk_cell hb]
  simp [hj, show kI.sz = 1 from rfl]
set_option maxRecDepth 100000 in
set_option maxHeartbeats 8000000 in

theorem huge_calls (ps : List Int) (qs : List S45) (A B : Option Addr) (c d : Nat) (w : World) (r : Bool) (hb : r = true ↔ big ps qs) :
    Calls Try.prog 11 #[hv ps qs A B c d] w fun e w' => e = .returned (.bool r) ∧ Below w.heap.size w w' := by
  unfold big at hb
  have hu3 := Try.underlying3
  have hu22 := Try.underlying22
  have hu23 := Try.underlying23
  have hu25 := Try.underlying25
  obtain ⟨z22, o22⟩ := info_some info22s (by decide)
  obtain ⟨z23, o23⟩ := info_some info23s (by decide)
  refine E.enter (N := 13) Try.func11 rfl Try.ntmps11 (args := [hv ps qs A B c d]) (by simp) ?_
  have L := Below.refl w.heap.size w
  refine E.CG.seq ?_
  refine E.CG.list ?_
  refine E.GL.st rfl rfl rfl (E.ST.box rfl rfl fun g1 w1 e1 b1 l1 => ?_)
  have h1_L : w.heap.size ≤ g1 := by rw [e1]; exact L.size
  replace L := below_step L l1
  refine E.GL.run rfl rfl rfl (E.Runs.assign rfl rfl) ?_
  refine E.GL.done ?_
  refine E.QG.code ?_
  refine E.CG.seq ?_
  refine E.CG.list ?_
  refine E.GL.run rfl rfl rfl (E.Runs.fieldAddr rfl rfl hu25 rfl (by assumption) rfl) ?_
  refine E.GL.run rfl rfl rfl (E.Runs.load1 rfl rfl hu22 rfl (by first | assumption | exact E.blkc (by assumption) rfl | exact pw_cell_below L (by assumption))) ?_
  refine E.GL.run rfl rfl rfl (E.Runs.len rfl rfl hu22) ?_
  refine E.GL.cmp rfl rfl rfl (fun _ h => (E.Runs.gtr rfl rfl rfl h)) (fun h6 => ?_) (fun h6 => ?_)
  · refine E.GL.run rfl rfl rfl (E.Runs.move rfl rfl) ?_
    refine E.GL.skip rfl rfl rfl ?_
    refine E.GL.skip rfl rfl rfl ?_
    refine E.GL.skip rfl rfl rfl ?_
    refine E.GL.skip rfl rfl rfl ?_
    refine E.GL.run rfl rfl rfl (E.Runs.pick_t rfl rfl rfl) ?_
    refine E.GL.run rfl rfl rfl (E.Runs.assign rfl rfl) ?_
    refine E.GL.done ?_
    refine E.QG.code ?_
    refine E.CG.ret ?_
    exact E.QG.result rfl rfl ⟨by rw [hb.mpr (by omega)], L⟩
  · refine E.GL.run rfl rfl rfl (E.Runs.move rfl rfl) ?_
    refine E.GL.run rfl rfl rfl (E.Runs.fieldAddr rfl rfl hu25 rfl (by assumption) rfl) ?_
    refine E.GL.run rfl rfl rfl (E.Runs.load1 rfl rfl hu23 rfl (by first | assumption | exact E.blkc (by assumption) rfl | exact pw_cell_below L (by assumption))) ?_
    refine E.GL.run rfl rfl rfl (E.Runs.len rfl rfl hu23) ?_
    refine E.GL.cmp rfl rfl rfl (fun _ h => (E.Runs.gtr rfl rfl rfl h)) (fun h11 => ?_) (fun h11 => ?_)
    · refine E.GL.run rfl rfl rfl (E.Runs.pick_f rfl rfl rfl) ?_
      refine E.GL.run rfl rfl rfl (E.Runs.assign rfl rfl) ?_
      refine E.GL.done ?_
      refine E.QG.code ?_
      refine E.CG.ret ?_
      exact E.QG.result rfl rfl ⟨by rw [hb.mpr (by omega)], L⟩
    · refine E.GL.run rfl rfl rfl (E.Runs.pick_f rfl rfl rfl) ?_
      refine E.GL.run rfl rfl rfl (E.Runs.assign rfl rfl) ?_
      refine E.GL.done ?_
      refine E.QG.code ?_
      refine E.CG.ret ?_
      exact E.QG.result rfl rfl ⟨by rw [bool_no hb (by omega)], L⟩

set_option maxRecDepth 100000 in
set_option maxHeartbeats 8000000 in

theorem same_calls (l k : List Int) (A A1 : Option Addr) (c c1 : Nat) (w : World) (r : Bool) (hb : r = true ↔ l = k) (h1 : Kd.C kI w A l.length l) (h2 : Kd.C kI w A1 k.length k) (hn : l.length ≤ 1000000) :
    Calls Try.prog 18 #[.slice A l.length c, .slice A1 k.length c1] w fun e w' => e = .returned (.bool r) ∧ Below w.heap.size w w' := by
  have hu3 := Try.underlying3
  have hu22 := Try.underlying22
  obtain ⟨z3, o3⟩ := info_some info3s (by decide)
  refine E.enter (N := 26) Try.func18 rfl Try.ntmps18 (args := [.slice A l.length c, .slice A1 k.length c1]) (by simp) ?_
  have L := Below.refl w.heap.size w
  refine E.CG.seq ?_
  refine E.CG.list ?_
  refine E.GL.run rfl rfl rfl (E.Runs.assign rfl rfl) ?_
  refine E.GL.done ?_
  refine E.QG.code ?_
  refine E.CG.seq ?_
  refine E.CG.seq ?_
  refine E.CG.list ?_
  refine E.GL.run rfl rfl rfl (E.Runs.move rfl rfl) ?_
  refine E.GL.run rfl rfl rfl (E.Runs.len rfl rfl hu22) ?_
  refine E.GL.run rfl rfl rfl (E.Runs.move rfl rfl) ?_
  refine E.GL.run rfl rfl rfl (E.Runs.len rfl rfl hu22) ?_
  refine E.GL.cmpn rfl rfl rfl (fun _ h => (E.Runs.neq rfl rfl rfl h)) (fun h10 => ?_) (fun h10 => ?_)
  · refine E.GL.done ?_
    refine E.QG.code ?_
    refine E.CG.cond_t rfl ?_
    refine E.CG.seq ?_
    refine E.CG.list ?_
    refine E.GL.run rfl rfl rfl (E.Runs.assign rfl rfl) ?_
    refine E.GL.done ?_
    refine E.QG.code ?_
    refine E.CG.ret ?_
    refine E.QG.pass_ret ?_
    exact E.QG.result rfl rfl ⟨by rw [bool_no hb (fun e => h10 (by rw [e]))], L⟩
  · refine E.GL.done ?_
    refine E.QG.code ?_
    refine E.CG.cond_f rfl ?_
    refine E.CG.skip ?_
    refine E.QG.code ?_
    refine E.CG.seq ?_
    refine E.CG.seq ?_
    refine E.CG.list ?_
    refine E.GL.run rfl rfl rfl (E.Runs.assign rfl rfl) ?_
    refine E.GL.done ?_
    refine E.QG.code ?_
    refine E.CG.block ?_
    have s4_L := L
    refine E.CG.loop (fun (i : Nat) => [(0, .slice A l.length c), (1, .slice A1 k.length c1), (5, .int .i64 i)]) (fun i w' => i ≤ l.length ∧ Below w.heap.size w w' ∧ ∀ j, j < i → l[j]? = k[j]?) (fun i => l.length - i) 0 (E.subc rfl (E.subc rfl (E.subc rfl E.subn))) ⟨Nat.zero_le _, L, fun j hj => by omega⟩ ?_
    rintro i w4 ⟨hi, L, hs⟩
    refine E.CG.seq ?_
    refine E.CG.seq ?_
    refine E.CG.list ?_
    refine E.GL.run rfl rfl rfl (E.Runs.move rfl rfl) ?_
    refine E.GL.run rfl rfl rfl (E.Runs.move rfl rfl) ?_
    refine E.GL.run rfl rfl rfl (E.Runs.len rfl rfl hu22) ?_
    refine E.GL.cmp rfl rfl rfl (fun _ h => (E.Runs.lss rfl rfl rfl h)) (fun h14 => ?_) (fun h14 => ?_)
    · obtain ⟨x, hx⟩ : ∃ x, l[i]? = some x := ⟨_, List.getElem?_eq_getElem (by omega)⟩
      obtain ⟨ad, eA, X⟩ := int_at h1 hx
      obtain ⟨y, hy⟩ : ∃ x, k[i]? = some x := ⟨_, List.getElem?_eq_getElem (by omega)⟩
      obtain ⟨ae, eB, Y⟩ := int_at h2 hy
      have hik : (i : Int) < l.length := by omega
      have hik2 : (i : Int) < k.length := by omega
      refine E.GL.done ?_
      refine E.QG.code ?_
      refine E.CG.cond_t rfl ?_
      refine E.CG.skip ?_
      refine E.QG.code ?_
      refine E.CG.seq ?_
      refine E.CG.block ?_
      refine E.CG.seq ?_
      refine E.CG.quietF (by kernel_rfl) rfl (by kernel_rfl) (by kernel_rfl) ?_
      refine E.GQ.run rfl rfl rfl (E.Runs.move rfl rfl) ?_
      refine E.GQ.run rfl rfl rfl (E.Runs.move rfl rfl) ?_
      refine E.GQ.run rfl rfl rfl (E.Runs.indexAddrA rfl rfl rfl hu22 (by assumption) (by assumption) (by assumption) (by first | rfl | assumption) rfl) ?_
      refine E.GQ.run rfl rfl rfl (E.Runs.load rfl rfl hu3 (by first | assumption | exact E.blkc (by assumption) rfl | exact pw_cell_below L (by assumption))) ?_
      refine E.GQ.run rfl rfl rfl (E.Runs.move rfl rfl) ?_
      refine E.GQ.run rfl rfl rfl (E.Runs.move rfl rfl) ?_
      refine E.GQ.run rfl rfl rfl (E.Runs.indexAddrA rfl rfl rfl hu22 (by assumption) (by assumption) (by assumption) (by first | rfl | assumption) rfl) ?_
      refine E.GQ.run rfl rfl rfl (E.Runs.load rfl rfl hu3 (by first | assumption | exact E.blkc (by assumption) rfl | exact pw_cell_below L (by assumption))) ?_
      refine E.GQ.cmpn rfl rfl rfl (fun _ h => (E.Runs.neq rfl rfl rfl h)) (fun h25 => ?_) (fun h25 => ?_)
      · refine E.GQ.doneB fun v6 lD => ?_
        replace L := below_step L lD
        have lD6 := lD
        clear lD
        refine E.QG.code ?_
        refine E.CG.cond_t rfl ?_
        refine E.CG.seq ?_
        refine E.CG.list ?_
        refine E.GL.run rfl rfl rfl (E.Runs.assign rfl rfl) ?_
        refine E.GL.done ?_
        refine E.QG.code ?_
        refine E.CG.ret ?_
        refine E.QG.block_ret ?_
        refine E.QG.pass_ret ?_
        refine E.QG.pass_ret ?_
        refine E.QG.block_ret ?_
        refine E.QG.pass_ret ?_
        exact E.QG.result rfl rfl ⟨by rw [bool_no hb (fun e => by subst e; rw [hx] at hy; cases hy; exact h25 rfl)], L⟩
      · refine E.GQ.doneB fun v6 lD => ?_
        replace L := below_step L lD
        have lD6 := lD
        clear lD
        refine E.QG.code ?_
        refine E.CG.cond_f rfl ?_
        refine E.CG.skip ?_
        refine E.QG.block_normal ?_
        refine E.QG.code ?_
        refine E.CG.list ?_
        refine E.GL.run rfl rfl rfl (E.Runs.move rfl rfl) ?_
        refine E.GL.run rfl rfl rfl (E.Runs.add rfl rfl rfl (IntWalk.i64_in _ (by omega))) ?_
        refine E.GL.run rfl rfl rfl (E.Runs.assign rfl rfl) ?_
        refine E.GL.done ?_
        exact E.QG.round (i + 1) (E.subc rfl (E.subc rfl (E.subc rfl E.subn))) ⟨by omega, L, fun j hj => (Nat.lt_or_ge j i).elim (hs j) (fun q => (show j = i by omega) ▸ (by rw [hx, hy, h25]))⟩ (by omega)
    · refine E.GL.done ?_
      refine E.QG.code ?_
      refine E.CG.cond_f rfl ?_
      refine E.CG.exit ?_
      refine E.QG.pass_exit ?_
      refine E.QG.pass_exit ?_
      refine E.QG.block_here ?_
      refine E.QG.code ?_
      refine E.CG.seq ?_
      refine E.CG.list ?_
      refine E.GL.run rfl rfl rfl (E.Runs.assign rfl rfl) ?_
      refine E.GL.done ?_
      refine E.QG.code ?_
      refine E.CG.ret ?_
      exact E.QG.result rfl rfl ⟨by rw [hb.mpr (List.ext_getElem? fun j => (Nat.lt_or_ge j i).elim (hs j) (fun q => by rw [List.getElem?_eq_none (by omega), List.getElem?_eq_none (by omega)]))], L⟩

end Go.Proofs.Ytmnjlnkfihklgaa.T
namespace Go.Proofs.Ytmnjlnkfihklgaa.T
open Go.RowKit Go.Proofs.YtmnjlnkfihklgaaW.PrintWords Go.Proofs.YtmnjlnkfihklgaaW.PrintMore
open Go.Proofs.Ytmnjlnkfihklgaa.P
set_option linter.unusedVariables false
set_option linter.unusedSimpArgs false

/-- A row of structs written out, in a block of ours. -/
theorem flat_get {α : Type} (enc : α → List Value) (sz : Nat) (hsz : ∀ x, (enc x).length = sz) : ∀ (l : List α) (j i : Nat) (p : α), l[j]? = some p → i < sz → (l.flatMap enc)[j * sz + i]? = (enc p)[i]?
  | [], j, i, p, h, _ => by simp at h
  | x :: l, 0, i, p, h, hi => by
    obtain rfl : x = p := by simpa using h
    rw [List.flatMap_cons, Nat.zero_mul, Nat.zero_add, List.getElem?_append_left (by rw [hsz]; exact hi)]
  | x :: l, j + 1, i, p, h, hi => by
    rw [List.flatMap_cons, List.getElem?_append_right (by rw [hsz, Nat.add_mul]; omega), hsz, show (j + 1) * sz + i - sz = j * sz + i by rw [Nat.add_mul]; omega]
    exact flat_get enc sz hsz l j i p (by simpa using h) hi
theorem C_flat {α : Type} (d : Kd α) (enc : α → List Value) (hsz : ∀ x, (enc x).length = d.sz) (hK : ∀ (w : World) x, d.K w x (enc x)) {w : World} {g e : Nat} (l : List α) (hl : l.length ≤ 1000000) (hb : w.heap[g]? = some (.cells (l.flatMap enc).toArray e (0, 0))) : Kd.C d w (some ⟨g, 0, none⟩) l.length l := by
  refine ⟨rfl, by omega, fun _ => ⟨_, rfl, ?_⟩⟩
  intro j p hj
  refine ⟨enc p, hsz p, hK w p, fun i u hu => ?_⟩
  have hi : i < d.sz := by rw [← hsz p]; exact (List.getElem?_eq_some_iff.1 hu).1
  rw [Addr.add_mid, Nat.zero_add, blk_cell hb]
  rw [List.getElem?_toArray, flat_get enc d.sz hsz l j i p hj hi]
  exact hu
def four45 (x : S45) : List Value := [.int .i64 x.f0, .int .i64 x.f1, .int .i64 x.f2, .int .i64 x.f3]
def three35 (x : S35) : List Value := [.int .i64 x.f0, .int .i64 x.f1, .int .i64 x.f2]
theorem C_45 {w : World} {g : Nat} (l : List S45) (hl : l.length ≤ 1000000) (hb : w.heap[g]? = some (.cells (l.flatMap four45).toArray 45 (0, 0))) : Kd.C k45 w (some ⟨g, 0, none⟩) l.length l := C_flat k45 four45 (fun _ => rfl) (fun w x => k45_mk w x) l hl hb
theorem C_35 {w : World} {g : Nat} (l : List S35) (hl : l.length ≤ 1000000) (hb : w.heap[g]? = some (.cells (l.flatMap three35).toArray 35 (0, 0))) : Kd.C k35 w (some ⟨g, 0, none⟩) l.length l := C_flat k35 three35 (fun _ => rfl) (fun w x => k35_mk w x) l hl hb
set_option maxRecDepth 100000 in
theorem lit22_2 (W : World) : (Instr.buildSlice 22 2 #[(0, .int .i64 5), (1, .int .i64 4)]).run Try.prog W = .ok (.slice (some ⟨W.heap.size, 0, none⟩) 2 2) (W.alloc (.cells #[.int .i64 5, .int .i64 4] 3 (0, 0))) := by
  have hu22 := Try.underlying22
  go_simp
set_option maxRecDepth 100000 in
theorem lit22_3 (W : World) : (Instr.buildSlice 22 3 #[(0, .int .i64 0), (1, .int .i64 1), (2, .int .i64 2)]).run Try.prog W = .ok (.slice (some ⟨W.heap.size, 0, none⟩) 3 3) (W.alloc (.cells #[.int .i64 0, .int .i64 1, .int .i64 2] 3 (0, 0))) := by
  have hu22 := Try.underlying22
  go_simp
set_option maxRecDepth 100000 in
theorem lit23_4 (W : World) : (Instr.buildSlice 23 4 #[(0, .agg #[.int .i64 0, .int .i64 1, .int .i64 2, .int .i64 1]), (1, .agg #[.int .i64 0, .int .i64 (-1), .int .i64 1, .int .i64 2]), (2, .agg #[.int .i64 1, .int .i64 (-1), .int .i64 3, .int .i64 1]), (3, .agg #[.int .i64 1, .int .i64 0, .int .i64 1, .int .i64 1])]).run Try.prog W = .ok (.slice (some ⟨W.heap.size, 0, none⟩) 4 4) (W.alloc (.cells (eQ.flatMap four45).toArray 45 (0, 0))) := by
  have hu23 := Try.underlying23
  go_simp
  rfl
set_option maxRecDepth 100000 in
theorem lit26_4 (W : World) : (Instr.buildSlice 26 4 #[(0, .agg #[.int .i64 0, .int .i64 0, .int .i64 2]), (1, .agg #[.int .i64 0, .int .i64 1, .int .i64 1]), (2, .agg #[.int .i64 0, .int .i64 2, .int .i64 3]), (3, .agg #[.int .i64 1, .int .i64 2, .int .i64 3])]).run Try.prog W = .ok (.slice (some ⟨W.heap.size, 0, none⟩) 4 4) (W.alloc (.cells (eL.flatMap three35).toArray 35 (0, 0))) := by
  have hu26 := Try.underlying26
  go_simp
  rfl
set_option maxRecDepth 100000 in
theorem build45 (a b c d : Int) (W : World) : (Instr.build 45 #[(0, .int .i64 a), (1, .int .i64 b), (2, .int .i64 c), (3, .int .i64 d)]).run Try.prog W = .ok (.agg #[.int .i64 a, .int .i64 b, .int .i64 c, .int .i64 d]) W := by
  have hu3 := Try.underlying3
  have hu45 := Try.underlying45
  go_simp
set_option maxRecDepth 100000 in
theorem build35a (c : Int) (W : World) : (Instr.build 35 #[(2, .int .i64 c)]).run Try.prog W = .ok (.agg #[.int .i64 0, .int .i64 0, .int .i64 c]) W := by
  have hu3 := Try.underlying3
  have hu35 := Try.underlying35
  go_simp
set_option maxRecDepth 100000 in
theorem build35b (b c : Int) (W : World) : (Instr.build 35 #[(1, .int .i64 b), (2, .int .i64 c)]).run Try.prog W = .ok (.agg #[.int .i64 0, .int .i64 b, .int .i64 c]) W := by
  have hu3 := Try.underlying3
  have hu35 := Try.underlying35
  go_simp
set_option maxRecDepth 100000 in
theorem build35c (a b c : Int) (W : World) : (Instr.build 35 #[(0, .int .i64 a), (1, .int .i64 b), (2, .int .i64 c)]).run Try.prog W = .ok (.agg #[.int .i64 a, .int .i64 b, .int .i64 c]) W := by
  have hu3 := Try.underlying3
  have hu35 := Try.underlying35
  go_simp
set_option maxRecDepth 100000 in
set_option maxHeartbeats 8000000 in

theorem example_calls (w : World) :
    Calls Try.prog 37 #[] w fun e w' => ∃ A B c d, e = .returned (hv eP eQ A B c d) ∧ Kd.C kI w' A eP.length eP ∧ Kd.C k45 w' B eQ.length eQ ∧ Below w.heap.size w w' := by
  have hu25 := Try.underlying25
  refine E.enter (N := 8) Try.func37 rfl Try.ntmps37 (args := []) (by simp) ?_
  have L := Below.refl w.heap.size w
  refine E.CG.seq ?_
  refine E.CG.list ?_
  refine E.GL.st rfl rfl rfl (E.ST.alloc rfl info25z fun g0 w0 e0 b0 l0 => ?_)
  have h0_L : w.heap.size ≤ g0 := by rw [e0]; exact L.size
  replace L := below_step L l0
  refine E.GL.done ?_
  refine E.QG.code ?_
  refine E.CG.seq ?_
  refine E.CG.list ?_
  refine E.GL.st rfl rfl rfl (E.ST.litB (cs := (([5, 4] : List Int).map (Value.int .i64)).toArray) rfl (E.epc rfl (E.epc rfl E.epn)) lit22_2 fun g1 w1 e1 b1 l1 => ?_)
  have h1_L : w.heap.size ≤ g1 := by rw [e1]; exact L.size
  have n1_b0 : g0 ≠ g1 := by have := blk_lt b0; omega
  replace b0 := blk_below b0 l1
  replace L := below_step L l1
  refine E.GL.run rfl rfl rfl (E.Runs.build rfl (E.epc rfl (E.epc rfl (E.epc rfl (E.epc rfl E.epn)))) (build45 _ _ _ _)) ?_
  refine E.GL.run rfl rfl rfl (E.Runs.build rfl (E.epc rfl (E.epc rfl (E.epc rfl (E.epc rfl E.epn)))) (build45 _ _ _ _)) ?_
  refine E.GL.run rfl rfl rfl (E.Runs.build rfl (E.epc rfl (E.epc rfl (E.epc rfl (E.epc rfl E.epn)))) (build45 _ _ _ _)) ?_
  refine E.GL.run rfl rfl rfl (E.Runs.build rfl (E.epc rfl (E.epc rfl (E.epc rfl (E.epc rfl E.epn)))) (build45 _ _ _ _)) ?_
  refine E.GL.st rfl rfl rfl (E.ST.litB (cs := (eQ.flatMap four45).toArray) rfl (E.epc rfl (E.epc rfl (E.epc rfl (E.epc rfl E.epn)))) lit23_4 fun g6 w6 e6 b6 l6 => ?_)
  have h6_L : w.heap.size ≤ g6 := by rw [e6]; exact L.size
  have n6_b0 : g0 ≠ g6 := by have := blk_lt b0; omega
  have n6_b1 : g1 ≠ g6 := by have := blk_lt b1; omega
  replace b0 := blk_below b0 l6
  replace b1 := blk_below b1 l6
  replace L := below_step L l6
  refine E.GL.run rfl rfl rfl (E.Runs.build rfl (E.epc rfl (E.epc rfl E.epn)) (build25 _ _ _ _ _ _)) ?_
  refine E.GL.store_whole rfl rfl rfl rfl rfl b0 rfl info25s (slices_one _ _ _ _ _ _) fun wS1_7 c0 lS1_7 => ?_
  replace b1 := blk_grown b1 lS1_7 (E.nes (by first | assumption | exact Ne.symm (by assumption)))
  replace b6 := blk_grown b6 lS1_7 (E.nes (by first | assumption | exact Ne.symm (by assumption)))
  replace L := E.below_own L h0_L lS1_7
  replace b0 := c0
  clear c0
  refine E.GL.done ?_
  refine E.QG.code ?_
  refine E.CG.ret ?_
  exact E.QG.result_c rfl rfl b0 hu25 rfl info25s ⟨_, _, _, _, rfl, C_nums [5, 4] b1 (by decide), C_45 eQ (by decide) b6, L⟩

set_option maxRecDepth 100000 in
set_option maxHeartbeats 8000000 in

theorem works_calls (w : World) :
    Calls Try.prog 12 #[] w fun e w' => e = .returned (.bool true) ∧ Below w.heap.size w w' := by
  have hu3 := Try.underlying3
  have hu22 := Try.underlying22
  have hu25 := Try.underlying25
  have hu26 := Try.underlying26
  refine E.enter (N := 67) Try.func12 rfl Try.ntmps12 (args := []) (by simp) ?_
  have L := Below.refl w.heap.size w
  refine E.CG.seq ?_
  refine E.CG.list ?_
  refine E.GL.run rfl rfl rfl (E.Runs.assign rfl rfl) ?_
  refine E.GL.done ?_
  refine E.QG.code ?_
  refine E.CG.seq ?_
  refine E.CG.list ?_
  refine E.GL.st rfl rfl rfl (E.ST.call rfl ent37 E.evn ((example_calls _).mono ?_))
  rintro e w10 ⟨A, B, c, d, rfl, hC, hD, l10⟩
  refine ⟨_, rfl, ?_⟩
  replace L := below_step L l10
  have lo := Below.refl w10.heap.size w10
  refine E.GL.st rfl rfl rfl (E.ST.alloc rfl info25z fun g1 w1 e1 b1 l1 => ?_)
  have h1_L : w.heap.size ≤ g1 := by rw [e1]; exact L.size
  have h1_lo : w10.heap.size ≤ g1 := by rw [e1]; exact lo.size
  replace L := below_step L l1
  replace lo := below_step lo l1
  refine E.GL.store_whole rfl rfl rfl rfl rfl b1 rfl info25s (slices_one _ _ _ _ _ _) fun wS1_2 c1 lS1_2 => ?_
  replace L := E.below_own L h1_L lS1_2
  replace lo := E.below_own lo h1_lo lS1_2
  replace b1 := c1
  clear c1
  refine E.GL.done ?_
  refine E.QG.code ?_
  refine E.CG.seq ?_
  refine E.CG.list ?_
  refine E.GL.run rfl rfl rfl (E.Runs.loads (cs := [.slice A 2 c, .slice B 4 d]) rfl rfl hu25 rfl info25s (blk_cells b1)) ?_
  refine E.GL.st rfl rfl rfl (E.ST.call rfl ent28 (E.evc rfl (E.evc rfl E.evn)) ((most_calls eP eQ A B c d _ (Kd.C_below hC lo) (Kd.C_below hD lo) (by decide) (by decide) 2).mono ?_))
  rintro e w13 ⟨N13, rfl, hN13, l13⟩
  refine ⟨_, rfl, ?_⟩
  replace b1 := blk_below b1 l13
  replace L := below_step L l13
  replace lo := below_step lo l13
  obtain rfl := eMostR hN13
  rw [eChk 2 (by decide)]
  refine E.GL.run rfl rfl rfl (E.Runs.move rfl rfl) ?_
  refine E.GL.run rfl rfl rfl (E.Runs.extract rfl rfl rfl) ?_
  refine E.GL.run rfl rfl rfl (E.Runs.extract rfl rfl rfl) ?_
  refine E.GL.run rfl rfl rfl (E.Runs.assign rfl rfl) ?_
  refine E.GL.run rfl rfl rfl (E.Runs.assign rfl rfl) ?_
  refine E.GL.done ?_
  refine E.QG.code ?_
  refine E.CG.seq ?_
  refine E.CG.list ?_
  refine E.GL.run rfl rfl rfl (E.Runs.loads (cs := [.slice A 2 c, .slice B 4 d]) rfl rfl hu25 rfl info25s (blk_cells b1)) ?_
  refine E.GL.st rfl rfl rfl (E.ST.call rfl ent21 (E.evc rfl E.evn) ((empty_calls eP eQ A B c d _ (Kd.C_below hC lo) (Kd.C_below hD lo) (by decide) (by decide)).mono ?_))
  rintro e w18 ⟨N18, E18, rfl, hE18, l18⟩
  refine ⟨_, rfl, ?_⟩
  replace b1 := blk_below b1 l18
  replace L := below_step L l18
  replace lo := below_step lo l18
  obtain ⟨rfl, rfl⟩ := eEmptyR hE18
  refine E.GL.run rfl rfl rfl (E.Runs.move rfl rfl) ?_
  refine E.GL.run rfl rfl rfl (E.Runs.extract rfl rfl rfl) ?_
  refine E.GL.run rfl rfl rfl (E.Runs.extract rfl rfl rfl) ?_
  refine E.GL.run rfl rfl rfl (E.Runs.assign rfl rfl) ?_
  refine E.GL.run rfl rfl rfl (E.Runs.assign rfl rfl) ?_
  refine E.GL.done ?_
  refine E.QG.code ?_
  refine E.CG.seq ?_
  refine E.CG.list ?_
  refine E.GL.run rfl rfl rfl (E.Runs.loads (cs := [.slice A 2 c, .slice B 4 d]) rfl rfl hu25 rfl info25s (blk_cells b1)) ?_
  refine E.GL.st rfl rfl rfl (E.ST.call rfl ent25 (E.evc rfl (E.evc rfl E.evn)) ((needed_calls eP eQ A B c d _ (Kd.C_below hC lo) (Kd.C_below hD lo) (by decide) (by decide) 3).mono ?_))
  rintro e w23 ⟨v23, l23, rfl, R23, hL23, l23⟩
  refine ⟨_, rfl, ?_⟩
  replace b1 := blk_below b1 l23
  replace L := below_step L l23
  replace lo := below_step lo l23
  have lx := Below.refl w23.heap.size w23
  obtain rfl := eNeedR hL23
  rw [eChk 3 (by decide)]
  obtain ⟨A23, c23, hv23⟩ := Kd.R_slice R23
  subst hv23
  obtain ⟨_, _, C23⟩ := Kd.R_reads' R23
  refine E.GL.run rfl rfl rfl (E.Runs.move rfl rfl) ?_
  refine E.GL.run rfl rfl rfl (E.Runs.extract rfl rfl rfl) ?_
  refine E.GL.run rfl rfl rfl (E.Runs.extract rfl rfl rfl) ?_
  refine E.GL.run rfl rfl rfl (E.Runs.assign rfl rfl) ?_
  refine E.GL.run rfl rfl rfl (E.Runs.assign rfl rfl) ?_
  refine E.GL.done ?_
  refine E.QG.code ?_
  refine E.CG.seq ?_
  refine E.CG.list ?_
  refine E.GL.run rfl rfl rfl (E.Runs.loads (cs := [.slice A 2 c, .slice B 4 d]) rfl rfl hu25 rfl info25s (blk_cells b1)) ?_
  refine E.GL.run rfl rfl rfl (E.Runs.build rfl (E.epc rfl E.epn) (build35a _)) ?_
  refine E.GL.run rfl rfl rfl (E.Runs.build rfl (E.epc rfl (E.epc rfl E.epn)) (build35b _ _)) ?_
  refine E.GL.run rfl rfl rfl (E.Runs.build rfl (E.epc rfl (E.epc rfl E.epn)) (build35b _ _)) ?_
  refine E.GL.run rfl rfl rfl (E.Runs.build rfl (E.epc rfl (E.epc rfl (E.epc rfl E.epn))) (build35c _ _ _)) ?_
  refine E.GL.st rfl rfl rfl (E.ST.litB (cs := (eL.flatMap three35).toArray) rfl (E.epc rfl (E.epc rfl (E.epc rfl (E.epc rfl E.epn)))) lit26_4 fun g32 w32 e32 b32 l32 => ?_)
  have h32_L : w.heap.size ≤ g32 := by rw [e32]; exact L.size
  have h32_lo : w10.heap.size ≤ g32 := by rw [e32]; exact lo.size
  have h32_lx : w23.heap.size ≤ g32 := by rw [e32]; exact lx.size
  have n32_b1 : g1 ≠ g32 := by have := blk_lt b1; omega
  replace b1 := blk_below b1 l32
  replace L := below_step L l32
  replace lo := below_step lo l32
  replace lx := below_step lx l32
  refine E.GL.st rfl rfl rfl (E.ST.call rfl ent16 (E.evc rfl (E.evc rfl (E.evc rfl E.evn))) ((goneP_calls eP eQ A B _ c d 4 2 eL _ (Kd.C_below hC lo) (Kd.C_below hD lo) (C_35 eL (by decide) b32) (by decide) (by decide) (by decide)).mono ?_))
  rintro e w33 ⟨N33, E33, rfl, hG33, l33⟩
  refine ⟨_, rfl, ?_⟩
  replace b1 := blk_below b1 l33
  replace b32 := blk_below b32 l33
  replace L := below_step L l33
  replace lo := below_step lo l33
  replace lx := below_step lx l33
  obtain ⟨rfl, rfl⟩ := eGoneR hG33
  refine E.GL.run rfl rfl rfl (E.Runs.move rfl rfl) ?_
  refine E.GL.run rfl rfl rfl (E.Runs.extract rfl rfl rfl) ?_
  refine E.GL.run rfl rfl rfl (E.Runs.extract rfl rfl rfl) ?_
  refine E.GL.run rfl rfl rfl (E.Runs.assign rfl rfl) ?_
  refine E.GL.run rfl rfl rfl (E.Runs.assign rfl rfl) ?_
  refine E.GL.done ?_
  refine E.QG.code ?_
  refine E.CG.seq ?_
  refine E.CG.list ?_
  refine E.GL.run rfl rfl rfl (E.Runs.move rfl rfl) ?_
  refine E.GL.run rfl rfl rfl (E.Runs.eql rfl rfl rfl (decide_eq_true rfl)) ?_
  refine E.GL.run rfl rfl rfl (E.Runs.move rfl rfl) ?_
  refine E.GL.run rfl rfl rfl (E.Runs.move rfl rfl) ?_
  refine E.GL.run rfl rfl rfl (E.Runs.eql rfl rfl rfl (decide_eq_true rfl)) ?_
  refine E.GL.run rfl rfl rfl (E.Runs.pick_t rfl rfl rfl) ?_
  refine E.GL.run rfl rfl rfl (E.Runs.move rfl rfl) ?_
  refine E.GL.run rfl rfl rfl (E.Runs.move rfl rfl) ?_
  refine E.GL.run rfl rfl rfl (E.Runs.eql rfl rfl rfl (decide_eq_true rfl)) ?_
  refine E.GL.run rfl rfl rfl (E.Runs.pick_t rfl rfl rfl) ?_
  refine E.GL.run rfl rfl rfl (E.Runs.move rfl rfl) ?_
  refine E.GL.run rfl rfl rfl (E.Runs.move rfl rfl) ?_
  refine E.GL.run rfl rfl rfl (E.Runs.eql rfl rfl rfl (decide_eq_true rfl)) ?_
  refine E.GL.run rfl rfl rfl (E.Runs.pick_t rfl rfl rfl) ?_
  refine E.GL.run rfl rfl rfl (E.Runs.move rfl rfl) ?_
  refine E.GL.run rfl rfl rfl (E.Runs.move rfl rfl) ?_
  refine E.GL.run rfl rfl rfl (E.Runs.eql rfl rfl rfl (decide_eq_true rfl)) ?_
  refine E.GL.run rfl rfl rfl (E.Runs.pick_t rfl rfl rfl) ?_
  refine E.GL.run rfl rfl rfl (E.Runs.move rfl rfl) ?_
  refine E.GL.run rfl rfl rfl (E.Runs.move rfl rfl) ?_
  refine E.GL.run rfl rfl rfl (E.Runs.eql rfl rfl rfl (decide_eq_true rfl)) ?_
  refine E.GL.run rfl rfl rfl (E.Runs.pick_t rfl rfl rfl) ?_
  refine E.GL.run rfl rfl rfl (E.Runs.move rfl rfl) ?_
  refine E.GL.run rfl rfl rfl (E.Runs.move rfl rfl) ?_
  refine E.GL.st rfl rfl rfl (E.ST.litB (cs := (([0, 1, 2] : List Int).map (Value.int .i64)).toArray) rfl (E.epc rfl (E.epc rfl (E.epc rfl E.epn))) lit22_3 fun g60 w60 e60 b60 l60 => ?_)
  have h60_L : w.heap.size ≤ g60 := by rw [e60]; exact L.size
  have h60_lo : w10.heap.size ≤ g60 := by rw [e60]; exact lo.size
  have h60_lx : w23.heap.size ≤ g60 := by rw [e60]; exact lx.size
  have n60_b1 : g1 ≠ g60 := by have := blk_lt b1; omega
  have n60_b32 : g32 ≠ g60 := by have := blk_lt b32; omega
  replace b1 := blk_below b1 l60
  replace b32 := blk_below b32 l60
  replace L := below_step L l60
  replace lo := below_step lo l60
  replace lx := below_step lx l60
  refine E.GL.st rfl rfl rfl (E.ST.call rfl ent18 (E.evc rfl (E.evc rfl E.evn)) ((same_calls [0, 1, 2] [0, 1, 2] A23 _ c23 3 _ true (by simp) (Kd.C_below C23 lx) (C_nums [0, 1, 2] b60 (by decide)) (by decide)).mono ?_))
  rintro e w61 ⟨rfl, l61⟩
  refine ⟨_, rfl, ?_⟩
  replace b1 := blk_below b1 l61
  replace b32 := blk_below b32 l61
  replace b60 := blk_below b60 l61
  replace L := below_step L l61
  replace lo := below_step lo l61
  replace lx := below_step lx l61
  refine E.GL.run rfl rfl rfl (E.Runs.pick_t rfl rfl rfl) ?_
  refine E.GL.run rfl rfl rfl (E.Runs.move rfl rfl) ?_
  refine E.GL.run rfl rfl rfl (E.Runs.move rfl rfl) ?_
  refine E.GL.run rfl rfl rfl (E.Runs.eql rfl rfl rfl (decide_eq_true rfl)) ?_
  refine E.GL.run rfl rfl rfl (E.Runs.pick_t rfl rfl rfl) ?_
  refine E.GL.run rfl rfl rfl (E.Runs.assign rfl rfl) ?_
  refine E.GL.done ?_
  refine E.QG.code ?_
  refine E.CG.ret ?_
  exact E.QG.result rfl rfl ⟨rfl, L⟩

end Go.Proofs.Ytmnjlnkfihklgaa.T
namespace Go.Proofs.Ytmnjlnkfihklgaa.T
open Go.RowKit Go.Proofs.YtmnjlnkfihklgaaW.PrintWords Go.Proofs.YtmnjlnkfihklgaaW.PrintMore
open Go.Proofs.Ytmnjlnkfihklgaa.P
set_option linter.unusedVariables false
set_option linter.unusedSimpArgs false

theorem goneR_one {ps : List Int} {qs : List S45} {m : Int} {l : List S35} {N E M D : Int} (a : GoneR ps qs m l N E) (b : GoneR ps qs m l M D) : N = M ∧ E = D := by
  by_cases h : chkE ps qs m = 0
  · by_cases k : IsPl ps qs m.toNat l
    · obtain ⟨a1, a2⟩ := (a.2 h).1 k
      obtain ⟨b1, b2⟩ := (b.2 h).1 k
      exact ⟨a1.trans b1.symm, a2.trans b2.symm⟩
    · obtain ⟨a1, a2⟩ := (a.2 h).2 k
      obtain ⟨b1, b2⟩ := (b.2 h).2 k
      exact ⟨a1.trans b1.symm, a2.trans b2.symm⟩
  · obtain ⟨a1, a2⟩ := a.1 h
    obtain ⟨b1, b2⟩ := b.1 h
    exact ⟨a1.trans b1.symm, a2.trans b2.symm⟩
theorem made26 {W : World} {base : Nat} : ∀ (x : S35) cs, k35.K W x cs → k35.M W base (fun _ => False) x cs := fun x cs h => by
  obtain rfl := k35_open h
  exact k35_mkM _ _ _ _
set_option maxRecDepth 100000 in
theorem lit26n (W : World) : (Instr.buildSlice 26 0 #[]).run Try.prog W = .ok (.slice (some ⟨W.heap.size, 0, none⟩) 0 0) (W.alloc (.cells #[] 35)) := by
  have hu26 := Try.underlying26
  go_simp
set_option maxRecDepth 100000 in
theorem equal35 (a b c : Int) (W : World) : (Op.equal 35 (.agg #[.int .i64 a, .int .i64 b, .int .i64 c]) (.agg #[.int .i64 a, .int .i64 b, .int .i64 c])).run Try.prog W = .ok true W := by
  have hu3 := Try.underlying3
  have hu35 := Try.underlying35
  have h35 := Try.stoodInHeld35
  unfold Op.equal Op.maxDepth
  go_simp
set_option maxRecDepth 100000 in
set_option maxHeartbeats 8000000 in

theorem gone_law (ps : List Int) (qs : List S45) (A B : Option Addr) (c d : Nat) (w : World) (hP : Kd.C kI w A ps.length ps) (hQ : Kd.C k45 w B qs.length qs) (C : Option Addr) (k : Nat) (m0 : Int) (l : List S35) (hX : Kd.C k35 w C l.length l) :
    Calls Try.prog 3 #[hv ps qs A B c d, .int .i64 m0, .slice C l.length k] w fun e w' => e = .returned (.bool true) ∧ Below w.heap.size w w' := by
  have hu3 := Try.underlying3
  have hu22 := Try.underlying22
  have hu23 := Try.underlying23
  have hu25 := Try.underlying25
  have hu26 := Try.underlying26
  have hu35 := Try.underlying35
  obtain ⟨z3, o3⟩ := info_some info3s (by decide)
  obtain ⟨z22, o22⟩ := info_some info22s (by decide)
  obtain ⟨z25, o25⟩ := info_some info25s (by decide)
  obtain ⟨z35, o35⟩ := info_some info35s (by decide)
  refine E.enter (N := 79) Try.func3 rfl Try.ntmps3 (args := [hv ps qs A B c d, .int .i64 m0, .slice C l.length k]) (by simp) ?_
  have L := Below.refl w.heap.size w
  refine E.CG.seq ?_
  refine E.CG.list ?_
  refine E.GL.st rfl rfl rfl (E.ST.box rfl rfl fun g3 w3 e3 b3 l3 => ?_)
  have h3_L : w.heap.size ≤ g3 := by rw [e3]; exact L.size
  replace L := below_step L l3
  refine E.GL.run rfl rfl rfl (E.Runs.assign rfl rfl) ?_
  refine E.GL.done ?_
  refine E.QG.code ?_
  refine E.CG.seq ?_
  refine E.CG.seq ?_
  refine E.CG.list ?_
  refine E.GL.run rfl rfl rfl (E.Runs.loads (cs := [.slice A ps.length c, .slice B qs.length d]) rfl rfl hu25 rfl info25s (blk_cells b3)) ?_
  by_cases h15 : big ps qs
  · refine E.GL.st rfl rfl rfl (E.ST.call rfl ent11 (E.evc rfl E.evn) ((huge_calls ps qs A B c d _ true (iff_of_true rfl h15)).mono ?_))
    rintro e w15 ⟨rfl, l15⟩
    refine ⟨_, rfl, ?_⟩
    replace b3 := blk_below b3 l15
    replace L := below_step L l15
    refine E.GL.run rfl rfl rfl (E.Runs.move rfl rfl) ?_
    refine E.GL.skip rfl rfl rfl ?_
    refine E.GL.skip rfl rfl rfl ?_
    refine E.GL.skip rfl rfl rfl ?_
    refine E.GL.run rfl rfl rfl (E.Runs.pick_t rfl rfl rfl) ?_
    refine E.GL.done ?_
    refine E.QG.code ?_
    refine E.CG.cond_t rfl ?_
    refine E.CG.seq ?_
    refine E.CG.list ?_
    refine E.GL.st rfl rfl rfl (E.ST.call rfl ent12 E.evn ((works_calls _).mono ?_))
    rintro e w21 ⟨rfl, l21⟩
    refine ⟨_, rfl, ?_⟩
    replace b3 := blk_below b3 l21
    replace L := below_step L l21
    refine E.GL.run rfl rfl rfl (E.Runs.assign rfl rfl) ?_
    refine E.GL.done ?_
    refine E.QG.code ?_
    refine E.CG.ret ?_
    refine E.QG.pass_ret ?_
    exact E.QG.result rfl rfl ⟨rfl, L⟩
  · refine E.GL.st rfl rfl rfl (E.ST.call rfl ent11 (E.evc rfl E.evn) ((huge_calls ps qs A B c d _ false (iff_of_false Bool.false_ne_true h15)).mono ?_))
    rintro e w15 ⟨rfl, l15⟩
    refine ⟨_, rfl, ?_⟩
    replace b3 := blk_below b3 l15
    replace L := below_step L l15
    refine E.GL.run rfl rfl rfl (E.Runs.move rfl rfl) ?_
    refine E.GL.run rfl rfl rfl (E.Runs.move rfl rfl) ?_
    refine E.GL.run rfl rfl rfl (E.Runs.len rfl rfl hu26) ?_
    refine E.GL.cmp rfl rfl rfl (fun _ h => (E.Runs.gtr rfl rfl rfl h)) (fun h19 => ?_) (fun h19 => ?_)
    · refine E.GL.run rfl rfl rfl (E.Runs.pick_f rfl rfl rfl) ?_
      refine E.GL.done ?_
      refine E.QG.code ?_
      refine E.CG.cond_t rfl ?_
      refine E.CG.seq ?_
      refine E.CG.list ?_
      refine E.GL.st rfl rfl rfl (E.ST.call rfl ent12 E.evn ((works_calls _).mono ?_))
      rintro e w21 ⟨rfl, l21⟩
      refine ⟨_, rfl, ?_⟩
      replace b3 := blk_below b3 l21
      replace L := below_step L l21
      refine E.GL.run rfl rfl rfl (E.Runs.assign rfl rfl) ?_
      refine E.GL.done ?_
      refine E.QG.code ?_
      refine E.CG.ret ?_
      refine E.QG.pass_ret ?_
      exact E.QG.result rfl rfl ⟨rfl, L⟩
    · obtain ⟨hb1, hb2⟩ := not_big h15
      have hl40 : l.length ≤ 40 := by omega
      refine E.GL.run rfl rfl rfl (E.Runs.pick_f rfl rfl rfl) ?_
      refine E.GL.done ?_
      refine E.QG.code ?_
      refine E.CG.cond_f rfl ?_
      refine E.CG.skip ?_
      refine E.QG.code ?_
      refine E.CG.seq ?_
      refine E.CG.list ?_
      refine E.GL.run rfl rfl rfl (E.Runs.loads (cs := [.slice A ps.length c, .slice B qs.length d]) rfl rfl hu25 rfl info25s (blk_cells b3)) ?_
      have hs23 := L.size
      refine E.GL.st rfl rfl rfl (E.ST.call rfl ent13 (E.evc rfl E.evn) ((copy_calls ps qs A B c d _ (Kd.C_below hP L) (Kd.C_below hQ L) (by omega) (by omega)).mono ?_))
      rintro e w23 ⟨A3, B3, c3, d3, rfl, RP, RQ, l23⟩
      refine ⟨_, rfl, ?_⟩
      replace b3 := blk_below b3 l23
      replace L := below_step L l23
      replace RP := Kd.R_lower RP hs23
      replace RQ := Kd.R_lower RQ hs23
      refine E.GL.st rfl rfl rfl (E.ST.litAt k35 w.heap.size (w0 := w) (ys := ([] : List S35)) (inner := []) rfl rfl E.epn lit26n (Reps.none _ _) L L.size (by simp) fun u24 w24 r24 k24 l24 n24 => ?_)
      replace b3 := blk_below b3 l24
      replace RP := Kd.R_below RP l24
      replace RQ := Kd.R_below RQ l24
      replace L := below_step L l24
      clear k24
      refine E.GL.run rfl rfl rfl (E.Runs.move rfl rfl) ?_
      refine E.GL.st rfl rfl rfl (E.ST.appendRows k35 w.heap.size (w0 := w) (s := .tmp 24) (x := .tmp 25) rfl hu26 info35 rfl (by decide) (by decide) rfl rfl r24 (Kd.C_below hX L) made26 L L.size (by simp only [List.length_nil]; omega) fun u26 w26 r26 k26 g26 => ?_)
      replace b3 := blk_grown b3 g26 (Kd.R_ne r24 b3 (by decide))
      replace RP := Kd.R_over' RP (Kd.R_typed r24) (by decide) g26
      replace RQ := Kd.R_over' RQ (Kd.R_typed r24) (by decide) g26
      replace L := k26
      rw [List.nil_append] at r26
      obtain ⟨A26, c26, hv26⟩ := Kd.R_slice r26
      subst hv26
      clear r24 k26 g26
      refine E.GL.st rfl rfl rfl (E.ST.alloc rfl info25z fun g7 w7 e7 b7 l7 => ?_)
      have h7_L : w.heap.size ≤ g7 := by rw [e7]; exact L.size
      have n7_b3 : g3 ≠ g7 := by have := blk_lt b3; omega
      have n7_RP : some g7 ≠ ((Value.slice A3 ps.length c3)).ownBlock := fun h => by have := Kd.R_lt RP _ h.symm; omega
      have n7_RQ : some g7 ≠ ((Value.slice B3 qs.length d3)).ownBlock := fun h => by have := Kd.R_lt RQ _ h.symm; omega
      have n7_r26 : some g7 ≠ ((Value.slice A26 l.length c26)).ownBlock := fun h => by have := Kd.R_lt r26 _ h.symm; omega
      replace b3 := blk_below b3 l7
      replace RP := Kd.R_below RP l7
      replace RQ := Kd.R_below RQ l7
      replace r26 := Kd.R_below r26 l7
      replace L := below_step L l7
      refine E.GL.store_whole rfl rfl rfl rfl rfl b7 rfl info25s (slices_one _ _ _ _ _ _) fun wS3_6 c7 lS3_6 => ?_
      replace b3 := blk_grown b3 lS3_6 (E.nes (by first | assumption | exact Ne.symm (by assumption)))
      replace RP := Kd.R_grown1 RP rfl lS3_6 (by first | assumption | exact Kd.R_ne RP b7 (by decide))
      replace RQ := Kd.R_grown1 RQ rfl lS3_6 (by first | assumption | exact Kd.R_ne RQ b7 (by decide))
      replace r26 := Kd.R_grown1 r26 rfl lS3_6 (by first | assumption | exact Kd.R_ne r26 b7 (by decide))
      replace L := E.below_own L h7_L lS3_6
      replace b7 := c7
      clear c7
      refine E.GL.run rfl rfl rfl (E.Runs.assign rfl rfl) ?_
      refine E.GL.done ?_
      refine E.QG.code ?_
      refine E.CG.seq ?_
      refine E.CG.seq ?_
      refine E.CG.heldH (none) (by kernel_rfl) fun v4 lD hh => ?_
      replace b3 := blk_below b3 lD
      replace b7 := blk_below b7 lD
      replace RP := Kd.R_below RP lD
      replace RQ := Kd.R_below RQ lD
      replace r26 := Kd.R_below r26 lD
      replace L := below_step L lD
      clear lD
      have s_b3 := b3
      have s_b7 := b7
      have s_L := L
      refine E.GH.take (i := 0) rfl (by kernel_rfl) (by kernel_rfl) (by kernel_rfl) (by intro c a d v w h; cases d <;> exact h) rfl rfl rfl (fun w' hS => (E.Runs.loads (cs := [.slice A3 ps.length c3, .slice B3 qs.length d3]) rfl rfl hu25 rfl info25s (blk_cells (blk_grown s_b7 hS E.nen)))) ?_
      refine E.GH.take (i := 2) rfl (by kernel_rfl) (by kernel_rfl) (by kernel_rfl) (by intro c a d v w h; cases d <;> exact h) rfl rfl rfl (fun w' hS => (E.Runs.loads (cs := [.slice A ps.length c, .slice B qs.length d]) rfl rfl hu25 rfl info25s (blk_cells (blk_grown s_b3 hS E.nen)))) ?_
      refine E.GH.one (i := 1) (by kernel_rfl) rfl ?_
      refine E.GO.st rfl rfl rfl (E.ST.call rfl ent14 (E.evc rfl E.evn) ((check14 ps qs A3 B3 c3 d3 _ (Kd.R_reads' RP).2.2 (Kd.R_reads' RQ).2.2 (by omega) (by omega)).mono ?_))
      rintro e w28 ⟨rfl, l28⟩
      refine ⟨_, rfl, hh.trans (E.gbB l28), ?_⟩
      replace hh := hh.trans (E.gbB l28)
      replace b3 := blk_below b3 l28
      replace b7 := blk_below b7 l28
      replace RP := Kd.R_below RP l28
      replace RQ := Kd.R_below RQ l28
      replace r26 := Kd.R_below r26 l28
      replace L := below_step L l28
      refine E.GH.one (i := 3) (by kernel_rfl) rfl ?_
      refine E.GO.st rfl rfl rfl (E.ST.call rfl ent15 (E.evc rfl E.evn) ((check15 ps qs A B c d _ (Kd.C_below hP L) (Kd.C_below hQ L) (by omega) (by omega)).mono ?_))
      rintro e w30 ⟨rfl, l30⟩
      refine ⟨_, rfl, hh.trans (E.gbB l30), ?_⟩
      replace hh := hh.trans (E.gbB l30)
      replace b3 := blk_below b3 l30
      replace b7 := blk_below b7 l30
      replace RP := Kd.R_below RP l30
      replace RQ := Kd.R_below RQ l30
      replace r26 := Kd.R_below r26 l30
      replace L := below_step L l30
      refine E.GH.take (i := 4) rfl (by kernel_rfl) (by kernel_rfl) (by kernel_rfl) (by intro c a d v w h; cases d <;> exact h) rfl rfl rfl (fun w' hS => (E.Runs.neq rfl rfl rfl (E.ne_f rfl))) ?_
      refine E.GH.done (by kernel_rfl) ?_
      refine E.QG.code ?_
      refine E.CG.cond_f rfl ?_
      refine E.CG.skip ?_
      refine E.QG.code ?_
      refine E.CG.seq ?_
      refine E.CG.list ?_
      refine E.GL.run rfl rfl rfl (E.Runs.loads (cs := [.slice A3 ps.length c3, .slice B3 qs.length d3]) rfl rfl hu25 rfl info25s (blk_cells b7)) ?_
      refine E.GL.run rfl rfl rfl (E.Runs.move rfl rfl) ?_
      refine E.GL.run rfl rfl rfl (E.Runs.move rfl rfl) ?_
      refine E.GL.st rfl rfl rfl (E.ST.call rfl ent16 (E.evc rfl (E.evc rfl (E.evc rfl E.evn))) ((goneP_calls ps qs A3 B3 A26 c3 d3 c26 m0 l _ (Kd.R_reads' RP).2.2 (Kd.R_reads' RQ).2.2 (Kd.R_reads' r26).2.2 (by omega) (by omega) (by omega)).mono ?_))
      rintro e w36 ⟨N36, E36, rfl, hG36, l36⟩
      refine ⟨_, rfl, ?_⟩
      replace b3 := blk_below b3 l36
      replace b7 := blk_below b7 l36
      replace RP := Kd.R_below RP l36
      replace RQ := Kd.R_below RQ l36
      replace r26 := Kd.R_below r26 l36
      replace L := below_step L l36
      refine E.GL.run rfl rfl rfl (E.Runs.move rfl rfl) ?_
      refine E.GL.run rfl rfl rfl (E.Runs.extract rfl rfl rfl) ?_
      refine E.GL.run rfl rfl rfl (E.Runs.extract rfl rfl rfl) ?_
      refine E.GL.run rfl rfl rfl (E.Runs.assign rfl rfl) ?_
      refine E.GL.run rfl rfl rfl (E.Runs.assign rfl rfl) ?_
      refine E.GL.done ?_
      refine E.QG.code ?_
      refine E.CG.seq ?_
      refine E.CG.list ?_
      refine E.GL.run rfl rfl rfl (E.Runs.loads (cs := [.slice A ps.length c, .slice B qs.length d]) rfl rfl hu25 rfl info25s (blk_cells b3)) ?_
      refine E.GL.run rfl rfl rfl (E.Runs.move rfl rfl) ?_
      refine E.GL.run rfl rfl rfl (E.Runs.move rfl rfl) ?_
      refine E.GL.st rfl rfl rfl (E.ST.call rfl ent17 (E.evc rfl (E.evc rfl (E.evc rfl E.evn))) ((goneF_calls ps qs A B c d _ (Kd.C_below hP L) (Kd.C_below hQ L) (by omega) (by omega) C k l (Kd.C_below hX L) (by omega) m0).mono ?_))
      rintro e w43 ⟨N43, E43, rfl, hG43, l43⟩
      refine ⟨_, rfl, ?_⟩
      replace b3 := blk_below b3 l43
      replace b7 := blk_below b7 l43
      replace RP := Kd.R_below RP l43
      replace RQ := Kd.R_below RQ l43
      replace r26 := Kd.R_below r26 l43
      replace L := below_step L l43
      obtain ⟨hN, hE⟩ := goneR_one hG36 hG43
      refine E.GL.run rfl rfl rfl (E.Runs.move rfl rfl) ?_
      refine E.GL.run rfl rfl rfl (E.Runs.extract rfl rfl rfl) ?_
      refine E.GL.run rfl rfl rfl (E.Runs.extract rfl rfl rfl) ?_
      refine E.GL.run rfl rfl rfl (E.Runs.assign rfl rfl) ?_
      refine E.GL.run rfl rfl rfl (E.Runs.assign rfl rfl) ?_
      refine E.GL.done ?_
      refine E.QG.code ?_
      refine E.CG.seq ?_
      refine E.CG.seq ?_
      refine E.CG.list ?_
      refine E.GL.run rfl rfl rfl (E.Runs.assign rfl rfl) ?_
      refine E.GL.done ?_
      refine E.QG.code ?_
      refine E.CG.block ?_
      have s9_b3 := b3
      have s9_b7 := b7
      have s9_L := L
      refine E.CG.loop (fun (i : Nat) => [(2, .slice C l.length k), (3, .pointer (some ⟨g3, 0, none⟩)), (7, .pointer (some ⟨g7, 0, none⟩)), (8, .slice A26 l.length c26), (9, .int .i64 N36), (10, .int .i64 E36), (11, .int .i64 N43), (12, .int .i64 E43), (13, .int .i64 i)]) (fun i w' => i ≤ l.length ∧ w'.heap[g3]? = some (.cells #[.slice A ps.length c, .slice B qs.length d] 25 (0, 0)) ∧ w'.heap[g7]? = some (.cells #[.slice A3 ps.length c3, .slice B3 qs.length d3] 25 (0, 0)) ∧ Kd.R kI 3 w' w.heap.size (fun _ => True) (.slice A3 ps.length c3) ps ∧ Kd.R k35 35 w' w.heap.size (fun _ => True) (.slice A26 l.length c26) l ∧ Below w.heap.size w w') (fun i => l.length - i) 0 (E.subc rfl (E.subc rfl (E.subc rfl (E.subc rfl (E.subc rfl (E.subc rfl (E.subc rfl (E.subc rfl (E.subc rfl E.subn))))))))) ⟨Nat.zero_le _, b3, b7, RP, r26, L⟩ ?_
      rintro i w9 ⟨hi, b3, b7, RP, r26, L⟩
      refine E.CG.seq ?_
      refine E.CG.seq ?_
      refine E.CG.list ?_
      refine E.GL.run rfl rfl rfl (E.Runs.move rfl rfl) ?_
      refine E.GL.run rfl rfl rfl (E.Runs.move rfl rfl) ?_
      refine E.GL.run rfl rfl rfl (E.Runs.len rfl rfl hu26) ?_
      refine E.GL.cmp rfl rfl rfl (fun _ h => (E.Runs.lss rfl rfl rfl h)) (fun h49 => ?_) (fun h49 => ?_)
      · obtain ⟨x, hx⟩ : ∃ x, l[i]? = some x := ⟨_, List.getElem?_eq_getElem (by omega)⟩
        obtain ⟨ad, eA, X⟩ := move_at hX hx
        obtain ⟨ae, eA2, Y⟩ := move_at (Kd.R_reads' r26).2.2 hx
        have hil : (i : Int) < l.length := by omega
        refine E.GL.done ?_
        refine E.QG.code ?_
        refine E.CG.cond_t rfl ?_
        refine E.CG.skip ?_
        refine E.QG.code ?_
        refine E.CG.seq ?_
        refine E.CG.block ?_
        refine E.CG.seq ?_
        refine E.CG.quietF (by kernel_rfl) rfl (by kernel_rfl) (by kernel_rfl) ?_
        refine E.GQ.run rfl rfl rfl (E.Runs.move rfl rfl) ?_
        refine E.GQ.run rfl rfl rfl (E.Runs.move rfl rfl) ?_
        refine E.GQ.run rfl rfl rfl (E.Runs.indexAddrA rfl rfl rfl hu26 z35 o35 hil eA2 rfl) ?_
        refine E.GQ.run rfl rfl rfl (E.Runs.loads (cs := [.int .i64 x.f0, .int .i64 x.f1, .int .i64 x.f2]) rfl rfl hu35 rfl info35s (fun j v hv => Y j v hv)) ?_
        refine E.GQ.run rfl rfl rfl (E.Runs.move rfl rfl) ?_
        refine E.GQ.run rfl rfl rfl (E.Runs.move rfl rfl) ?_
        refine E.GQ.run rfl rfl rfl (E.Runs.indexAddrA rfl rfl rfl hu26 z35 o35 hil eA rfl) ?_
        refine E.GQ.run rfl rfl rfl (E.Runs.loads (cs := [.int .i64 x.f0, .int .i64 x.f1, .int .i64 x.f2]) rfl rfl hu35 rfl info35s (fun j v hv => pw_cell_below L (X j v hv))) ?_
        refine E.GQ.run rfl rfl rfl (E.Runs.neqv rfl rfl rfl rfl (fun _ _ W => run_eqGuard_agg W _ _ _ _ _ _ Try.eqGuardType35) (equal35 _ _ _) rfl) ?_
        refine E.GQ.doneB fun v11 lD => ?_
        replace b3 := blk_below b3 lD
        replace b7 := blk_below b7 lD
        replace RP := Kd.R_below RP lD
        replace r26 := Kd.R_below r26 lD
        replace L := below_step L lD
        have lD11 := lD
        clear lD
        refine E.QG.code ?_
        refine E.CG.cond_f rfl ?_
        refine E.CG.skip ?_
        refine E.QG.block_normal ?_
        refine E.QG.code ?_
        refine E.CG.list ?_
        refine E.GL.run rfl rfl rfl (E.Runs.move rfl rfl) ?_
        refine E.GL.run rfl rfl rfl (E.Runs.add rfl rfl rfl (IntWalk.i64_in _ (by omega))) ?_
        refine E.GL.run rfl rfl rfl (E.Runs.assign rfl rfl) ?_
        refine E.GL.done ?_
        exact E.QG.round (i + 1) (E.subc rfl (E.subc rfl (E.subc rfl (E.subc rfl (E.subc rfl (E.subc rfl (E.subc rfl (E.subc rfl (E.subc rfl E.subn))))))))) ⟨by omega, b3, b7, RP, r26, L⟩ (by omega)
      · refine E.GL.done ?_
        refine E.QG.code ?_
        refine E.CG.cond_f rfl ?_
        refine E.CG.exit ?_
        refine E.QG.pass_exit ?_
        refine E.QG.pass_exit ?_
        refine E.QG.block_here ?_
        refine E.QG.code ?_
        refine E.CG.seq ?_
        refine E.CG.list ?_
        refine E.GL.run rfl rfl rfl (E.Runs.move rfl rfl) ?_
        refine E.GL.run rfl rfl rfl (E.Runs.move rfl rfl) ?_
        refine E.GL.run rfl rfl rfl (E.Runs.eql rfl rfl rfl (decide_eq_true hN)) ?_
        refine E.GL.run rfl rfl rfl (E.Runs.move rfl rfl) ?_
        refine E.GL.run rfl rfl rfl (E.Runs.move rfl rfl) ?_
        refine E.GL.run rfl rfl rfl (E.Runs.move rfl rfl) ?_
        refine E.GL.run rfl rfl rfl (E.Runs.eql rfl rfl rfl (decide_eq_true hE)) ?_
        refine E.GL.run rfl rfl rfl (E.Runs.pick_t rfl rfl rfl) ?_
        refine E.GL.run rfl rfl rfl (E.Runs.move rfl rfl) ?_
        refine E.GL.run rfl rfl rfl (E.Runs.fieldAddr rfl rfl hu25 rfl (by assumption) rfl) ?_
        refine E.GL.run rfl rfl rfl (E.Runs.load1 rfl rfl hu22 rfl (by first | assumption | exact E.blkc (by assumption) rfl | exact pw_cell_below L (by assumption))) ?_
        refine E.GL.run rfl rfl rfl (E.Runs.fieldAddr rfl rfl hu25 rfl (by assumption) rfl) ?_
        refine E.GL.run rfl rfl rfl (E.Runs.load1 rfl rfl hu22 rfl (by first | assumption | exact E.blkc (by assumption) rfl | exact pw_cell_below L (by assumption))) ?_
        refine E.GL.st rfl rfl rfl (E.ST.call rfl ent18 (E.evc rfl (E.evc rfl E.evn)) ((same_calls ps ps A3 A c3 c _ true (by simp) (Kd.R_reads' RP).2.2 (Kd.C_below hP L) (by omega)).mono ?_))
        rintro e w74 ⟨rfl, l74⟩
        refine ⟨_, rfl, ?_⟩
        replace b3 := blk_below b3 l74
        replace b7 := blk_below b7 l74
        replace RP := Kd.R_below RP l74
        replace r26 := Kd.R_below r26 l74
        replace L := below_step L l74
        refine E.GL.run rfl rfl rfl (E.Runs.pick_t rfl rfl rfl) ?_
        refine E.GL.run rfl rfl rfl (E.Runs.move rfl rfl) ?_
        refine E.GL.st rfl rfl rfl (E.ST.call rfl ent12 E.evn ((works_calls _).mono ?_))
        rintro e w77 ⟨rfl, l77⟩
        refine ⟨_, rfl, ?_⟩
        replace b3 := blk_below b3 l77
        replace b7 := blk_below b7 l77
        replace RP := Kd.R_below RP l77
        replace r26 := Kd.R_below r26 l77
        replace L := below_step L l77
        refine E.GL.run rfl rfl rfl (E.Runs.pick_t rfl rfl rfl) ?_
        refine E.GL.run rfl rfl rfl (E.Runs.assign rfl rfl) ?_
        refine E.GL.done ?_
        refine E.QG.code ?_
        refine E.CG.ret ?_
        exact E.QG.result rfl rfl ⟨rfl, L⟩

end Go.Proofs.Ytmnjlnkfihklgaa.T
namespace Go.Proofs.Ytmnjlnkfihklgaa.T
open Go.ChangeShapes Go.WideShapes Go.ChangeAt Go.Deep
open Go.RowKit Go.Proofs.YtmnjlnkfihklgaaW.PrintWords Go.Proofs.YtmnjlnkfihklgaaW.PrintMore
open Go.Proofs.Ytmnjlnkfihklgaa.P
set_option linter.unusedVariables false
set_option linter.unusedSimpArgs false

section
variable {X : Type} {enc : TypeId × Value → X} {w : World} {base : Nat} {spare : Nat → Bool} {held : Bool}
theorem fld {fs : Array Field} {n : Nat} {cs : List Value} {xs : List (DataW X × List MemPlace)} (hlen : xs.length = fs.size) (hg : ∀ (i : Nat) (f : Field), fs[i]? = some f → DataW.trod enc Try.prog w base spare held n f.type ((cs.drop f.offset).take (Try.prog.cellsOf f.type)) = xs[i]?) (i : Nat) (f : Field) (hf : fs[i]? = some f)
    (ty : TypeId) (off k : Nat) (h1 : f.type = ty) (h2 : f.offset = off) (h3 : Try.prog.cellsOf ty = k) :
    ∃ y, DataW.trod enc Try.prog w base spare held n ty ((cs.drop off).take k) = some y := by
  have hi : i < xs.length := by rw [hlen]; exact (Array.getElem?_eq_some_iff.1 hf).1
  subst h1 h2 h3
  exact ⟨_, (hg i f hf).trans (List.getElem?_eq_getElem hi)⟩

theorem cells3 : Try.prog.cellsOf 3 = 1 := by kernel_rfl

theorem trod3 {n : Nat} {cs : List Value} {x : DataW X × List MemPlace} (h : DataW.trod enc Try.prog w base spare held n 3 cs = some x) : ∃ (a : Int), cs = [.int .i64 a] := by
  obtain ⟨a, hc, _⟩ := DataW.trod_int Try.underlying3 h
  exact ⟨a, hc⟩

set_option maxRecDepth 100000 in
theorem int_open {r : Reach} {b0 : Nat} {v : Value} {d : DataW X} {p : List MemPlace} (hval : Value.okWide Try.prog w r b0 3 v) (h : DataW.Trod enc Try.prog w base spare held 3 v d p) : ∃ m : Int, v = .int .i64 m := okWide_int Try.underlying3 hval

theorem cells35 : Try.prog.cellsOf 35 = 3 := by kernel_rfl

theorem list_of3 {cs : List Value} (h : cs.length = 3) : ∃ v0 v1 v2, cs = [v0, v1, v2] := by
  match cs, h with
  | [v0, v1, v2], _ => exact ⟨v0, v1, v2, rfl⟩

theorem trod35 {n : Nat} {cs : List Value} {x : DataW X × List MemPlace} (h : DataW.trod enc Try.prog w base spare held n 35 cs = some x) : ∃ (a_0 : Int) (a_1 : Int) (a_2 : Int), cs = [.int .i64 a_0, .int .i64 a_1, .int .i64 a_2] := by
  obtain ⟨xs, m, _, hx, hl, hlen, hg⟩ := DataW.trod_struct Try.underlying35 h
  rw [cells35] at hl
  obtain ⟨v0, v1, v2, rfl⟩ := list_of3 hl
  obtain ⟨y0, h0⟩ := fld hlen hg 0 _ rfl 3 0 1 rfl rfl cells3
  obtain ⟨y1, h1⟩ := fld hlen hg 1 _ rfl 3 1 1 rfl rfl cells3
  obtain ⟨y2, h2⟩ := fld hlen hg 2 _ rfl 3 2 1 rfl rfl cells3
  obtain ⟨a_0, e0⟩ := trod3 h0
  obtain ⟨a_1, e1⟩ := trod3 h1
  obtain ⟨a_2, e2⟩ := trod3 h2
  simp only [List.drop_zero, List.take_succ_cons, List.take_zero, List.drop_succ_cons, List.cons.injEq, and_true] at e0 e1 e2
  subst e0 e1 e2
  exact ⟨a_0, a_1, a_2, rfl⟩

theorem trod26 {n : Nat} {cs : List Value} {x : DataW X × List MemPlace} (h : DataW.trod enc Try.prog w base spare held n 26 cs = some x) : ∃ (aA : Option Addr) (ac : Nat) (al : List S35), cs = [.slice aA al.length ac] ∧ al.length ≤ ac ∧ Kd.C k35 w aA al.length al := by
  rcases open_slice Try.underlying26 h with ⟨rfl, _⟩ | ⟨a, len, cap, m, k, D, Pl, rfl, hb, hl, hm, hmm, hx, hi⟩
  · exact ⟨none, 0, [], rfl, Nat.le_refl _, rfl, by simp, fun h => absurd h (by simp)⟩
  · have hlm : len ≤ m := by rw [hmm]; split <;> omega
    have H : ∀ i, i < len → ∃ s : S35, w.cells? base (a.add (i * 3)) 3 = some [.int .i64 s.f0, .int .i64 s.f1, .int .i64 s.f2] := by
      intro i hil
      obtain ⟨cs', hc, ht⟩ := hi i (by omega)
      obtain ⟨a_0, a_1, a_2, rfl⟩ := trod35 ht
      rw [cells35] at hc
      exact ⟨⟨a_0, a_1, a_2⟩, hc⟩
    obtain ⟨F, hF⟩ : ∃ F : Nat → S35, ∀ i, i < len → w.cells? base (a.add (i * 3)) 3 = some [.int .i64 (F i).f0, .int .i64 (F i).f1, .int .i64 (F i).f2] := by
      refine ⟨fun i => if h : i < len then (H i h).choose else P.z35, fun i h => ?_⟩
      simp only [dif_pos h]
      exact (H i h).choose_spec
    refine ⟨some a, cap, (List.range len).map F, by simp, by simpa using hl, ?_, ?_, ?_⟩
    · rfl
    · simp only [List.length_map, List.length_range]
      unfold maxLen at hm
      omega
    · intro _
      refine ⟨a, rfl, fun j p hj => ?_⟩
      have hjl : j < len := by
        have := (List.getElem?_eq_some_iff.1 hj).1
        simpa using this
      have hp : p = F j := by
        rw [List.getElem?_map, List.getElem?_range hjl] at hj
        simpa using hj.symm
      subst hp
      refine ⟨[.int .i64 (F j).f0, .int .i64 (F j).f1, .int .i64 (F j).f2], rfl, k35_mk w (F j), ?_⟩
      intro i u hu
      obtain ⟨_, hcl, hat⟩ := World.cells?_some (hF j hjl)
      have hil : i < 3 := (List.getElem?_eq_some_iff.1 hu).1
      have := hat i hil
      rw [Go.Deep.add_add] at this
      rw [show j * (k35).sz + i = j * 3 + i from rfl, this, hu]

set_option maxRecDepth 100000 in
theorem moves_open {r : Reach} {b0 : Nat} {v : Value} {d : DataW X} {p : List MemPlace} (hval : Value.okWide Try.prog w r b0 26 v) (h : DataW.Trod enc Try.prog w base spare held 26 v d p) : ∃ (aA : Option Addr) (ac : Nat) (al : List S35), v = .slice aA al.length ac ∧ al.length ≤ ac ∧ Kd.C k35 w aA al.length al := by
  obtain ⟨A, n, c, rfl⟩ := okWide_slice Try.underlying26 hval
  obtain ⟨k, hk⟩ := h
  obtain ⟨A', c', l, he, h1, h2⟩ := trod26 hk
  simp only [Value.cells, List.cons.injEq, Value.slice.injEq, and_true] at he
  obtain ⟨rfl, rfl, rfl⟩ := he
  exact ⟨A, c, l, rfl, h1, h2⟩

theorem cells25 : Try.prog.cellsOf 25 = 2 := by kernel_rfl

theorem cells22 : Try.prog.cellsOf 22 = 1 := by kernel_rfl

theorem trod22 {n : Nat} {cs : List Value} {x : DataW X × List MemPlace} (h : DataW.trod enc Try.prog w base spare held n 22 cs = some x) : ∃ (aA : Option Addr) (ac : Nat) (al : List Int), cs = [.slice aA al.length ac] ∧ al.length ≤ ac ∧ Kd.C (Kd.int .i64) w aA al.length al := by
  rcases open_slice Try.underlying22 h with ⟨rfl, _⟩ | ⟨a, len, cap, m, k, D, Pl, rfl, hb, hl, hm, hmm, hx, hi⟩
  · exact ⟨none, 0, [], rfl, Nat.le_refl _, rfl, by simp, fun h => absurd h (by simp)⟩
  · have hlm : len ≤ m := by rw [hmm]; split <;> omega
    have H : ∀ i, i < len → ∃ s : Int, w.cells? base (a.add (i * 1)) 1 = some [.int .i64 s] := by
      intro i hil
      obtain ⟨cs', hc, ht⟩ := hi i (by omega)
      obtain ⟨a, rfl⟩ := trod3 ht
      rw [cells3] at hc
      exact ⟨a, hc⟩
    obtain ⟨F, hF⟩ : ∃ F : Nat → Int, ∀ i, i < len → w.cells? base (a.add (i * 1)) 1 = some [.int .i64 (F i)] := by
      refine ⟨fun i => if h : i < len then (H i h).choose else 0, fun i h => ?_⟩
      simp only [dif_pos h]
      exact (H i h).choose_spec
    refine ⟨some a, cap, (List.range len).map F, by simp, by simpa using hl, ?_, ?_, ?_⟩
    · rfl
    · simp only [List.length_map, List.length_range]
      unfold maxLen at hm
      omega
    · intro _
      refine ⟨a, rfl, fun j p hj => ?_⟩
      have hjl : j < len := by
        have := (List.getElem?_eq_some_iff.1 hj).1
        simpa using this
      have hp : p = F j := by
        rw [List.getElem?_map, List.getElem?_range hjl] at hj
        simpa using hj.symm
      subst hp
      refine ⟨[.int .i64 (F j)], rfl, rfl, ?_⟩
      intro i u hu
      obtain ⟨_, hcl, hat⟩ := World.cells?_some (hF j hjl)
      have hil : i < 1 := (List.getElem?_eq_some_iff.1 hu).1
      have := hat i hil
      rw [Go.Deep.add_add] at this
      rw [show j * ((Kd.int .i64)).sz + i = j * 1 + i from rfl, this, hu]

theorem cells23 : Try.prog.cellsOf 23 = 1 := by kernel_rfl

theorem cells45 : Try.prog.cellsOf 45 = 4 := by kernel_rfl

theorem list_of4 {cs : List Value} (h : cs.length = 4) : ∃ v0 v1 v2 v3, cs = [v0, v1, v2, v3] := by
  match cs, h with
  | [v0, v1, v2, v3], _ => exact ⟨v0, v1, v2, v3, rfl⟩

theorem trod45 {n : Nat} {cs : List Value} {x : DataW X × List MemPlace} (h : DataW.trod enc Try.prog w base spare held n 45 cs = some x) : ∃ (a_0 : Int) (a_1 : Int) (a_2 : Int) (a_3 : Int), cs = [.int .i64 a_0, .int .i64 a_1, .int .i64 a_2, .int .i64 a_3] := by
  obtain ⟨xs, m, _, hx, hl, hlen, hg⟩ := DataW.trod_struct Try.underlying45 h
  rw [cells45] at hl
  obtain ⟨v0, v1, v2, v3, rfl⟩ := list_of4 hl
  obtain ⟨y0, h0⟩ := fld hlen hg 0 _ rfl 3 0 1 rfl rfl cells3
  obtain ⟨y1, h1⟩ := fld hlen hg 1 _ rfl 3 1 1 rfl rfl cells3
  obtain ⟨y2, h2⟩ := fld hlen hg 2 _ rfl 3 2 1 rfl rfl cells3
  obtain ⟨y3, h3⟩ := fld hlen hg 3 _ rfl 3 3 1 rfl rfl cells3
  obtain ⟨a_0, e0⟩ := trod3 h0
  obtain ⟨a_1, e1⟩ := trod3 h1
  obtain ⟨a_2, e2⟩ := trod3 h2
  obtain ⟨a_3, e3⟩ := trod3 h3
  simp only [List.drop_zero, List.take_succ_cons, List.take_zero, List.drop_succ_cons, List.cons.injEq, and_true] at e0 e1 e2 e3
  subst e0 e1 e2 e3
  exact ⟨a_0, a_1, a_2, a_3, rfl⟩

theorem trod23 {n : Nat} {cs : List Value} {x : DataW X × List MemPlace} (h : DataW.trod enc Try.prog w base spare held n 23 cs = some x) : ∃ (aA : Option Addr) (ac : Nat) (al : List S45), cs = [.slice aA al.length ac] ∧ al.length ≤ ac ∧ Kd.C k45 w aA al.length al := by
  rcases open_slice Try.underlying23 h with ⟨rfl, _⟩ | ⟨a, len, cap, m, k, D, Pl, rfl, hb, hl, hm, hmm, hx, hi⟩
  · exact ⟨none, 0, [], rfl, Nat.le_refl _, rfl, by simp, fun h => absurd h (by simp)⟩
  · have hlm : len ≤ m := by rw [hmm]; split <;> omega
    have H : ∀ i, i < len → ∃ s : S45, w.cells? base (a.add (i * 4)) 4 = some [.int .i64 s.f0, .int .i64 s.f1, .int .i64 s.f2, .int .i64 s.f3] := by
      intro i hil
      obtain ⟨cs', hc, ht⟩ := hi i (by omega)
      obtain ⟨a_0, a_1, a_2, a_3, rfl⟩ := trod45 ht
      rw [cells45] at hc
      exact ⟨⟨a_0, a_1, a_2, a_3⟩, hc⟩
    obtain ⟨F, hF⟩ : ∃ F : Nat → S45, ∀ i, i < len → w.cells? base (a.add (i * 4)) 4 = some [.int .i64 (F i).f0, .int .i64 (F i).f1, .int .i64 (F i).f2, .int .i64 (F i).f3] := by
      refine ⟨fun i => if h : i < len then (H i h).choose else P.z45, fun i h => ?_⟩
      simp only [dif_pos h]
      exact (H i h).choose_spec
    refine ⟨some a, cap, (List.range len).map F, by simp, by simpa using hl, ?_, ?_, ?_⟩
    · rfl
    · simp only [List.length_map, List.length_range]
      unfold maxLen at hm
      omega
    · intro _
      refine ⟨a, rfl, fun j p hj => ?_⟩
      have hjl : j < len := by
        have := (List.getElem?_eq_some_iff.1 hj).1
        simpa using this
      have hp : p = F j := by
        rw [List.getElem?_map, List.getElem?_range hjl] at hj
        simpa using hj.symm
      subst hp
      refine ⟨[.int .i64 (F j).f0, .int .i64 (F j).f1, .int .i64 (F j).f2, .int .i64 (F j).f3], rfl, k45_mk w (F j), ?_⟩
      intro i u hu
      obtain ⟨_, hcl, hat⟩ := World.cells?_some (hF j hjl)
      have hil : i < 4 := (List.getElem?_eq_some_iff.1 hu).1
      have := hat i hil
      rw [Go.Deep.add_add] at this
      rw [show j * (k45).sz + i = j * 4 + i from rfl, this, hu]

theorem list_of2 {cs : List Value} (h : cs.length = 2) : ∃ v0 v1, cs = [v0, v1] := by
  match cs, h with
  | [v0, v1], _ => exact ⟨v0, v1, rfl⟩

theorem trod25 {n : Nat} {cs : List Value} {x : DataW X × List MemPlace} (h : DataW.trod enc Try.prog w base spare held n 25 cs = some x) : ∃ (a_0A : Option Addr) (a_0c : Nat) (a_0l : List Int) (a_1A : Option Addr) (a_1c : Nat) (a_1l : List S45), cs = [.slice a_0A a_0l.length a_0c, .slice a_1A a_1l.length a_1c] ∧ a_0l.length ≤ a_0c ∧ Kd.C (Kd.int .i64) w a_0A a_0l.length a_0l ∧ a_1l.length ≤ a_1c ∧ Kd.C k45 w a_1A a_1l.length a_1l := by
  obtain ⟨xs, m, _, hx, hl, hlen, hg⟩ := DataW.trod_struct Try.underlying25 h
  rw [cells25] at hl
  obtain ⟨v0, v1, rfl⟩ := list_of2 hl
  obtain ⟨y0, h0⟩ := fld hlen hg 0 _ rfl 22 0 1 rfl rfl cells22
  obtain ⟨y1, h1⟩ := fld hlen hg 1 _ rfl 23 1 1 rfl rfl cells23
  obtain ⟨a_0A, a_0c, a_0l, e0, f0_0, f0_1⟩ := trod22 h0
  obtain ⟨a_1A, a_1c, a_1l, e1, f1_0, f1_1⟩ := trod23 h1
  simp only [List.drop_zero, List.take_succ_cons, List.take_zero, List.drop_succ_cons, List.cons.injEq, and_true] at e0 e1
  subst e0 e1
  exact ⟨a_0A, a_0c, a_0l, a_1A, a_1c, a_1l, rfl, f0_0, f0_1, f1_0, f1_1⟩

set_option maxRecDepth 100000 in
theorem house_open {r : Reach} {b0 : Nat} {v : Value} {d : DataW X} {p : List MemPlace} (hval : Value.okWide Try.prog w r b0 25 v) (h : DataW.Trod enc Try.prog w base spare held 25 v d p) : ∃ (a_0A : Option Addr) (a_0c : Nat) (a_0l : List Int) (a_1A : Option Addr) (a_1c : Nat) (a_1l : List S45), v = .agg #[.slice a_0A a_0l.length a_0c, .slice a_1A a_1l.length a_1c] ∧ a_0l.length ≤ a_0c ∧ Kd.C (Kd.int .i64) w a_0A a_0l.length a_0l ∧ a_1l.length ≤ a_1c ∧ Kd.C k45 w a_1A a_1l.length a_1l := by
  obtain ⟨cs, rfl, hsz⟩ := okWide_struct Try.underlying25 hval
  obtain ⟨n, hn⟩ := h
  obtain ⟨a_0A, a_0c, a_0l, a_1A, a_1c, a_1l, hH, f0, f1, f2, f3⟩ := trod25 hn
  obtain ⟨l⟩ := cs
  obtain rfl : l = _ := hH
  exact ⟨a_0A, a_0c, a_0l, a_1A, a_1c, a_1l, rfl, f0, f1, f2, f3⟩

end

end Go.Proofs.Ytmnjlnkfihklgaa.T
