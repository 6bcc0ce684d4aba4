/- Texts of this claim, put together: A24, N10, A25, O1, B2, B3, N11, A26, A27, N12, N13, B4, B6, N14, B7. -/
import Derived.Test.YtdiambcjghlffaaG3
import Derived.Test.YtdiambcjghlffaaRows
import Derived.ProofKit
import Derived.OpenShut
import Derived.ChangeOld
import Derived.SizedLaws
import Derived.Deep.Slices
namespace Go.Proofs.Ytdiambcjghlffaa.T
open Go.RowKit Go.Proofs.YtdiambcjghlffaaW.PrintWords Go.Proofs.YtdiambcjghlffaaW.PrintMore
open Go.Proofs.Ytdiambcjghlffaa.P
set_option linter.unusedVariables false
set_option linter.unusedSimpArgs false

/-- A film by its price and the header of its crowd. -/
structure Fh where
  p : Int
  h : Hd
def kFH : Kd Fh := Kd.iso (Kd.pair (Kd.int .i64) kH) (fun x : Fh => (x.p, x.h))
theorem kFH_open {w : World} {x : Fh} {cs : List Value} (h : kFH.K w x cs) : cs = [.int .i64 x.p, x.h.v] := by
  obtain ⟨_, _, rfl, rfl, rfl⟩ := h
  rfl
theorem kFH_mk (w : World) (x : Fh) : kFH.K w x [.int .i64 x.p, x.h.v] := ⟨[.int .i64 x.p], [x.h.v], rfl, rfl, rfl⟩
theorem kFH_openM {w : World} {base : Nat} {ok : Nat → Prop} {x : Fh} {cs : List Value} (h : kFH.M w base ok x cs) : cs = [.int .i64 x.p, x.h.v] := by
  obtain ⟨_, _, rfl, rfl, rfl⟩ := h
  rfl
theorem kFH_mkM (w : World) (base : Nat) (ok : Nat → Prop) (x : Fh) : kFH.M w base ok x [.int .i64 x.p, x.h.v] := ⟨[.int .i64 x.p], [x.h.v], rfl, rfl, rfl⟩
theorem madeF {W : World} {base : Nat} : ∀ (x : Fh) cs, kFH.K W x cs → kFH.M W base (fun _ => False) x cs := fun x cs h => by rw [kFH_open h]; exact kFH_mkM _ _ _ _
theorem made45 {W : World} {base : Nat} : ∀ (x : S45) cs, k45.K W x cs → k45.M W base (fun _ => False) x cs := fun x cs h => by rw [k45_open h]; exact k45_mkM _ _ _ _
/-- The films' headers, and what they say. -/
structure FhOk (w : World) (xs : List Fh) (fs : List S49) : Prop where
  len : xs.length = fs.length
  row : ∀ (i : Nat) (x : Fh) (f : S49), xs[i]? = some x → fs[i]? = some f → x.p = f.f0 ∧ x.h.n = f.f1.length ∧ f.f1.length ≤ x.h.c ∧ Kd.C kI w x.h.A f.f1.length f.f1
theorem FhOk.below {w w' : World} {xs : List Fh} {fs : List S49} (h : FhOk w xs fs) (l : Below w.heap.size w w') : FhOk w' xs fs := ⟨h.len, fun i x f hx hf => by obtain ⟨a, b, c, d⟩ := h.row i x f hx hf; exact ⟨a, b, c, Kd.C_below d l⟩⟩
theorem list_of {α : Type} {R : Nat → α → Prop} : ∀ n, (∀ j, j < n → ∃ y, R j y) → ∃ l : List α, l.length = n ∧ ∀ (j : Nat) (y : α), l[j]? = some y → R j y
  | 0, _ => ⟨[], rfl, fun j y h => by simp at h⟩
  | n + 1, h => by
    obtain ⟨l, h1, h2⟩ := list_of n fun j hj => h j (by omega)
    obtain ⟨y, hy⟩ := h n (by omega)
    refine ⟨l ++ [y], by simp [h1], fun j z hz => ?_⟩
    by_cases hj : j < l.length
    · rw [List.getElem?_append_left hj] at hz
      exact h2 j z hz
    · have hl := (List.getElem?_eq_some_iff.1 hz).1
      rw [List.length_append, List.length_singleton] at hl
      obtain rfl : j = l.length := by omega
      rw [List.getElem?_append_right (Nat.le_refl _)] at hz
      simp at hz
      rw [← hz, h1]
      exact hy
theorem fh_of {w : World} {A : Option Addr} {n : Nat} {fs : List S49} (h : Kd.C k49 w A n fs) : ∃ xs, Kd.C kFH w A n xs ∧ FhOk w xs fs := by
  obtain ⟨h1, h2, h3⟩ := h
  have key : ∀ j, j < fs.length → ∃ y : Fh, ∀ f, fs[j]? = some f → (y.p = f.f0 ∧ y.h.n = f.f1.length ∧ f.f1.length ≤ y.h.c ∧ Kd.C kI w y.h.A f.f1.length f.f1) ∧ ∀ ad, A = some ad → ∀ i u, ([.int .i64 y.p, y.h.v] : List Value)[i]? = some u → w.cell? (ad.add (j * 2 + i)) = some u := fun j hj => by
    obtain ⟨f, hf⟩ := get_ex hj
    obtain ⟨ad, e, hc⟩ := h3 (by omega)
    obtain ⟨c, q1, q2, q3⟩ := hc j f hf
    obtain ⟨a0, k0, rfl, r1, r2⟩ := k49_open q2
    refine ⟨⟨f.f0, ⟨a0, f.f1.length, k0⟩⟩, fun f' hf' => ?_⟩
    rw [hf] at hf'
    injection hf' with hf'
    subst hf'
    refine ⟨⟨rfl, rfl, r1, r2⟩, fun ad' he => ?_⟩
    rw [e] at he
    injection he with he
    subst he
    exact q3
  obtain ⟨xs, g1, g2⟩ := list_of fs.length key
  refine ⟨xs, ⟨by omega, h2, fun hn => ?_⟩, g1, fun i x f hx hf => (g2 i x hx f hf).1⟩
  obtain ⟨ad, e, _⟩ := h3 hn
  refine ⟨ad, e, fun j x hx => ⟨_, rfl, kFH_mk w x, fun i u hu => ?_⟩⟩
  have hj := (List.getElem?_eq_some_iff.1 hx).1
  obtain ⟨f, hf⟩ := get_ex (show j < fs.length by omega)
  exact (g2 j x hx f hf).2 ad e i u hu
theorem of_fh {w : World} {A : Option Addr} {n : Nat} {xs : List Fh} {fs : List S49} (h : Kd.C kFH w A n xs) (k : FhOk w xs fs) : Kd.C k49 w A n fs := by
  obtain ⟨h1, h2, h3⟩ := h
  have hl := k.len
  refine ⟨by omega, h2, fun hn => ?_⟩
  obtain ⟨ad, e, hc⟩ := h3 hn
  refine ⟨ad, e, fun j f hf => ?_⟩
  have hj := (List.getElem?_eq_some_iff.1 hf).1
  obtain ⟨x, hx⟩ := get_ex (show j < xs.length by omega)
  obtain ⟨c, q1, q2, q3⟩ := hc j x hx
  have := kFH_open q2
  subst this
  obtain ⟨r1, r2, r3, r4⟩ := k.row j x f hx hf
  refine ⟨_, rfl, k49_mk w f r3 r4, fun i u hu => q3 i u ?_⟩
  rw [r1, Hd.v, r2]
  exact hu
/-- The cells of a film in a row of our own, and what a write makes of it. -/
theorem fh_at {W : World} {base g n c : Nat} {xs : List Fh} {i : Nat} {x : Fh} (R : Kd.R kFH 49 W base (fun _ => True) (.slice (some ⟨g, 0, none⟩) n c) xs) (hi : xs[i]? = some x) :
    W.cell? ⟨g, i * 2, none⟩ = some (.int .i64 x.p) ∧ W.cell? ⟨g, i * 2 + 1, none⟩ = some x.h.v ∧ (∀ j, W.frozen? ⟨g, i * 2 + j, none⟩ = false) ∧
      (∀ y : Hd, Kd.R kFH 49 (W.setCell ⟨g, i * 2 + 1, none⟩ y.v) base (fun _ => True) (.slice (some ⟨g, 0, none⟩) n c) (xs.set i ⟨x.p, y⟩) ∧ W.grownBy (W.setCell ⟨g, i * 2 + 1, none⟩ y.v) (some g)) ∧
      (∀ y : Int, Kd.R kFH 49 (W.setCell ⟨g, i * 2, none⟩ (.int .i64 y)) base (fun _ => True) (.slice (some ⟨g, 0, none⟩) n c) (xs.set i ⟨y, x.h⟩) ∧ W.grownBy (W.setCell ⟨g, i * 2, none⟩ (.int .i64 y)) (some g)) := by
  have hil := (List.getElem?_eq_some_iff.1 hi).1
  have hn := (Kd.R_reads' R).1
  obtain ⟨cs, h1, h2, h3, h4⟩ := Kd.R_elem R x (i : Int) (by omega) (by omega)
  have hx : xs.getD i x = x := by simp [List.getD_eq_getElem?_getD, hi]
  rw [Int.toNat_natCast, hx] at h2
  have hcs := kFH_openM h2
  subst hcs
  rw [Int.toNat_natCast] at h3 h4
  refine ⟨h3 0 _ rfl, h3 1 _ rfl, h4, fun y => ?_, fun y => ?_⟩
  · have := Kd.R_seg R (i : Int) (by omega) (by omega) (seg := [y.v]) (j := 1) h1 (by rw [Int.toNat_natCast]; exact h3) (by show 1 + 1 ≤ 2; decide) (x' := ⟨x.p, y⟩) (okp := fun _ => False) (kFH_mkM _ _ _ ⟨x.p, y⟩) (fun _ hk => hk.elim)
    rw [Int.toNat_natCast] at this
    exact this
  · have := Kd.R_seg R (i : Int) (by omega) (by omega) (seg := [.int .i64 y]) (j := 0) h1 (by rw [Int.toNat_natCast]; exact h3) (by show 0 + 1 ≤ 2; decide) (x' := ⟨y, x.h⟩) (okp := fun _ => False) (kFH_mkM _ _ _ ⟨y, x.h⟩) (fun _ hk => hk.elim)
    rw [Int.toNat_natCast] at this
    exact this
/-- Films whose first crowds are rows of our own. -/
structure Mid (w : World) (base i : Nat) (xs : List Fh) (fs : List S49) : Prop where
  len : xs.length = fs.length
  row : ∀ (j : Nat) (x : Fh) (f : S49), xs[j]? = some x → fs[j]? = some f → x.p = f.f0 ∧ (j < i → Kd.R kI 3 w base (fun _ => True) x.h.v f.f1)
theorem Mid.start {w w' : World} {base : Nat} {xs : List Fh} {fs : List S49} (h : FhOk w xs fs) : Mid w' base 0 xs fs := ⟨h.len, fun j x f hx hf => ⟨(h.row j x f hx hf).1, fun hj => by omega⟩⟩
theorem Mid.below {w w' : World} {base i : Nat} {xs : List Fh} {fs : List S49} (h : Mid w base i xs fs) (l : Below w.heap.size w w') : Mid w' base i xs fs := ⟨h.len, fun j x f hx hf => ⟨(h.row j x f hx hf).1, fun hj => Kd.R_below ((h.row j x f hx hf).2 hj) l⟩⟩
theorem Mid.over {w w' : World} {base i g t : Nat} {cs : Array Value} {xs : List Fh} {fs : List S49} (h : Mid w base i xs fs) (hb : w.heap[g]? = some (.cells cs t (0, 0))) (ht : 3 ≠ t) (hg : w.grownBy w' (some g)) : Mid w' base i xs fs := ⟨h.len, fun j x f hx hf => ⟨(h.row j x f hx hf).1, fun hj => Kd.R_grown1 ((h.row j x f hx hf).2 hj) rfl hg (Kd.R_ne ((h.row j x f hx hf).2 hj) hb ht)⟩⟩
theorem Mid.grown {w w' : World} {base i g : Nat} {xs : List Fh} {fs : List S49} (h : Mid w base i xs fs) (hg : w.grownBy w' (some g)) (hb : ∃ cs t, w.heap[g]? = some (.cells cs t (0, 0)) ∧ 3 ≠ t) : Mid w' base i xs fs := by
  obtain ⟨cs, t, hb, ht⟩ := hb
  exact h.over hb ht hg
theorem Mid.put {w : World} {base i : Nat} {xs : List Fh} {fs : List S49} {x : Fh} {f : S49} {y : Hd} (h : Mid w base i xs fs) (hx : xs[i]? = some x) (hf : fs[i]? = some f) (hy : Kd.R kI 3 w base (fun _ => True) y.v f.f1) : Mid w base (i + 1) (xs.set i ⟨x.p, y⟩) fs := by
  refine ⟨by rw [List.length_set]; exact h.len, fun j z k hz hk => ?_⟩
  by_cases e : i = j
  · subst e
    rw [List.getElem?_set_self (List.getElem?_eq_some_iff.1 hx).1] at hz
    injection hz with hz
    subst hz
    rw [hf] at hk
    injection hk with hk
    subst hk
    exact ⟨(h.row i x f hx hf).1, fun _ => hy⟩
  · rw [List.getElem?_set_ne e] at hz
    exact ⟨(h.row j z k hz hk).1, fun hj => (h.row j z k hz hk).2 (by omega)⟩
theorem Mid.ok {w : World} {base : Nat} {xs : List Fh} {fs : List S49} (h : Mid w base fs.length xs fs) : FhOk w xs fs := ⟨h.len, fun i x f hx hf => by
  obtain ⟨h1, h2⟩ := h.row i x f hx hf
  have := h2 (List.getElem?_eq_some_iff.1 hf).1
  obtain ⟨q1, q2, q3⟩ := Kd.R_reads' (show Kd.R kI 3 w base _ (.slice x.h.A x.h.n x.h.c) f.f1 from this)
  exact ⟨h1, q1, by omega, q3⟩⟩
/-- A week in rows of our own. -/
structure WR (bs : Nat) (w : World) (V : Wk) (m : Wa) : Prop where
  rs : Kd.R kI 3 w bs (fun _ => True) (.slice m.A V.rs.length m.a) V.rs
  fs : ∃ xs, Kd.R kFH 49 w bs (fun _ => True) (.slice m.B V.fs.length m.b) xs ∧ Mid w bs V.fs.length xs V.fs
  ds : Kd.R k45 45 w bs (fun _ => True) (.slice m.C V.ds.length m.c) V.ds
theorem WR.below {bs : Nat} {w w' : World} {V : Wk} {m : Wa} (h : WR bs w V m) (l : Below w.heap.size w w') : WR bs w' V m := by
  obtain ⟨xs, h1, h2⟩ := h.fs
  exact ⟨Kd.R_below h.rs l, ⟨xs, Kd.R_below h1 l, h2.below l⟩, Kd.R_below h.ds l⟩
set_option maxRecDepth 100000 in
theorem lit23n (W : World) : (Instr.buildSlice 23 0 #[]).run Try.prog W = .ok (.slice (some ⟨W.heap.size, 0, none⟩) 0 0) (W.alloc (.cells #[] 49)) := by
  have hu23 := Try.underlying23
  go_simp
set_option maxRecDepth 100000 in
theorem lit24n (W : World) : (Instr.buildSlice 24 0 #[]).run Try.prog W = .ok (.slice (some ⟨W.heap.size, 0, none⟩) 0 0) (W.alloc (.cells #[] 45)) := by
  have hu24 := Try.underlying24
  go_simp
set_option maxRecDepth 100000 in
set_option maxHeartbeats 8000000 in

theorem copy_calls (V : Wk) (m : Wa) (w : World) (hV : WM w V m) (hs : Sz V) :
    Calls Try.prog 14 #[wv V m] w fun e w' => ∃ m', e = .returned (wv V m') ∧ WR w.heap.size w' V m' ∧ Below w.heap.size w w' := by
  have hsr := hs.r
  have hsf := hs.f
  have hsd := hs.d
  obtain ⟨xs0, hX0, hFh0⟩ := fh_of hV.fs
  have hu3 := Try.underlying3
  have hu22 := Try.underlying22
  have hu23 := Try.underlying23
  have hu24 := Try.underlying24
  have hu26 := Try.underlying26
  have hu49 := Try.underlying49
  obtain ⟨z3, o3⟩ := info_some info3s (by decide)
  obtain ⟨z22, o22⟩ := info_some info22s (by decide)
  obtain ⟨z23, o23⟩ := info_some info23s (by decide)
  obtain ⟨z24, o24⟩ := info_some info24s (by decide)
  obtain ⟨z26, o26⟩ := info_some info26s (by decide)
  obtain ⟨z49, o49⟩ := info_some info49s (by decide)
  refine E.enter (N := 42) Try.func14 rfl Try.ntmps14 (args := [wv V m]) (by simp) ?_
  have L := Below.refl w.heap.size w
  refine E.CG.seq ?_
  refine E.CG.list ?_
  refine E.GL.st rfl rfl rfl (E.ST.box rfl rfl fun g1 w1 e1 b1 l1 => ?_)
  have h1_L : w.heap.size ≤ g1 := by rw [e1]; exact L.size
  replace L := below_step L l1
  refine E.GL.st rfl rfl rfl (E.ST.alloc rfl info26z fun g2 w2 e2 b2 l2 => ?_)
  have h2_L : w.heap.size ≤ g2 := by rw [e2]; exact L.size
  have n2_b1 : g1 ≠ g2 := by have := blk_lt b1; omega
  replace b1 := blk_below b1 l2
  replace L := below_step L l2
  refine E.GL.done ?_
  refine E.QG.code ?_
  refine E.CG.seq ?_
  refine E.CG.list ?_
  refine E.GL.run rfl rfl rfl (E.Runs.loads (cs := [.int .i64 V.d, .slice m.A V.rs.length m.a, .int .i64 V.h, .slice m.B V.fs.length m.b, .slice m.C V.ds.length m.c]) rfl rfl hu26 rfl info26s (blk_cells b1)) ?_
  refine E.GL.st rfl rfl rfl (E.ST.alloc rfl info26z fun g3 w3 e3 b3 l3 => ?_)
  have h3_L : w.heap.size ≤ g3 := by rw [e3]; exact L.size
  have n3_b1 : g1 ≠ g3 := by have := blk_lt b1; omega
  have n3_b2 : g2 ≠ g3 := by have := blk_lt b2; omega
  replace b1 := blk_below b1 l3
  replace b2 := blk_below b2 l3
  replace L := below_step L l3
  refine E.GL.store_whole rfl rfl rfl rfl rfl b3 rfl info26s (week_one _ _ _ _ _ _ _ _ _ _ _) fun wS1_2 c3 lS1_2 => ?_
  replace b1 := blk_grown b1 lS1_2 (E.nes (by first | assumption | exact Ne.symm (by assumption)))
  replace b2 := blk_grown b2 lS1_2 (E.nes (by first | assumption | exact Ne.symm (by assumption)))
  replace L := E.below_own L h3_L lS1_2
  replace b3 := c3
  clear c3
  refine E.GL.done ?_
  refine E.QG.code ?_
  refine E.CG.seq ?_
  refine E.CG.list ?_
  refine E.GL.st rfl rfl rfl (E.ST.litAt kI w.heap.size (w0 := w) (ys := []) (inner := []) rfl rfl E.epn lit22n (Reps.none _ _) L L.size (by simp) fun u6 w6 r6 k6 l6 n6 => ?_)
  replace b1 := blk_below b1 l6
  replace b2 := blk_below b2 l6
  replace b3 := blk_below b3 l6
  replace L := k6
  refine E.GL.run rfl rfl rfl (E.Runs.fieldAddr rfl rfl hu26 rfl (by assumption) rfl) ?_
  refine E.GL.run rfl rfl rfl (E.Runs.load1 rfl rfl hu22 rfl (by first | assumption | exact E.blkc (by assumption) rfl | exact pw_cell_below L (by assumption))) ?_
  refine E.GL.st rfl rfl rfl (E.ST.appendRows kI w.heap.size (w0 := w) (s := .tmp 6) (x := .tmp 8) rfl hu22 info3 rfl (by decide) (by decide) rfl rfl r6 (Kd.C_below hV.rs L) made22 L L.size (by simp only [List.length_nil]; omega) fun u9 w9 R9 k9 g9 => ?_)
  replace b1 := blk_grown b1 g9 (Kd.R_ne r6 b1 (by decide))
  replace b2 := blk_grown b2 g9 (Kd.R_ne r6 b2 (by decide))
  replace b3 := blk_grown b3 g9 (Kd.R_ne r6 b3 (by decide))
  replace L := k9
  rw [List.nil_append] at R9
  obtain ⟨A9, c9, hv9⟩ := Kd.R_slice R9
  subst hv9
  have rA := R9
  refine E.GL.run rfl rfl rfl (E.Runs.fieldAddr rfl rfl hu26 rfl (by assumption) rfl) ?_
  refine E.GL.sn rfl rfl (E.ST.storeSl (cs := [.int .i64 V.d, .slice m.A V.rs.length m.a, .int .i64 V.h, .slice m.B V.fs.length m.b, .slice m.C V.ds.length m.c]) rfl z22 o22 rfl rfl b3 rfl rfl fun wS25 c3 lS25 => ?_)
  replace b1 := blk_grown b1 lS25 (E.nes (by first | assumption | exact Ne.symm (by assumption)))
  replace b2 := blk_grown b2 lS25 (E.nes (by first | assumption | exact Ne.symm (by assumption)))
  replace rA := Kd.R_grown1 rA rfl lS25 (Kd.R_ne rA b3 (by decide))
  replace L := E.below_own L h3_L lS25
  replace b3 := c3
  refine E.GL.done ?_
  refine E.QG.code ?_
  refine E.CG.seq ?_
  refine E.CG.list ?_
  refine E.GL.st rfl rfl rfl (E.ST.litAt kFH w.heap.size (w0 := w) (ys := []) (inner := []) rfl rfl E.epn lit23n (Reps.none _ _) L L.size (by simp) fun u11 w11 r11 k11 l11 n11 => ?_)
  replace b1 := blk_below b1 l11
  replace b2 := blk_below b2 l11
  replace b3 := blk_below b3 l11
  replace rA := Kd.R_below rA l11
  replace L := k11
  refine E.GL.run rfl rfl rfl (E.Runs.fieldAddr rfl rfl hu26 rfl (by assumption) rfl) ?_
  refine E.GL.run rfl rfl rfl (E.Runs.load1 rfl rfl hu23 rfl (by first | assumption | exact E.blkc (by assumption) rfl | exact pw_cell_below L (by assumption))) ?_
  refine E.GL.st rfl rfl rfl (E.ST.appendRows kFH w.heap.size (w0 := w) (s := .tmp 11) (x := .tmp 13) rfl hu23 info49 rfl (by decide) (by decide) rfl rfl r11 (Kd.C_below hX0 L) madeF L L.size (by simp only [List.length_nil]; omega) fun u14 w14 R14 k14 g14 => ?_)
  replace b1 := blk_grown b1 g14 (Kd.R_ne r11 b1 (by decide))
  replace b2 := blk_grown b2 g14 (Kd.R_ne r11 b2 (by decide))
  replace b3 := blk_grown b3 g14 (Kd.R_ne r11 b3 (by decide))
  replace rA := E.R_over' rA r11 (by decide) g14
  replace L := k14
  rw [List.nil_append] at R14
  obtain ⟨A14, c14, hv14⟩ := Kd.R_slice R14
  rw [hFh0.len] at hv14
  subst hv14
  have rF := R14
  refine E.GL.run rfl rfl rfl (E.Runs.fieldAddr rfl rfl hu26 rfl (by assumption) rfl) ?_
  refine E.GL.sn rfl rfl (E.ST.storeSl (cs := [.int .i64 V.d, .slice A9 V.rs.length c9, .int .i64 V.h, .slice m.B V.fs.length m.b, .slice m.C V.ds.length m.c]) rfl z23 o23 rfl rfl b3 rfl rfl fun wS35 c3 lS35 => ?_)
  replace b1 := blk_grown b1 lS35 (E.nes (by first | assumption | exact Ne.symm (by assumption)))
  replace b2 := blk_grown b2 lS35 (E.nes (by first | assumption | exact Ne.symm (by assumption)))
  replace rA := Kd.R_grown1 rA rfl lS35 (Kd.R_ne rA b3 (by decide))
  replace rF := Kd.R_grown1 rF rfl lS35 (Kd.R_ne rF b3 (by decide))
  replace L := E.below_own L h3_L lS35
  replace b3 := c3
  refine E.GL.done ?_
  refine E.QG.code ?_
  refine E.CG.seq ?_
  refine E.CG.seq ?_
  refine E.CG.list ?_
  refine E.GL.run rfl rfl rfl (E.Runs.assign rfl rfl) ?_
  refine E.GL.done ?_
  refine E.QG.code ?_
  refine E.CG.block ?_
  have hM : Mid _ w.heap.size 0 xs0 V.fs := Mid.start (w' := wS35) hFh0
  have s5_b1 := b1
  have s5_b2 := b2
  have s5_b3 := b3
  have s5_L := L
  refine E.CG.loop2 (fun (i : Nat) (xs : List Fh) => [(1, .pointer (some ⟨g1, 0, none⟩)), (2, .pointer (some ⟨g2, 0, none⟩)), (3, .pointer (some ⟨g3, 0, none⟩)), (4, .int .i64 (i : Int))]) (fun i xs w' => i ≤ V.fs.length ∧ w'.heap[g1]? = some (.cells #[.int .i64 V.d, .slice m.A V.rs.length m.a, .int .i64 V.h, .slice m.B V.fs.length m.b, .slice m.C V.ds.length m.c] 26 (0, 0)) ∧ w'.heap[g2]? = some (.cells #[.int .i64 0, .slice none 0 0, .int .i64 0, .slice none 0 0, .slice none 0 0] 26 (0, 0)) ∧ w'.heap[g3]? = some (.cells #[.int .i64 V.d, .slice A9 V.rs.length c9, .int .i64 V.h, .slice A14 V.fs.length c14, .slice m.C V.ds.length m.c] 26 (0, 0)) ∧ Kd.R kI 3 w' w.heap.size (fun _ => True) (.slice A9 V.rs.length c9) V.rs ∧ Kd.R kFH 49 w' w.heap.size (fun _ => True) (.slice A14 V.fs.length c14) xs ∧ Mid w' w.heap.size i xs V.fs ∧ Below w.heap.size w w') (fun i xs => V.fs.length - i) 0 xs0 (E.subc rfl (E.subc rfl (E.subc rfl (E.subc rfl E.subn)))) ⟨Nat.zero_le _, b1, b2, b3, rA, rF, hM, L⟩ ?_
  rintro i xs w5 ⟨hi, b1, b2, b3, rA, rF, hM, L⟩
  refine E.CG.seq ?_
  refine E.CG.seq ?_
  refine E.CG.list ?_
  refine E.GL.run rfl rfl rfl (E.Runs.move rfl rfl) ?_
  refine E.GL.run rfl rfl rfl (E.Runs.fieldAddr rfl rfl hu26 rfl (by assumption) rfl) ?_
  refine E.GL.run rfl rfl rfl (E.Runs.load1 rfl rfl hu23 rfl (by first | assumption | exact E.blkc (by assumption) rfl | exact pw_cell_below L (by assumption))) ?_
  refine E.GL.run rfl rfl rfl (E.Runs.len rfl rfl hu23) ?_
  refine E.GL.cmp rfl rfl rfl (fun _ h => (E.Runs.lss rfl rfl rfl h)) (fun h20 => ?_) (fun h20 => ?_)
  · obtain ⟨f, hfi⟩ := get_ex (show i < V.fs.length by omega)
    obtain ⟨ad, a0, k0, eA, hk0, hx0, X⟩ := film_at hV.fs hfi
    have hcl := hs.c f (mem_of hfi)
    have hxl := hM.len
    obtain ⟨x2, hx2⟩ := get_ex (show i < xs.length by omega)
    obtain ⟨gF, cF0, hvF, hbF, hlF, cFs, bF0⟩ := Kd.R_form rF (by omega)
    obtain ⟨rfl, _, rfl⟩ : A14 = some ⟨gF, 0, none⟩ ∧ True ∧ c14 = cF0 := by injection hvF with q1 q2 q3; exact ⟨q1, trivial, q3⟩
    refine E.GL.done ?_
    refine E.QG.code ?_
    refine E.CG.cond_t rfl ?_
    refine E.CG.skip ?_
    refine E.QG.code ?_
    refine E.CG.seq ?_
    refine E.CG.block ?_
    refine E.CG.heldJ 13 (fun v W => v.grownBy W (none)) (fun _ _ => True) (by kernel_rfl) (by kernel_rfl) (fun v => World.grownBy.refl _ _) fun v7 lD => ?_
    replace b1 := blk_below b1 lD
    replace b2 := blk_below b2 lD
    replace b3 := blk_below b3 lD
    replace rA := Kd.R_below rA lD
    replace rF := Kd.R_below rF lD
    replace hM := hM.below lD
    replace L := below_step L lD
    have lD7 := lD
    clear lD
    have s_rA := rA
    have s_rF := rF
    have s_hM := hM
    have K := Below.refl v7.heap.size v7
    have hL7 := L.size
    have hx0v := Kd.C_below hx0 L
    have s_b1 := b1
    have s_b2 := b2
    have s_b3 := b3
    have s_L := L
    have s_hM := hM
    have hh : v7.grownBy v7 (none) := World.grownBy.refl _ _
    refine E.GJ.take1 (i := 0) rfl (by kernel_rfl) (by kernel_rfl) (by kernel_rfl) (by kernel_rfl) rfl (by kernel_rfl) (by kernel_rfl) (by intro c a d v w h; first | (cases d <;> exact h) | exact nomatch (show _ ∧ _ from h).1) rfl rfl rfl (fun w' hS => (E.Runs.fieldAddr rfl rfl hu26 rfl (by assumption) rfl)) ?_
    refine E.GJ.take1 (i := 1) rfl (by kernel_rfl) (by kernel_rfl) (by kernel_rfl) (by kernel_rfl) rfl (by kernel_rfl) (by kernel_rfl) (by intro c a d v w h; first | (cases d <;> exact h) | exact nomatch (show _ ∧ _ from h).1) rfl rfl rfl (fun w' hS => (E.Runs.load1 rfl rfl hu23 rfl (by first | exact E.keeps hS (E.blkc (by assumption) rfl) (by first | exact E.nen | exact E.nes (by assumption) | exact E.nes (Ne.symm (by assumption))) | exact pw_cell_below (below_step s_L (E.belowG hS)) (by assumption)))) ?_
    refine E.GJ.take1 (i := 2) rfl (by kernel_rfl) (by kernel_rfl) (by kernel_rfl) (by kernel_rfl) rfl (by kernel_rfl) (by kernel_rfl) (by intro c a d v w h; first | (cases d <;> exact h) | exact nomatch (show _ ∧ _ from h).1) rfl rfl rfl (fun w' hS => (E.Runs.move rfl rfl)) ?_
    refine E.GJ.take1 (i := 4) rfl (by kernel_rfl) (by kernel_rfl) (by kernel_rfl) (by kernel_rfl) rfl (by kernel_rfl) (by kernel_rfl) (by intro c a d v w h; first | (cases d <;> exact h) | exact nomatch (show _ ∧ _ from h).1) rfl rfl rfl (fun w' hS => (E.Runs.fieldAddr rfl rfl hu26 rfl (by assumption) rfl)) ?_
    refine E.GJ.take1 (i := 5) rfl (by kernel_rfl) (by kernel_rfl) (by kernel_rfl) (by kernel_rfl) rfl (by kernel_rfl) (by kernel_rfl) (by intro c a d v w h; first | (cases d <;> exact h) | exact nomatch (show _ ∧ _ from h).1) rfl rfl rfl (fun w' hS => (E.Runs.load1 rfl rfl hu23 rfl (by first | exact E.keeps hS (E.blkc (by assumption) rfl) (by first | exact E.nen | exact E.nes (by assumption) | exact E.nes (Ne.symm (by assumption))) | exact pw_cell_below (below_step s_L (E.belowG hS)) (by assumption)))) ?_
    refine E.GJ.take1 (i := 6) rfl (by kernel_rfl) (by kernel_rfl) (by kernel_rfl) (by kernel_rfl) rfl (by kernel_rfl) (by kernel_rfl) (by intro c a d v w h; first | (cases d <;> exact h) | exact nomatch (show _ ∧ _ from h).1) rfl rfl rfl (fun w' hS => (E.Runs.move rfl rfl)) ?_
    refine E.GJ.take1 (i := 7) rfl (by kernel_rfl) (by kernel_rfl) (by kernel_rfl) (by kernel_rfl) rfl (by kernel_rfl) (by kernel_rfl) (by intro c a d v w h; first | (cases d <;> exact h) | exact nomatch (show _ ∧ _ from h).1) rfl rfl rfl (fun w' hS => (E.Runs.indexAddrA (i := i) rfl rfl rfl hu23 z49 o49 (by omega) eA rfl)) ?_
    refine E.GJ.take1 (i := 8) rfl (by kernel_rfl) (by kernel_rfl) (by kernel_rfl) (by kernel_rfl) rfl (by kernel_rfl) (by kernel_rfl) (by intro c a d v w h; first | (cases d <;> exact h) | exact nomatch (show _ ∧ _ from h).1) rfl rfl rfl (fun w' hS => (E.Runs.fieldAddr rfl rfl hu49 rfl (by assumption) rfl)) ?_
    refine E.GJ.take1 (i := 9) rfl (by kernel_rfl) (by kernel_rfl) (by kernel_rfl) (by kernel_rfl) rfl (by kernel_rfl) (by kernel_rfl) (by intro c a d v w h; first | (cases d <;> exact h) | exact nomatch (show _ ∧ _ from h).1) rfl rfl rfl (fun w' hS => (E.Runs.load1 rfl rfl hu22 rfl (show _ = some (Value.slice a0 f.f1.length k0) from E.keeps hS (pw_cell_below s_L (X 1 _ rfl)) E.nen))) ?_
    refine E.GJ.one (i := 3) (by kernel_rfl) (E.OJ.st rfl rfl rfl rfl (E.ST.litAt kI v7.heap.size (w0 := v7) (ys := ([] : List Int)) (inner := []) rfl rfl E.epn lit22n (Reps.none _ _) K K.size (by simp) fun u26 w26 r26 k26 l26 n26 => ⟨(E.SJ.before (by kernel_rfl)).mpr (E.gbB k26), ?_⟩))
    replace K := k26
    refine E.GJ.one (i := 10) (by kernel_rfl) (E.OJ.st rfl rfl rfl rfl (E.ST.appendRows kI v7.heap.size (w0 := v7) (s := .tmp 26) (x := .tmp 32) rfl hu22 info3 rfl (by decide) (by decide) rfl rfl r26 (Kd.C_below hx0v K) made22 K K.size (by simp only [List.length_nil]; omega) fun u33 w33 R33 k33 g33 => ⟨(E.SJ.before (by kernel_rfl)).mpr (E.gbB k33), ?_⟩))
    replace K := k33
    rw [List.nil_append] at R33
    obtain ⟨A33, c33, hv33⟩ := Kd.R_slice R33
    subst hv33
    replace R33 := Kd.R_lower R33 hL7
    replace b1 := blk_below s_b1 K
    replace b2 := blk_below s_b2 K
    replace b3 := blk_below s_b3 K
    replace rA := Kd.R_below s_rA K
    replace rF := Kd.R_below s_rF K
    replace hM := s_hM.below K
    replace L := below_step s_L K
    obtain ⟨_, hc33, hf33, hset, _⟩ := fh_at rF hx2
    obtain ⟨rF2, gF2⟩ := hset ⟨A33, f.f1.length, c33⟩
    obtain ⟨cF, bF⟩ : ∃ cs, w33.heap[gF]? = some (.cells cs 49 (0, 0)) := by
      obtain ⟨_, hoF⟩ := Kd.R_own rF
      exact own_typed hoF gF rfl
    refine E.GJ.take1t (i := 11) 12 rfl (by kernel_rfl) (by kernel_rfl) (by kernel_rfl) (by kernel_rfl) rfl (by kernel_rfl) rfl (by kernel_rfl) (by kernel_rfl) (by kernel_rfl) (by kernel_rfl) (by kernel_rfl) (by intro c a d v w h; first | (cases d <;> exact h) | exact nomatch (show _ ∧ _ from h).1) rfl rfl rfl (fun w' hS => (E.Runs.indexAddrA (i := i) rfl rfl rfl hu23 z49 o49 (by omega) rfl (show _ = (⟨gF, i * 2, none⟩ : Addr) from by rw [Go.Addr.add_mid, Nat.zero_add]))) ?_
    refine E.GJ.take1 (i := 12) rfl (by kernel_rfl) (by kernel_rfl) (by kernel_rfl) (by kernel_rfl) rfl (by kernel_rfl) (by kernel_rfl) (by intro c a d v w h; first | (cases d <;> exact h) | exact nomatch (show _ ∧ _ from h).1) rfl rfl rfl (fun w' hS => (E.Runs.fieldAddr rfl rfl hu49 rfl (by assumption) rfl)) ?_
    refine E.GJ.one (i := 13) (by kernel_rfl) (E.OJ.sn rfl rfl rfl (E.ST.storeNS (old := x2.h.v) rfl z22 o22 rfl rfl hc33 (hf33 1) ⟨(E.SJ.behind (by kernel_rfl)).mpr trivial, ?_⟩))
    have hgF := Kd.R_base rF gF rfl
    replace b1 := blk_grown b1 gF2 (Kd.R_ne rF b1 (by decide))
    replace b2 := blk_grown b2 gF2 (Kd.R_ne rF b2 (by decide))
    replace b3 := blk_grown b3 gF2 (Kd.R_ne rF b3 (by decide))
    replace rA := E.R_over rA bF (by decide) gF2
    have R33b := E.R_over R33 bF (by decide) gF2
    have hM2 := (hM.over bF (by decide) gF2).put (y := ⟨A33, f.f1.length, c33⟩) hx2 hfi R33b
    replace L := E.below_own L hgF gF2
    refine E.GJ.done (by kernel_rfl) ?_
    refine E.QG.block_normal ?_
    refine E.QG.code ?_
    refine E.CG.list ?_
    refine E.GL.run rfl rfl rfl (E.Runs.move rfl rfl) ?_
    refine E.GL.run rfl rfl rfl (E.Runs.add rfl rfl rfl (IntWalk.i64_in _ (by omega))) ?_
    refine E.GL.run rfl rfl rfl (E.Runs.assign rfl rfl) ?_
    refine E.GL.done ?_
    exact E.QG.round2 (d := []) (i + 1) (xs.set i ⟨x2.p, ⟨A33, f.f1.length, c33⟩⟩) (E.subc rfl (E.subc rfl (E.subc rfl (E.subc rfl E.subn)))) ⟨by omega, b1, b2, b3, rA, rF2, hM2, L⟩ (by omega)
  · obtain rfl : i = V.fs.length := by omega
    refine E.GL.done ?_
    refine E.QG.code ?_
    refine E.CG.cond_f rfl ?_
    refine E.CG.exit ?_
    refine E.QG.pass_exit ?_
    refine E.QG.pass_exit ?_
    refine E.QG.block_here ?_
    refine E.QG.code ?_
    refine E.CG.seq ?_
    refine E.CG.list ?_
    refine E.GL.st rfl rfl rfl (E.ST.litAt k45 w.heap.size (w0 := w) (ys := []) (inner := []) rfl rfl E.epn lit24n (Reps.none _ _) L L.size (by simp) fun u36 w36 r36 k36 l36 n36 => ?_)
    replace b1 := blk_below b1 l36
    replace b2 := blk_below b2 l36
    replace b3 := blk_below b3 l36
    replace rA := Kd.R_below rA l36
    replace rF := Kd.R_below rF l36
    replace hM := hM.below l36
    replace L := k36
    refine E.GL.run rfl rfl rfl (E.Runs.fieldAddr rfl rfl hu26 rfl (by assumption) rfl) ?_
    refine E.GL.run rfl rfl rfl (E.Runs.load1 rfl rfl hu24 rfl (by first | assumption | exact E.blkc (by assumption) rfl | exact pw_cell_below L (by assumption))) ?_
    refine E.GL.st rfl rfl rfl (E.ST.appendRows k45 w.heap.size (w0 := w) (s := .tmp 36) (x := .tmp 38) rfl hu24 info45 rfl (by decide) (by decide) rfl rfl r36 (Kd.C_below hV.ds L) made45 L L.size (by simp only [List.length_nil]; omega) fun u39 w39 R39 k39 g39 => ?_)
    replace b1 := blk_grown b1 g39 (Kd.R_ne r36 b1 (by decide))
    replace b2 := blk_grown b2 g39 (Kd.R_ne r36 b2 (by decide))
    replace b3 := blk_grown b3 g39 (Kd.R_ne r36 b3 (by decide))
    replace rA := E.R_over' rA r36 (by decide) g39
    replace rF := E.R_over' rF r36 (by decide) g39
    obtain ⟨hz, cz, hoz, bz⟩ : ∃ k cs, u36.ownBlock = some k ∧ w36.heap[k]? = some (.cells cs 45 (0, 0)) := by
      obtain ⟨k, hk, _⟩ := n36
      obtain ⟨_, ho⟩ := Kd.R_own r36
      obtain ⟨cs, hcs⟩ := own_typed ho k hk
      exact ⟨k, cs, hk, hcs⟩
    replace hM := hM.over bz (by decide) (hoz ▸ g39)
    replace L := k39
    rw [List.nil_append] at R39
    obtain ⟨A39, c39, hv39⟩ := Kd.R_slice R39
    subst hv39
    have rD := R39
    refine E.GL.run rfl rfl rfl (E.Runs.fieldAddr rfl rfl hu26 rfl (by assumption) rfl) ?_
    refine E.GL.sn rfl rfl (E.ST.storeSl (cs := [.int .i64 V.d, .slice A9 V.rs.length c9, .int .i64 V.h, .slice A14 V.fs.length c14, .slice m.C V.ds.length m.c]) rfl z24 o24 rfl rfl b3 rfl rfl fun wS85 c3 lS85 => ?_)
    replace b1 := blk_grown b1 lS85 (E.nes (by first | assumption | exact Ne.symm (by assumption)))
    replace b2 := blk_grown b2 lS85 (E.nes (by first | assumption | exact Ne.symm (by assumption)))
    replace rA := Kd.R_grown1 rA rfl lS85 (Kd.R_ne rA b3 (by decide))
    replace rF := Kd.R_grown1 rF rfl lS85 (Kd.R_ne rF b3 (by decide))
    replace rD := Kd.R_grown1 rD rfl lS85 (Kd.R_ne rD b3 (by decide))
    replace hM := hM.over b3 (by decide) lS85
    replace L := E.below_own L h3_L lS85
    replace b3 := c3
    refine E.GL.done ?_
    refine E.QG.code ?_
    refine E.CG.seq ?_
    refine E.CG.list ?_
    refine E.GL.run rfl rfl rfl (E.Runs.loads (cs := [.int .i64 V.d, .slice A9 V.rs.length c9, .int .i64 V.h, .slice A14 V.fs.length c14, .slice A39 V.ds.length c39]) rfl rfl hu26 rfl info26s (blk_cells b3)) ?_
    have s9b2 := b2
    refine E.GL.store_whole rfl rfl rfl rfl rfl b2 rfl info26s (week_one _ _ _ _ _ _ _ _ _ _ _) fun wS9_1 c2 lS9_1 => ?_
    replace b1 := blk_grown b1 lS9_1 (E.nes (by first | assumption | exact Ne.symm (by assumption)))
    replace b3 := blk_grown b3 lS9_1 (E.nes (by first | assumption | exact Ne.symm (by assumption)))
    replace rA := Kd.R_grown1 rA rfl lS9_1 (by first | assumption | exact Kd.R_ne rA b2 (by decide))
    replace rF := Kd.R_grown1 rF rfl lS9_1 (by first | assumption | exact Kd.R_ne rF b2 (by decide))
    replace hM := hM.grown lS9_1 ⟨_, _, b2, by decide⟩
    replace L := E.below_own L h2_L lS9_1
    replace b2 := c2
    clear c2
    refine E.GL.done ?_
    refine E.QG.code ?_
    refine E.CG.ret ?_
    exact E.QG.result_c rfl rfl b2 hu26 rfl info26s ⟨⟨A9, c9, A14, c14, A39, c39⟩, rfl, ⟨rA, ⟨xs, rF, hM⟩, Kd.R_grown1 rD rfl lS9_1 (Kd.R_ne rD s9b2 (by decide))⟩, L⟩

end Go.Proofs.Ytdiambcjghlffaa.T
namespace Go.Proofs.Ytdiambcjghlffaa.T
open Go.RowKit Go.Proofs.YtdiambcjghlffaaW.PrintWords Go.Proofs.YtdiambcjghlffaaW.PrintMore
open Go.Proofs.Ytdiambcjghlffaa.P
set_option linter.unusedVariables false
set_option linter.unusedSimpArgs false
instance (V : Wk) (x : S45) (p : List Int) (day : Nat) : Decidable (Cln V x p day) := by
  unfold Cln
  exact decidable_of_iff (∃ r, r < V.rs.length ∧ (x.f6 ≤ V.rs.getD r 0 ∧ ∀ k, k < x.f5.toNat - x.f4.toNat + 1 → p.getD (slN V day r (x.f4.toNat + k)) 0 = x.f1)) Iff.rfl
instance (V : Wk) (x : S45) (p : List Int) : Decidable (Keep V x p) := by unfold Keep; infer_instance
abbrev eD0 : S45 := ⟨1, 1, 0, 0, 0, 1, 0, 2⟩
abbrev eD1 : S45 := ⟨3, 0, 0, 0, 0, 1, 100, 0⟩
theorem ex_ok : WOk eV := by decide
theorem ex_bad0 (p : List Int) : bad eV p 0 ↔ ¬ Keep eV eD0 p := bad_iff rfl
theorem ex_bad1 (p : List Int) : bad eV p 1 ↔ ¬ Keep eV eD1 p := bad_iff rfl
theorem ex_all (p : List Int) : Kp eV (allS eV) p ↔ Keep eV eD0 p ∧ Keep eV eD1 p := by
  rw [kp_all]
  constructor
  · intro h
    exact ⟨Classical.byContradiction fun q => h 0 (by decide) ((ex_bad0 p).mpr q), Classical.byContradiction fun q => h 1 (by decide) ((ex_bad1 p).mpr q)⟩
  · rintro ⟨h1, h2⟩ i hi
    rcases i with _ | _ | i
    · exact fun q => (ex_bad0 p).mp q h1
    · exact fun q => (ex_bad1 p).mp q h2
    · exact absurd hi (by show ¬ i + 2 < 2; omega)
theorem ex_wo (p : List Int) : Kp eV (woS eV 0) p ↔ Keep eV eD1 p := by
  have hb := fun i => without_bit eV (show 0 < eV.ds.length by decide) i
  constructor
  · intro h
    exact Classical.byContradiction fun q => (h 1 ((hb 1).mpr ⟨by decide, by decide⟩)).2 ((ex_bad1 p).mpr q)
  · intro h i hi
    obtain ⟨h1, h2⟩ := (hb i).mp hi
    refine ⟨h1, ?_⟩
    rcases i with _ | _ | i
    · exact absurd rfl h2
    · exact fun q => (ex_bad1 p).mp q h
    · exact absurd h1 (by show ¬ i + 2 < 2; omega)
theorem ex_check1 : ∀ p ∈ allP eV (Sl eV) [], Keep eV eD0 p ∧ Keep eV eD1 p → takes eV p ≤ 2520 := by decide +kernel
theorem ex_check2 : ∀ p ∈ allP eV (Sl eV) [], Keep eV eD1 p → takes eV p ≤ 2800 := by decide +kernel
theorem ex_mx : IsMx eV (allS eV) (some 2520) :=
  ⟨⟨[0, 0, 1, 1], by decide, (ex_all _).mpr (by decide +kernel), by decide +kernel⟩, fun p hp hk => ex_check1 p (allP_all.mpr hp) ((ex_all p).mp hk)⟩
theorem ex_mx2 : IsMx eV (woS eV 0) (some 2800) :=
  ⟨⟨[0, 0, 0, 0], by decide, (ex_wo _).mpr (by decide +kernel), by decide +kernel⟩, fun p hp hk => ex_check2 p (allP_all.mpr hp) ((ex_wo p).mp hk)⟩
theorem ex_most {n e : Int} (h : MostOk eV n e) : n = 2520 ∧ e = 0 := h.one (.inr ⟨ex_ok, some 2520, ex_mx, rfl, rfl⟩)
theorem ex_cost {n e : Int} (h : CoOk eV 0 n e) : n = 280 ∧ e = 0 := h.one (.inr (.inr (.inr ⟨ex_ok, by decide, 2520, 2800, ex_mx, ex_mx2, rfl, rfl⟩)))
theorem ex_clash {l : List Int} {e : Int} (h : ClOk eV l e) : e = 3 := (h.one (.inr (.inl ⟨ex_ok, ⟨_, ex_mx⟩, rfl, rfl⟩))).2
theorem ex_chk : chkP eV [0, 1, 0, -1] = 0 := chkP_ok.mpr ⟨ex_ok, by decide⟩
theorem ex_brk : brA eV [0, 1, 0, -1] = [0, 1] := by
  unfold brA
  rw [if_pos ex_chk]
  show brk eV _ (1 + 1) = _
  rw [brk_no (x := eD1) rfl (by decide +kernel), show (1 : Nat) = 0 + 1 from rfl, brk_no (x := eD0) rfl (by decide +kernel)]
  rfl
theorem ex_sz : Sz eV := ⟨by decide, by decide, by decide, by decide⟩
end Go.Proofs.Ytdiambcjghlffaa.T
namespace Go.Proofs.Ytdiambcjghlffaa.T
open Go.RowKit Go.Proofs.YtdiambcjghlffaaW.PrintWords Go.Proofs.YtdiambcjghlffaaW.PrintMore
open Go.Proofs.Ytdiambcjghlffaa.P
set_option linter.unusedVariables false
set_option linter.unusedSimpArgs false

set_option maxRecDepth 100000 in
theorem lit22_4 (a b c d : Int) (W : World) : (Instr.buildSlice 22 4 #[(0, .int .i64 a), (1, .int .i64 b), (2, .int .i64 c), (3, .int .i64 d)]).run Try.prog W = .ok (.slice (some ⟨W.heap.size, 0, none⟩) 4 4) (W.alloc (.cells (([a, b, c, d] : List Int).map (Value.int .i64)).toArray 3 (0, 0))) := by
  have hu22 := Try.underlying22
  go_simp
set_option maxRecDepth 100000 in
set_option maxHeartbeats 8000000 in

theorem works_calls (w : World) :
    Calls Try.prog 13 #[] w fun e w' => e = .returned (.bool true) ∧ Below w.heap.size w w' := by
  have hu3 := Try.underlying3
  have hu22 := Try.underlying22
  have hu26 := Try.underlying26
  have hu30 := Try.underlying30
  have hu31 := Try.underlying31
  have hu33 := Try.underlying33
  obtain ⟨z3, o3⟩ := info_some info3s (by decide)
  obtain ⟨z22, o22⟩ := info_some info22s (by decide)
  obtain ⟨z26, o26⟩ := info_some info26s (by decide)
  refine E.enter (N := 59) Try.func13 rfl Try.ntmps13 (args := []) (by simp) ?_
  have L := Below.refl w.heap.size w
  refine E.CG.seq ?_
  refine E.CG.list ?_
  refine E.GL.run rfl rfl rfl (E.Runs.assign rfl rfl) ?_
  refine E.GL.done ?_
  refine E.QG.code ?_
  refine E.CG.seq ?_
  refine E.CG.list ?_
  refine E.GL.st rfl rfl rfl (E.ST.call rfl ent36 E.evn ((example_calls _).mono ?_))
  rintro e w10 ⟨m, rfl, hV, l10⟩
  refine ⟨_, rfl, ?_⟩
  replace L := below_step L l10
  have K := Below.refl w10.heap.size w10
  refine E.GL.st rfl rfl rfl (E.ST.alloc rfl info26z fun g1 w1 e1 b1 l1 => ?_)
  have h1_L : w.heap.size ≤ g1 := by rw [e1]; exact L.size
  have h1_K : w10.heap.size ≤ g1 := by rw [e1]; exact K.size
  replace L := below_step L l1
  replace K := below_step K l1
  refine E.GL.store_whole rfl rfl rfl rfl rfl b1 rfl info26s (week_one _ _ _ _ _ _ _ _ _ _ _) fun wS1_2 c1 lS1_2 => ?_
  replace L := E.below_own L h1_L lS1_2
  replace K := E.below_own K h1_K lS1_2
  replace b1 := c1
  clear c1
  refine E.GL.done ?_
  refine E.QG.code ?_
  refine E.CG.seq ?_
  refine E.CG.list ?_
  refine E.GL.run rfl rfl rfl (E.Runs.loads (cs := [.int .i64 eV.d, .slice m.A eV.rs.length m.a, .int .i64 eV.h, .slice m.B eV.fs.length m.b, .slice m.C eV.ds.length m.c]) rfl rfl hu26 rfl info26s (blk_cells b1)) ?_
  refine E.GL.st rfl rfl rfl (E.ST.call rfl ent15 (E.evc rfl E.evn) ((most_calls eV m _ (hV.below K) ex_sz).mono ?_))
  rintro e w13 ⟨n13, e13, rfl, hm13, l13⟩
  refine ⟨_, rfl, ?_⟩
  replace b1 := blk_below b1 l13
  replace L := below_step L l13
  replace K := below_step K l13
  obtain ⟨rfl, rfl⟩ := ex_most hm13
  refine E.GL.run rfl rfl rfl (E.Runs.move rfl rfl) ?_
  refine E.GL.run rfl rfl rfl (E.Runs.extract rfl rfl rfl) ?_
  refine E.GL.run rfl rfl rfl (E.Runs.extract rfl rfl rfl) ?_
  refine E.GL.run rfl rfl rfl (E.Runs.assign rfl rfl) ?_
  refine E.GL.run rfl rfl rfl (E.Runs.assign rfl rfl) ?_
  refine E.GL.done ?_
  refine E.QG.code ?_
  refine E.CG.seq ?_
  refine E.CG.list ?_
  refine E.GL.run rfl rfl rfl (E.Runs.loads (cs := [.int .i64 eV.d, .slice m.A eV.rs.length m.a, .int .i64 eV.h, .slice m.B eV.fs.length m.b, .slice m.C eV.ds.length m.c]) rfl rfl hu26 rfl info26s (blk_cells b1)) ?_
  refine E.GL.st rfl rfl rfl (E.ST.litB (cs := (([0, 1, 0, -1] : List Int).map (Value.int .i64)).toArray) rfl (E.epc rfl (E.epc rfl (E.epc rfl (E.epc rfl E.epn)))) (lit22_4 _ _ _ _) fun g18 w18 e18 b18 l18 => ?_)
  replace b1 := blk_below b1 l18
  replace L := below_step L l18
  replace K := below_step K l18
  refine E.GL.st rfl rfl rfl (E.ST.call rfl ent25 (E.evc rfl (E.evc rfl E.evn)) ((broken_o eV m ([0, 1, 0, -1] : List Int) _ 4 _ (hV.below K) ex_sz (C_nums ([0, 1, 0, -1] : List Int) b18 (by decide)) (by decide)).mono ?_))
  rintro e w19 ⟨v19, rfl, R19, l19⟩
  refine ⟨_, rfl, ?_⟩
  replace b1 := blk_below b1 l19
  replace L := below_step L l19
  replace K := below_step K l19
  rw [ex_chk]
  rw [ex_brk] at R19
  obtain ⟨A19, c19, hv19⟩ := Kd.R_slice R19
  subst hv19
  refine E.GL.run rfl rfl rfl (E.Runs.move rfl rfl) ?_
  refine E.GL.run rfl rfl rfl (E.Runs.extract rfl rfl rfl) ?_
  refine E.GL.run rfl rfl rfl (E.Runs.extract rfl rfl rfl) ?_
  refine E.GL.run rfl rfl rfl (E.Runs.assign rfl rfl) ?_
  refine E.GL.run rfl rfl rfl (E.Runs.assign rfl rfl) ?_
  refine E.GL.done ?_
  refine E.QG.code ?_
  refine E.CG.seq ?_
  refine E.CG.list ?_
  refine E.GL.run rfl rfl rfl (E.Runs.loads (cs := [.int .i64 eV.d, .slice m.A eV.rs.length m.a, .int .i64 eV.h, .slice m.B eV.fs.length m.b, .slice m.C eV.ds.length m.c]) rfl rfl hu26 rfl info26s (blk_cells b1)) ?_
  refine E.GL.st rfl rfl rfl (E.ST.call rfl ent19 (E.evc rfl (E.evc rfl E.evn)) ((cost_calls eV m 0 _ (hV.below K) ex_sz).mono ?_))
  rintro e w24 ⟨n24, e24, rfl, hm24, l24⟩
  refine ⟨_, rfl, ?_⟩
  replace b1 := blk_below b1 l24
  replace R19 := Kd.R_below R19 l24
  replace L := below_step L l24
  replace K := below_step K l24
  obtain ⟨rfl, rfl⟩ := ex_cost hm24
  refine E.GL.run rfl rfl rfl (E.Runs.move rfl rfl) ?_
  refine E.GL.run rfl rfl rfl (E.Runs.extract rfl rfl rfl) ?_
  refine E.GL.run rfl rfl rfl (E.Runs.extract rfl rfl rfl) ?_
  refine E.GL.run rfl rfl rfl (E.Runs.assign rfl rfl) ?_
  refine E.GL.run rfl rfl rfl (E.Runs.assign rfl rfl) ?_
  refine E.GL.done ?_
  refine E.QG.code ?_
  refine E.CG.seq ?_
  refine E.CG.list ?_
  refine E.GL.run rfl rfl rfl (E.Runs.loads (cs := [.int .i64 eV.d, .slice m.A eV.rs.length m.a, .int .i64 eV.h, .slice m.B eV.fs.length m.b, .slice m.C eV.ds.length m.c]) rfl rfl hu26 rfl info26s (blk_cells b1)) ?_
  refine E.GL.st rfl rfl rfl (E.ST.call rfl ent17 (E.evc rfl E.evn) ((clash_calls eV m _ (hV.below K) ex_sz).mono ?_))
  rintro e w29 ⟨v29, l29', e29, rfl, R29, hm29, l29⟩
  refine ⟨_, rfl, ?_⟩
  replace b1 := blk_below b1 l29
  replace R19 := Kd.R_below R19 l29
  replace L := below_step L l29
  replace K := below_step K l29
  obtain rfl := ex_clash hm29
  refine E.GL.run rfl rfl rfl (E.Runs.move rfl rfl) ?_
  refine E.GL.run rfl rfl rfl (E.Runs.extract rfl rfl rfl) ?_
  refine E.GL.run rfl rfl rfl (E.Runs.extract rfl rfl rfl) ?_
  refine E.GL.run rfl rfl rfl (E.Runs.assign rfl rfl) ?_
  refine E.GL.run rfl rfl rfl (E.Runs.assign rfl rfl) ?_
  refine E.GL.done ?_
  refine E.QG.code ?_
  refine E.CG.seq ?_
  refine E.CG.list ?_
  refine E.GL.run rfl rfl rfl (E.Runs.move rfl rfl) ?_
  refine E.GL.run rfl rfl rfl (E.Runs.eql rfl rfl rfl (decide_eq_true rfl)) ?_
  refine E.GL.run rfl rfl rfl (E.Runs.move rfl rfl) ?_
  refine E.GL.run rfl rfl rfl (E.Runs.move rfl rfl) ?_
  refine E.GL.run rfl rfl rfl (E.Runs.eql rfl rfl rfl (decide_eq_true rfl)) ?_
  refine E.GL.run rfl rfl rfl (E.Runs.pick_t rfl rfl rfl) ?_
  refine E.GL.run rfl rfl rfl (E.Runs.move rfl rfl) ?_
  refine E.GL.run rfl rfl rfl (E.Runs.move rfl rfl) ?_
  refine E.GL.run rfl rfl rfl (E.Runs.eql rfl rfl rfl (decide_eq_true rfl)) ?_
  refine E.GL.run rfl rfl rfl (E.Runs.pick_t rfl rfl rfl) ?_
  refine E.GL.run rfl rfl rfl (E.Runs.move rfl rfl) ?_
  refine E.GL.run rfl rfl rfl (E.Runs.move rfl rfl) ?_
  refine E.GL.run rfl rfl rfl (E.Runs.eql rfl rfl rfl (decide_eq_true rfl)) ?_
  refine E.GL.run rfl rfl rfl (E.Runs.pick_t rfl rfl rfl) ?_
  refine E.GL.run rfl rfl rfl (E.Runs.move rfl rfl) ?_
  refine E.GL.run rfl rfl rfl (E.Runs.move rfl rfl) ?_
  refine E.GL.run rfl rfl rfl (E.Runs.eql rfl rfl rfl (decide_eq_true rfl)) ?_
  refine E.GL.run rfl rfl rfl (E.Runs.pick_t rfl rfl rfl) ?_
  refine E.GL.run rfl rfl rfl (E.Runs.move rfl rfl) ?_
  refine E.GL.run rfl rfl rfl (E.Runs.move rfl rfl) ?_
  refine E.GL.st rfl rfl rfl (E.ST.litB (cs := (([0, 1] : List Int).map (Value.int .i64)).toArray) rfl (E.epc rfl (E.epc rfl E.epn)) (lit22_2 _ _) fun g52 w52 e52 b52 l52 => ?_)
  replace b1 := blk_below b1 l52
  replace K := below_step K l52
  replace L := below_step L l52
  replace R19 := Kd.R_below R19 l52
  refine E.GL.st rfl rfl rfl (E.ST.call rfl ent21 (E.evc rfl (E.evc rfl E.evn)) ((same_calls ([0, 1] : List Int) ([0, 1] : List Int) A19 _ c19 2 _ true (iff_of_true rfl rfl) (Kd.R_reads' R19).2.2 (C_nums [0, 1] b52 (by decide)) (by decide)).mono ?_))
  rintro e w53 ⟨rfl, l53⟩
  refine ⟨_, rfl, ?_⟩
  replace b1 := blk_below b1 l53
  replace R19 := Kd.R_below R19 l53
  replace L := below_step L l53
  replace K := below_step K l53
  refine E.GL.run rfl rfl rfl (E.Runs.pick_t rfl rfl rfl) ?_
  refine E.GL.run rfl rfl rfl (E.Runs.move rfl rfl) ?_
  refine E.GL.run rfl rfl rfl (E.Runs.move rfl rfl) ?_
  refine E.GL.run rfl rfl rfl (E.Runs.eql rfl rfl rfl (decide_eq_true rfl)) ?_
  refine E.GL.run rfl rfl rfl (E.Runs.pick_t rfl rfl rfl) ?_
  refine E.GL.run rfl rfl rfl (E.Runs.assign rfl rfl) ?_
  refine E.GL.done ?_
  refine E.QG.code ?_
  refine E.CG.ret ?_
  exact E.QG.result rfl rfl ⟨rfl, L⟩

end Go.Proofs.Ytdiambcjghlffaa.T
namespace Go.Proofs.Ytdiambcjghlffaa.T
open Go.ChangeShapes Go.WideShapes Go.ChangeAt Go.Deep
open Go.RowKit Go.Proofs.YtdiambcjghlffaaW.PrintWords Go.Proofs.YtdiambcjghlffaaW.PrintMore
open Go.Proofs.Ytdiambcjghlffaa.P
set_option linter.unusedVariables false
set_option linter.unusedSimpArgs false

section
variable {X : Type} {enc : TypeId × Value → X} {w : World} {base : Nat} {spare : Nat → Bool} {held : Bool}
theorem fld {fs : Array Field} {n : Nat} {cs : List Value} {xs : List (DataW X × List MemPlace)} (hlen : xs.length = fs.size) (hg : ∀ (i : Nat) (f : Field), fs[i]? = some f → DataW.trod enc Try.prog w base spare held n f.type ((cs.drop f.offset).take (Try.prog.cellsOf f.type)) = xs[i]?) (i : Nat) (f : Field) (hf : fs[i]? = some f)
    (ty : TypeId) (off k : Nat) (h1 : f.type = ty) (h2 : f.offset = off) (h3 : Try.prog.cellsOf ty = k) :
    ∃ y, DataW.trod enc Try.prog w base spare held n ty ((cs.drop off).take k) = some y := by
  have hi : i < xs.length := by rw [hlen]; exact (Array.getElem?_eq_some_iff.1 hf).1
  subst h1 h2 h3
  exact ⟨_, (hg i f hf).trans (List.getElem?_eq_getElem hi)⟩

theorem ocells3 : Try.prog.cellsOf 3 = 1 := by kernel_rfl

theorem trod3 {n : Nat} {cs : List Value} {x : DataW X × List MemPlace} (h : DataW.trod enc Try.prog w base spare held n 3 cs = some x) : ∃ (a : Int), cs = [.int .i64 a] := by
  obtain ⟨a, hc, _⟩ := DataW.trod_int Try.underlying3 h
  exact ⟨a, hc⟩

set_option maxRecDepth 100000 in
theorem int_open {r : Reach} {b0 : Nat} {v : Value} {d : DataW X} {p : List MemPlace} (hval : Value.okWide Try.prog w r b0 3 v) (h : DataW.Trod enc Try.prog w base spare held 3 v d p) : ∃ m : Int, v = .int .i64 m := okWide_int Try.underlying3 hval

theorem ocells22 : Try.prog.cellsOf 22 = 1 := by kernel_rfl

theorem trod22 {n : Nat} {cs : List Value} {x : DataW X × List MemPlace} (h : DataW.trod enc Try.prog w base spare held n 22 cs = some x) : ∃ (aA : Option Addr) (ac : Nat) (al : List Int), cs = [.slice aA al.length ac] ∧ al.length ≤ ac ∧ Kd.C (Kd.int .i64) w aA al.length al := by
  rcases open_slice Try.underlying22 h with ⟨rfl, _⟩ | ⟨a, len, cap, m, k, D, Pl, rfl, hb, hl, hm, hmm, hx, hi⟩
  · exact ⟨none, 0, [], rfl, Nat.le_refl _, rfl, by simp, fun h => absurd h (by simp)⟩
  · have hlm : len ≤ m := by rw [hmm]; split <;> omega
    have H : ∀ i, i < len → ∃ s : Int, w.cells? base (a.add (i * 1)) 1 = some [.int .i64 s] := by
      intro i hil
      obtain ⟨cs', hc, ht⟩ := hi i (by omega)
      obtain ⟨a, rfl⟩ := trod3 ht
      rw [ocells3] at hc
      exact ⟨a, hc⟩
    obtain ⟨F, hF⟩ : ∃ F : Nat → Int, ∀ i, i < len → w.cells? base (a.add (i * 1)) 1 = some [.int .i64 (F i)] := by
      refine ⟨fun i => if h : i < len then (H i h).choose else 0, fun i h => ?_⟩
      simp only [dif_pos h]
      exact (H i h).choose_spec
    refine ⟨some a, cap, (List.range len).map F, by simp, by simpa using hl, ?_, ?_, ?_⟩
    · rfl
    · simp only [List.length_map, List.length_range]
      unfold maxLen at hm
      omega
    · intro _
      refine ⟨a, rfl, fun j p hj => ?_⟩
      have hjl : j < len := by
        have := (List.getElem?_eq_some_iff.1 hj).1
        simpa using this
      have hp : p = F j := by
        rw [List.getElem?_map, List.getElem?_range hjl] at hj
        simpa using hj.symm
      subst hp
      refine ⟨[.int .i64 (F j)], rfl, rfl, ?_⟩
      intro i u hu
      obtain ⟨_, hcl, hat⟩ := World.cells?_some (hF j hjl)
      have hil : i < 1 := (List.getElem?_eq_some_iff.1 hu).1
      have := hat i hil
      rw [Go.Deep.add_add] at this
      rw [show j * ((Kd.int .i64)).sz + i = j * 1 + i from rfl, this, hu]

theorem ocells26 : Try.prog.cellsOf 26 = 5 := by kernel_rfl

theorem ocells23 : Try.prog.cellsOf 23 = 1 := by kernel_rfl

theorem ocells49 : Try.prog.cellsOf 49 = 2 := by kernel_rfl

theorem list_of2 {cs : List Value} (h : cs.length = 2) : ∃ v0 v1, cs = [v0, v1] := by
  match cs, h with
  | [v0, v1], _ => exact ⟨v0, v1, rfl⟩

theorem trod49 {n : Nat} {cs : List Value} {x : DataW X × List MemPlace} (h : DataW.trod enc Try.prog w base spare held n 49 cs = some x) : ∃ (a_0 : Int) (a_1A : Option Addr) (a_1c : Nat) (a_1l : List Int), cs = [.int .i64 a_0, .slice a_1A a_1l.length a_1c] ∧ a_1l.length ≤ a_1c ∧ Kd.C (Kd.int .i64) w a_1A a_1l.length a_1l := by
  obtain ⟨xs, m, _, hx, hl, hlen, hg⟩ := DataW.trod_struct Try.underlying49 h
  rw [ocells49] at hl
  obtain ⟨v0, v1, rfl⟩ := list_of2 hl
  obtain ⟨y0, h0⟩ := fld hlen hg 0 _ rfl 3 0 1 rfl rfl ocells3
  obtain ⟨y1, h1⟩ := fld hlen hg 1 _ rfl 22 1 1 rfl rfl ocells22
  obtain ⟨a_0, e0⟩ := trod3 h0
  obtain ⟨a_1A, a_1c, a_1l, e1, f1_0, f1_1⟩ := trod22 h1
  simp only [List.drop_zero, List.take_succ_cons, List.take_zero, List.drop_succ_cons, List.cons.injEq, and_true] at e0 e1
  subst e0 e1
  exact ⟨a_0, a_1A, a_1c, a_1l, rfl, f1_0, f1_1⟩

theorem trod23 {n : Nat} {cs : List Value} {x : DataW X × List MemPlace} (h : DataW.trod enc Try.prog w base spare held n 23 cs = some x) : ∃ (aA : Option Addr) (ac : Nat) (al : List S49), cs = [.slice aA al.length ac] ∧ al.length ≤ ac ∧ Kd.C k49 w aA al.length al := by
  rcases open_slice Try.underlying23 h with ⟨rfl, _⟩ | ⟨a, len, cap, m, k, D, Pl, rfl, hb, hl, hm, hmm, hx, hi⟩
  · exact ⟨none, 0, [], rfl, Nat.le_refl _, rfl, by simp, fun h => absurd h (by simp)⟩
  · have hlm : len ≤ m := by rw [hmm]; split <;> omega
    have H : ∀ i, i < len → ∃ p : S49 × List Value, w.cells? base (a.add (i * 2)) 2 = some p.2 ∧ Kd.K k49 w p.1 p.2 := by
      intro i hil
      obtain ⟨cs', hc, ht⟩ := hi i (by omega)
      obtain ⟨a_0, a_1A, a_1c, a_1l, rfl, q0, q1⟩ := trod49 ht
      rw [ocells49] at hc
      exact ⟨((⟨a_0, a_1l⟩ : S49), _), hc, k49_mk w _ q0 q1⟩
    obtain ⟨F, hF⟩ : ∃ F : Nat → S49 × List Value, ∀ i, i < len → w.cells? base (a.add (i * 2)) 2 = some (F i).2 ∧ Kd.K k49 w (F i).1 (F i).2 := by
      refine ⟨fun i => if h : i < len then (H i h).choose else (P.z49, []), fun i h => ?_⟩
      simp only [dif_pos h]
      exact (H i h).choose_spec
    refine ⟨some a, cap, (List.range len).map (fun i => (F i).1), by simp, by simpa using hl, ?_, ?_, ?_⟩
    · rfl
    · simp only [List.length_map, List.length_range]
      unfold maxLen at hm
      omega
    · intro _
      refine ⟨a, rfl, fun j p hj => ?_⟩
      have hjl : j < len := by
        have := (List.getElem?_eq_some_iff.1 hj).1
        simpa using this
      have hp : p = (F j).1 := by
        rw [List.getElem?_map, List.getElem?_range hjl] at hj
        simpa using hj.symm
      subst hp
      refine ⟨(F j).2, Kd.K_len _ (hF j hjl).2, (hF j hjl).2, ?_⟩
      intro i u hu
      obtain ⟨_, hcl, hat⟩ := World.cells?_some (hF j hjl).1
      have hil : i < 2 := by
        have h1 := (List.getElem?_eq_some_iff.1 hu).1
        have h2 : (F j).2.length = 2 := Kd.K_len _ (hF j hjl).2
        omega
      have := hat i hil
      rw [Go.Deep.add_add] at this
      rw [show j * (Kd.sz k49) + i = j * 2 + i from rfl, this, hu]

theorem ocells24 : Try.prog.cellsOf 24 = 1 := by kernel_rfl

theorem ocells45 : Try.prog.cellsOf 45 = 8 := by kernel_rfl

theorem list_of8 {cs : List Value} (h : cs.length = 8) : ∃ v0 v1 v2 v3 v4 v5 v6 v7, cs = [v0, v1, v2, v3, v4, v5, v6, v7] := by
  match cs, h with
  | [v0, v1, v2, v3, v4, v5, v6, v7], _ => exact ⟨v0, v1, v2, v3, v4, v5, v6, v7, rfl⟩

theorem trod45 {n : Nat} {cs : List Value} {x : DataW X × List MemPlace} (h : DataW.trod enc Try.prog w base spare held n 45 cs = some x) : ∃ (a_0 : Int) (a_1 : Int) (a_2 : Int) (a_3 : Int) (a_4 : Int) (a_5 : Int) (a_6 : Int) (a_7 : Int), cs = [.int .i64 a_0, .int .i64 a_1, .int .i64 a_2, .int .i64 a_3, .int .i64 a_4, .int .i64 a_5, .int .i64 a_6, .int .i64 a_7] := by
  obtain ⟨xs, m, _, hx, hl, hlen, hg⟩ := DataW.trod_struct Try.underlying45 h
  rw [ocells45] at hl
  obtain ⟨v0, v1, v2, v3, v4, v5, v6, v7, rfl⟩ := list_of8 hl
  obtain ⟨y0, h0⟩ := fld hlen hg 0 _ rfl 3 0 1 rfl rfl ocells3
  obtain ⟨y1, h1⟩ := fld hlen hg 1 _ rfl 3 1 1 rfl rfl ocells3
  obtain ⟨y2, h2⟩ := fld hlen hg 2 _ rfl 3 2 1 rfl rfl ocells3
  obtain ⟨y3, h3⟩ := fld hlen hg 3 _ rfl 3 3 1 rfl rfl ocells3
  obtain ⟨y4, h4⟩ := fld hlen hg 4 _ rfl 3 4 1 rfl rfl ocells3
  obtain ⟨y5, h5⟩ := fld hlen hg 5 _ rfl 3 5 1 rfl rfl ocells3
  obtain ⟨y6, h6⟩ := fld hlen hg 6 _ rfl 3 6 1 rfl rfl ocells3
  obtain ⟨y7, h7⟩ := fld hlen hg 7 _ rfl 3 7 1 rfl rfl ocells3
  obtain ⟨a_0, e0⟩ := trod3 h0
  obtain ⟨a_1, e1⟩ := trod3 h1
  obtain ⟨a_2, e2⟩ := trod3 h2
  obtain ⟨a_3, e3⟩ := trod3 h3
  obtain ⟨a_4, e4⟩ := trod3 h4
  obtain ⟨a_5, e5⟩ := trod3 h5
  obtain ⟨a_6, e6⟩ := trod3 h6
  obtain ⟨a_7, e7⟩ := trod3 h7
  simp only [List.drop_zero, List.take_succ_cons, List.take_zero, List.drop_succ_cons, List.cons.injEq, and_true] at e0 e1 e2 e3 e4 e5 e6 e7
  subst e0 e1 e2 e3 e4 e5 e6 e7
  exact ⟨a_0, a_1, a_2, a_3, a_4, a_5, a_6, a_7, rfl⟩

theorem trod24 {n : Nat} {cs : List Value} {x : DataW X × List MemPlace} (h : DataW.trod enc Try.prog w base spare held n 24 cs = some x) : ∃ (aA : Option Addr) (ac : Nat) (al : List S45), cs = [.slice aA al.length ac] ∧ al.length ≤ ac ∧ Kd.C k45 w aA al.length al := by
  rcases open_slice Try.underlying24 h with ⟨rfl, _⟩ | ⟨a, len, cap, m, k, D, Pl, rfl, hb, hl, hm, hmm, hx, hi⟩
  · exact ⟨none, 0, [], rfl, Nat.le_refl _, rfl, by simp, fun h => absurd h (by simp)⟩
  · have hlm : len ≤ m := by rw [hmm]; split <;> omega
    have H : ∀ i, i < len → ∃ s : S45, w.cells? base (a.add (i * 8)) 8 = some [.int .i64 s.f0, .int .i64 s.f1, .int .i64 s.f2, .int .i64 s.f3, .int .i64 s.f4, .int .i64 s.f5, .int .i64 s.f6, .int .i64 s.f7] := by
      intro i hil
      obtain ⟨cs', hc, ht⟩ := hi i (by omega)
      obtain ⟨a_0, a_1, a_2, a_3, a_4, a_5, a_6, a_7, rfl⟩ := trod45 ht
      rw [ocells45] at hc
      exact ⟨⟨a_0, a_1, a_2, a_3, a_4, a_5, a_6, a_7⟩, hc⟩
    obtain ⟨F, hF⟩ : ∃ F : Nat → S45, ∀ i, i < len → w.cells? base (a.add (i * 8)) 8 = some [.int .i64 (F i).f0, .int .i64 (F i).f1, .int .i64 (F i).f2, .int .i64 (F i).f3, .int .i64 (F i).f4, .int .i64 (F i).f5, .int .i64 (F i).f6, .int .i64 (F i).f7] := by
      refine ⟨fun i => if h : i < len then (H i h).choose else P.z45, fun i h => ?_⟩
      simp only [dif_pos h]
      exact (H i h).choose_spec
    refine ⟨some a, cap, (List.range len).map F, by simp, by simpa using hl, ?_, ?_, ?_⟩
    · rfl
    · simp only [List.length_map, List.length_range]
      unfold maxLen at hm
      omega
    · intro _
      refine ⟨a, rfl, fun j p hj => ?_⟩
      have hjl : j < len := by
        have := (List.getElem?_eq_some_iff.1 hj).1
        simpa using this
      have hp : p = F j := by
        rw [List.getElem?_map, List.getElem?_range hjl] at hj
        simpa using hj.symm
      subst hp
      refine ⟨[.int .i64 (F j).f0, .int .i64 (F j).f1, .int .i64 (F j).f2, .int .i64 (F j).f3, .int .i64 (F j).f4, .int .i64 (F j).f5, .int .i64 (F j).f6, .int .i64 (F j).f7], rfl, k45_mk w (F j), ?_⟩
      intro i u hu
      obtain ⟨_, hcl, hat⟩ := World.cells?_some (hF j hjl)
      have hil : i < 8 := (List.getElem?_eq_some_iff.1 hu).1
      have := hat i hil
      rw [Go.Deep.add_add] at this
      rw [show j * (k45).sz + i = j * 8 + i from rfl, this, hu]

theorem list_of5 {cs : List Value} (h : cs.length = 5) : ∃ v0 v1 v2 v3 v4, cs = [v0, v1, v2, v3, v4] := by
  match cs, h with
  | [v0, v1, v2, v3, v4], _ => exact ⟨v0, v1, v2, v3, v4, rfl⟩

theorem trod26 {n : Nat} {cs : List Value} {x : DataW X × List MemPlace} (h : DataW.trod enc Try.prog w base spare held n 26 cs = some x) : ∃ (a_0 : Int) (a_1A : Option Addr) (a_1c : Nat) (a_1l : List Int) (a_2 : Int) (a_3A : Option Addr) (a_3c : Nat) (a_3l : List S49) (a_4A : Option Addr) (a_4c : Nat) (a_4l : List S45), cs = [.int .i64 a_0, .slice a_1A a_1l.length a_1c, .int .i64 a_2, .slice a_3A a_3l.length a_3c, .slice a_4A a_4l.length a_4c] ∧ a_1l.length ≤ a_1c ∧ Kd.C (Kd.int .i64) w a_1A a_1l.length a_1l ∧ a_3l.length ≤ a_3c ∧ Kd.C k49 w a_3A a_3l.length a_3l ∧ a_4l.length ≤ a_4c ∧ Kd.C k45 w a_4A a_4l.length a_4l := by
  obtain ⟨xs, m, _, hx, hl, hlen, hg⟩ := DataW.trod_struct Try.underlying26 h
  rw [ocells26] at hl
  obtain ⟨v0, v1, v2, v3, v4, rfl⟩ := list_of5 hl
  obtain ⟨y0, h0⟩ := fld hlen hg 0 _ rfl 3 0 1 rfl rfl ocells3
  obtain ⟨y1, h1⟩ := fld hlen hg 1 _ rfl 22 1 1 rfl rfl ocells22
  obtain ⟨y2, h2⟩ := fld hlen hg 2 _ rfl 3 2 1 rfl rfl ocells3
  obtain ⟨y3, h3⟩ := fld hlen hg 3 _ rfl 23 3 1 rfl rfl ocells23
  obtain ⟨y4, h4⟩ := fld hlen hg 4 _ rfl 24 4 1 rfl rfl ocells24
  obtain ⟨a_0, e0⟩ := trod3 h0
  obtain ⟨a_1A, a_1c, a_1l, e1, f1_0, f1_1⟩ := trod22 h1
  obtain ⟨a_2, e2⟩ := trod3 h2
  obtain ⟨a_3A, a_3c, a_3l, e3, f3_0, f3_1⟩ := trod23 h3
  obtain ⟨a_4A, a_4c, a_4l, e4, f4_0, f4_1⟩ := trod24 h4
  simp only [List.drop_zero, List.take_succ_cons, List.take_zero, List.drop_succ_cons, List.cons.injEq, and_true] at e0 e1 e2 e3 e4
  subst e0 e1 e2 e3 e4
  exact ⟨a_0, a_1A, a_1c, a_1l, a_2, a_3A, a_3c, a_3l, a_4A, a_4c, a_4l, rfl, f1_0, f1_1, f3_0, f3_1, f4_0, f4_1⟩

set_option maxRecDepth 100000 in
theorem week_open {r : Reach} {b0 : Nat} {v : Value} {d : DataW X} {p : List MemPlace} (hval : Value.okWide Try.prog w r b0 26 v) (h : DataW.Trod enc Try.prog w base spare held 26 v d p) : ∃ (a_0 : Int) (a_1A : Option Addr) (a_1c : Nat) (a_1l : List Int) (a_2 : Int) (a_3A : Option Addr) (a_3c : Nat) (a_3l : List S49) (a_4A : Option Addr) (a_4c : Nat) (a_4l : List S45), v = .agg #[.int .i64 a_0, .slice a_1A a_1l.length a_1c, .int .i64 a_2, .slice a_3A a_3l.length a_3c, .slice a_4A a_4l.length a_4c] ∧ a_1l.length ≤ a_1c ∧ Kd.C (Kd.int .i64) w a_1A a_1l.length a_1l ∧ a_3l.length ≤ a_3c ∧ Kd.C k49 w a_3A a_3l.length a_3l ∧ a_4l.length ≤ a_4c ∧ Kd.C k45 w a_4A a_4l.length a_4l := by
  obtain ⟨cs, rfl, hsz⟩ := okWide_struct Try.underlying26 hval
  obtain ⟨n, hn⟩ := h
  obtain ⟨a_0, a_1A, a_1c, a_1l, a_2, a_3A, a_3c, a_3l, a_4A, a_4c, a_4l, hH, f0, f1, f2, f3, f4, f5⟩ := trod26 hn
  obtain ⟨l⟩ := cs
  obtain rfl : l = _ := hH
  exact ⟨a_0, a_1A, a_1c, a_1l, a_2, a_3A, a_3c, a_3l, a_4A, a_4c, a_4l, rfl, f0, f1, f2, f3, f4, f5⟩

set_option maxRecDepth 100000 in
theorem movie_open {r : Reach} {b0 : Nat} {v : Value} {d : DataW X} {p : List MemPlace} (hval : Value.okWide Try.prog w r b0 49 v) (h : DataW.Trod enc Try.prog w base spare held 49 v d p) : ∃ (a_0 : Int) (a_1A : Option Addr) (a_1c : Nat) (a_1l : List Int), v = .agg #[.int .i64 a_0, .slice a_1A a_1l.length a_1c] ∧ a_1l.length ≤ a_1c ∧ Kd.C (Kd.int .i64) w a_1A a_1l.length a_1l := by
  obtain ⟨cs, rfl, hsz⟩ := okWide_struct Try.underlying49 hval
  obtain ⟨n, hn⟩ := h
  obtain ⟨a_0, a_1A, a_1c, a_1l, hH, f0, f1⟩ := trod49 hn
  obtain ⟨l⟩ := cs
  obtain rfl : l = _ := hH
  exact ⟨a_0, a_1A, a_1c, a_1l, rfl, f0, f1⟩

end

end Go.Proofs.Ytdiambcjghlffaa.T
namespace Go.Proofs.Ytdiambcjghlffaa.T
open Go.RowKit Go.Proofs.YtdiambcjghlffaaW.PrintWords Go.Proofs.YtdiambcjghlffaaW.PrintMore
open Go.Proofs.Ytdiambcjghlffaa.P
set_option linter.unusedVariables false
set_option linter.unusedSimpArgs false

end Go.Proofs.Ytdiambcjghlffaa.T
namespace Go.Proofs.Ytdiambcjghlffaa.T
open Go.RowKit Go.Proofs.YtdiambcjghlffaaW.PrintWords Go.Proofs.YtdiambcjghlffaaW.PrintMore
open Go.Proofs.Ytdiambcjghlffaa.P
set_option linter.unusedVariables false
set_option linter.unusedSimpArgs false

end Go.Proofs.Ytdiambcjghlffaa.T
namespace Go.Proofs.Ytdiambcjghlffaa.T
open Go.RowKit Go.Proofs.YtdiambcjghlffaaW.PrintWords Go.Proofs.YtdiambcjghlffaaW.PrintMore
open Go.Proofs.Ytdiambcjghlffaa.P
set_option linter.unusedVariables false
set_option linter.unusedSimpArgs false
section
variable {V : Wk} {l : List S45} {p : List Int}
end
/-- All deals are kept. -/
theorem kp_deals {V : Wk} {p : List Int} : Kp V (allS V) p ↔ ∀ x ∈ V.ds, Keep V x p := by
  rw [kp_all]
  constructor
  · intro h x hx
    obtain ⟨i, hi⟩ := List.mem_iff_getElem?.mp hx
    exact Classical.byContradiction fun q => h i (List.getElem?_eq_some_iff.1 hi).1 ((bad_iff hi).mpr q)
  · intro h i hi hb
    obtain ⟨x, hx⟩ := get_ex hi
    exact (bad_iff hx).mp hb (h x (mem_of hx))
/-- The greatest takings of some deals kept. -/
def MxD (V : Wk) (l : List S45) : Option Int → Prop
  | none => ∀ p, IsP V p → ¬ ∀ x ∈ l, Keep V x p
  | some m => (∃ p, IsP V p ∧ (∀ x ∈ l, Keep V x p) ∧ takes V p = m) ∧ ∀ p, IsP V p → (∀ x ∈ l, Keep V x p) → takes V p ≤ m
end Go.Proofs.Ytdiambcjghlffaa.T
namespace Go.Proofs.Ytdiambcjghlffaa.T
open Go.RowKit Go.Proofs.YtdiambcjghlffaaW.PrintWords Go.Proofs.YtdiambcjghlffaaW.PrintMore
open Go.Proofs.Ytdiambcjghlffaa.P
set_option linter.unusedVariables false
set_option linter.unusedSimpArgs false

theorem WR.grown {bs : Nat} {w w' : World} {V : Wk} {m : Wa} {g : Nat} (h : WR bs w V m) (hg : w.grownBy w' (some g)) (hb : ∃ cs, w.heap[g]? = some (.cells cs 26 (0, 0))) : WR bs w' V m := by
  obtain ⟨cs, hb⟩ := hb
  obtain ⟨xs, h1, h2⟩ := h.fs
  exact ⟨Kd.R_grown1 h.rs rfl hg (Kd.R_ne h.rs hb (by decide)), ⟨xs, Kd.R_grown1 h1 rfl hg (Kd.R_ne h1 hb (by decide)), h2.over hb (by decide) hg⟩, Kd.R_grown1 h.ds rfl hg (Kd.R_ne h.ds hb (by decide))⟩
end Go.Proofs.Ytdiambcjghlffaa.T
namespace Go.Proofs.Ytdiambcjghlffaa.T
open Go.RowKit Go.Proofs.YtdiambcjghlffaaW.PrintWords Go.Proofs.YtdiambcjghlffaaW.PrintMore
open Go.Proofs.Ytdiambcjghlffaa.P
set_option linter.unusedVariables false
set_option linter.unusedSimpArgs false

/-- The deals by their numbers. -/
def dsOf (V : Wk) (l : List Int) : List S45 := l.map fun i => V.ds.getD i.toNat z45
/-- The parts of a week but its deals, in rows of our own. -/
structure WF (bs : Nat) (w : World) (V : Wk) (m : Wa) : Prop where
  rs : Kd.R kI 3 w bs (fun _ => True) (.slice m.A V.rs.length m.a) V.rs
  fs : ∃ xs, Kd.R kFH 49 w bs (fun _ => True) (.slice m.B V.fs.length m.b) xs ∧ Mid w bs V.fs.length xs V.fs
theorem WR.wf {bs : Nat} {w : World} {V : Wk} {m : Wa} (h : WR bs w V m) : WF bs w V m := ⟨h.rs, h.fs⟩
theorem WF.below {bs : Nat} {w w' : World} {V : Wk} {m : Wa} (h : WF bs w V m) (l : Below w.heap.size w w') : WF bs w' V m := by
  obtain ⟨xs, h1, h2⟩ := h.fs
  exact ⟨Kd.R_below h.rs l, ⟨xs, Kd.R_below h1 l, h2.below l⟩⟩
theorem WF.lower {bs bs' : Nat} {w : World} {V : Wk} {m : Wa} (h : WF bs w V m) (hb : bs' ≤ bs) : WF bs' w V m := by
  obtain ⟨xs, q1, q2⟩ := h.fs
  exact ⟨Kd.R_lower h.rs hb, ⟨xs, Kd.R_lower q1 hb, ⟨q2.len, fun j x f hx hf => ⟨(q2.row j x f hx hf).1, fun hj => Kd.R_lower ((q2.row j x f hx hf).2 hj) hb⟩⟩⟩⟩
theorem WF.grown {bs : Nat} {w w' : World} {V : Wk} {m : Wa} {g : Nat} (h : WF bs w V m) (hg : w.grownBy w' (some g)) (hb : ∃ cs, w.heap[g]? = some (.cells cs 26 (0, 0))) : WF bs w' V m := by
  obtain ⟨cs, hb⟩ := hb
  obtain ⟨xs, h1, h2⟩ := h.fs
  exact ⟨Kd.R_grown1 h.rs rfl hg (Kd.R_ne h.rs hb (by decide)), ⟨xs, Kd.R_grown1 h1 rfl hg (Kd.R_ne h1 hb (by decide)), h2.over hb (by decide) hg⟩⟩
theorem WF.over {bs b : Nat} {w w' : World} {V : Wk} {m : Wa} {u : Value} {ys : List S45} (h : WF bs w V m) (hu : Kd.R k45 45 w b (fun _ => True) u ys) (hg : w.grownBy w' u.ownBlock) : WF bs w' V m := by
  obtain ⟨xs, h1, h2⟩ := h.fs
  refine ⟨E.R_over' h.rs hu (by decide) hg, ⟨xs, E.R_over' h1 hu (by decide) hg, ?_⟩⟩
  exact ⟨h2.len, fun j x f hx hf => ⟨(h2.row j x f hx hf).1, fun hj => E.R_over' ((h2.row j x f hx hf).2 hj) hu (by decide) hg⟩⟩
end Go.Proofs.Ytdiambcjghlffaa.T
namespace Go.Proofs.Ytdiambcjghlffaa.T
open Go.RowKit Go.Proofs.YtdiambcjghlffaaW.PrintWords Go.Proofs.YtdiambcjghlffaaW.PrintMore
open Go.Proofs.Ytdiambcjghlffaa.P
set_option linter.unusedVariables false
set_option linter.unusedSimpArgs false
theorem asc_at {l : List Int} (h : l.Pairwise (· < ·)) {i j : Nat} {a b : Int} (hi : l[i]? = some a) (hj : l[j]? = some b) (hij : i < j) : a < b := by
  obtain ⟨h1, rfl⟩ := List.getElem?_eq_some_iff.1 hi
  obtain ⟨h2, rfl⟩ := List.getElem?_eq_some_iff.1 hj
  exact List.pairwise_iff_getElem.mp h i j h1 h2 hij
theorem asc_ge {l : List Int} (h : l.Pairwise (· < ·)) (h0 : ∀ x ∈ l, 0 ≤ x) : ∀ (i : Nat) (x : Int), l[i]? = some x → (i : Int) ≤ x
  | 0, x, hx => h0 x (mem_of hx)
  | i + 1, x, hx => by
    obtain ⟨y, hy⟩ := get_ex (show i < l.length by have := (List.getElem?_eq_some_iff.1 hx).1; omega)
    have h1 := asc_ge h h0 i y hy
    have h2 := asc_at h hy hx (by omega)
    omega
theorem asc_len {l : List Int} {n : Nat} (h : l.Pairwise (· < ·)) (h0 : ∀ x ∈ l, 0 ≤ x ∧ x < n) : l.length ≤ n := by
  rcases Nat.eq_zero_or_pos l.length with e | e
  · omega
  · obtain ⟨x, hx⟩ := get_ex (show l.length - 1 < l.length by omega)
    have h1 := asc_ge h (fun y hy => (h0 y hy).1) _ x hx
    have h2 := (h0 x (mem_of hx)).2
    omega
/-- What the least set says. -/
structure Nm (V : Wk) (l : List Int) : Prop where
  rng : ∀ x ∈ l, 0 ≤ x ∧ x < (V.ds.length : Int)
  asc : l.Pairwise (· < ·)
  ne : l ≠ []
  no : MxD V (dsOf V l) none
  one : ∀ i, i < l.length → ∃ r, MxD V (dsOf V (l.eraseIdx i)) (some r)
  hit : ∀ p, IsP V p → ∃ x ∈ l, x ∈ brk V p V.ds.length
theorem Nm.len {V : Wk} {l : List Int} (h : Nm V l) : l.length ≤ V.ds.length := asc_len h.asc h.rng
end Go.Proofs.Ytdiambcjghlffaa.T
namespace Go.Proofs.Ytdiambcjghlffaa.T
open Go.RowKit Go.Proofs.YtdiambcjghlffaaW.PrintWords Go.Proofs.YtdiambcjghlffaaW.PrintMore
open Go.Proofs.Ytdiambcjghlffaa.P
set_option linter.unusedVariables false
set_option linter.unusedSimpArgs false
section
variable {V : Wk} {p : List Int} {x y : S45}
end
theorem mostOk_r {V : Wk} {n e : Int} (ok : WOk V) (h : MostOk V n e) : ∃ r, IsMx V (allS V) r ∧ n = r.getD 0 ∧ e = errN r.isSome := by
  rcases h with ⟨h1, _⟩ | ⟨_, r, h2, h3, h4⟩
  · exact absurd ok h1
  · exact ⟨r, h2, h3, h4⟩
end Go.Proofs.Ytdiambcjghlffaa.T
namespace Go.Proofs.Ytdiambcjghlffaa.T
open Go.RowKit Go.Proofs.YtdiambcjghlffaaW.PrintWords Go.Proofs.YtdiambcjghlffaaW.PrintMore
open Go.Proofs.Ytdiambcjghlffaa.P
set_option linter.unusedVariables false
set_option linter.unusedSimpArgs false

end Go.Proofs.Ytdiambcjghlffaa.T
namespace Go.Proofs.Ytdiambcjghlffaa.T
open Go.RowKit Go.Proofs.YtdiambcjghlffaaW.PrintWords Go.Proofs.YtdiambcjghlffaaW.PrintMore
open Go.Proofs.Ytdiambcjghlffaa.P
set_option linter.unusedVariables false
set_option linter.unusedSimpArgs false

/-- The parts of a week but its deals; blocks of other types may be written. -/
structure WG (bs : Nat) (w : World) (V : Wk) (m : Wa) : Prop where
  f : WF bs w V m
theorem WG.below {bs : Nat} {w w' : World} {V : Wk} {m : Wa} (h : WG bs w V m) (l : Below w.heap.size w w') : WG bs w' V m := ⟨h.f.below l⟩
theorem WG.grown {bs : Nat} {w w' : World} {V : Wk} {m : Wa} {g : Nat} (h : WG bs w V m) (hg : w.grownBy w' (some g)) (hb : ∃ cs t, w.heap[g]? = some (.cells cs t (0, 0)) ∧ 3 ≠ t ∧ 49 ≠ t) : WG bs w' V m := by
  obtain ⟨cs, t, hb, h3, h49⟩ := hb
  obtain ⟨xs, h1, h2⟩ := h.f.fs
  exact ⟨⟨Kd.R_grown1 h.f.rs rfl hg (Kd.R_ne h.f.rs hb h3), ⟨xs, Kd.R_grown1 h1 rfl hg (Kd.R_ne h1 hb h49), h2.over hb h3 hg⟩⟩⟩
theorem WG.over {bs b : Nat} {w w' : World} {V : Wk} {m : Wa} {u : Value} {ys : List S45} (h : WG bs w V m) (hu : Kd.R k45 45 w b (fun _ => True) u ys) (hg : w.grownBy w' u.ownBlock) : WG bs w' V m := ⟨h.f.over hu hg⟩
end Go.Proofs.Ytdiambcjghlffaa.T
namespace Go.Proofs.Ytdiambcjghlffaa.T
open Go.RowKit Go.Proofs.YtdiambcjghlffaaW.PrintWords Go.Proofs.YtdiambcjghlffaaW.PrintMore
open Go.Proofs.Ytdiambcjghlffaa.P
set_option linter.unusedVariables false
set_option linter.unusedSimpArgs false
/-- A week with other films. -/
def wf (V : Wk) (l : List S49) : Wk := ⟨V.d, V.rs, V.h, l, V.ds⟩
section
variable {V : Wk} {l : List S49} {p : List Int}
theorem wf_shN (x : S45) (day h : Nat) : ∀ r, shN (wf V l) x p day h r = shN V x p day h r
  | 0 => rfl
  | r + 1 => by unfold shN; rw [wf_shN x day h r]; rfl
theorem wf_sh (x : S45) (day h : Nat) : sh (wf V l) x p day h = sh V x p day h := wf_shN x day h _
theorem wf_hsN (x : S45) (day : Nat) : ∀ k, hsN (wf V l) x p day k = hsN V x p day k
  | 0 => rfl
  | k + 1 => by unfold hsN; rw [wf_hsN x day k, wf_sh]
theorem wf_dsN (x : S45) : ∀ n, dsN (wf V l) x p n = dsN V x p n
  | 0 => rfl
  | n + 1 => by unfold dsN; rw [wf_dsN x n, wf_hsN]
theorem wf_cln (x : S45) (day : Nat) : Cln (wf V l) x p day ↔ Cln V x p day := Iff.rfl
theorem wf_keep (x : S45) : Keep (wf V l) x p ↔ Keep V x p := by
  unfold Keep
  simp only [wf_dsN, wf_cln, wf_sh]
theorem wf_kp : Kp (wf V l) (allS (wf V l)) p ↔ Kp V (allS V) p := by
  rw [kp_deals, kp_deals]
  constructor
  · intro h x hx; exact (wf_keep x).mp (h x hx)
  · intro h x hx; exact (wf_keep x).mpr (h x hx)
end
/-- All prices so many times as great. -/
def prW (V : Wk) (t : Int) : Wk := wf V (V.fs.map fun x => ⟨x.f0 * t, x.f1⟩)
theorem pr_isP {V : Wk} {t : Int} {p : List Int} : IsP (prW V t) p ↔ IsP V p := by
  unfold IsP
  show p.length = Sl V ∧ AllR p (-1) ((V.fs.map _).length - 1) ↔ _
  rw [List.length_map]
theorem pr_film (V : Wk) (t : Int) (n : Nat) : (V.fs.map fun x => (⟨x.f0 * t, x.f1⟩ : S49)).getD n P.z49 = ⟨(V.fs.getD n P.z49).f0 * t, (V.fs.getD n P.z49).f1⟩ := by
  rw [List.getD_eq_getElem?_getD, List.getD_eq_getElem?_getD, List.getElem?_map]
  cases V.fs[n]? with
  | some x => rfl
  | none => show P.z49 = (⟨P.z49.f0 * t, P.z49.f1⟩ : S49); unfold P.z49; rw [Int.zero_mul]
theorem pr_tkN (V : Wk) (t : Int) (p : List Int) (i : Nat) : tkN (prW V t) p i = tkN V p i * t := by
  unfold tkN
  show (if p.getD i 0 = -1 then 0 else ((V.fs.map fun x => (⟨x.f0 * t, x.f1⟩ : S49)).getD (p.getD i 0).toNat P.z49).f0 * mn (((V.fs.map fun x => (⟨x.f0 * t, x.f1⟩ : S49)).getD (p.getD i 0).toNat P.z49).f1.getD (i % V.h.toNat) 0) (V.rs.getD (i / V.h.toNat % V.rs.length) 0)) = (if p.getD i 0 = -1 then 0 else _) * t
  rw [pr_film]
  split
  · rw [Int.zero_mul]
  · rw [Int.mul_assoc, Int.mul_comm t, ← Int.mul_assoc]
theorem pr_tkS (V : Wk) (t : Int) (p : List Int) : ∀ i, tkS (prW V t) p i = tkS V p i * t
  | 0 => by show (0 : Int) = 0 * t; rw [Int.zero_mul]
  | i + 1 => by unfold tkS; rw [pr_tkS V t p i, pr_tkN, Int.add_mul]
theorem pr_takes (V : Wk) (t : Int) (p : List Int) : takes (prW V t) p = takes V p * t := pr_tkS V t p _
theorem pr_mx {V : Wk} {t : Int} (ht : 0 ≤ t) {r : Option Int} (h : IsMx V (allS V) r) : IsMx (prW V t) (allS (prW V t)) (r.map (· * t)) := by
  cases r with
  | none => exact fun p hp hk => h p (pr_isP.mp hp) (wf_kp.mp hk)
  | some m =>
    obtain ⟨⟨p, h1, h2, h3⟩, h4⟩ := h
    refine ⟨⟨p, pr_isP.mpr h1, wf_kp.mpr h2, by rw [pr_takes, h3]⟩, fun q hq hk => ?_⟩
    rw [pr_takes]
    exact Int.mul_le_mul_of_nonneg_right (h4 q (pr_isP.mp hq) (wf_kp.mp hk)) ht
theorem pr_most {V : Wk} {t : Int} (ht : 0 ≤ t) (ok : WOk (prW V t)) {r : Option Int} (h : IsMx V (allS V) r) : MostOk (prW V t) (r.getD 0 * t) (errN r.isSome) :=
  .inr ⟨ok, _, pr_mx ht h, by cases r with
    | none => show 0 * t = 0; rw [Int.zero_mul]
    | some m => rfl, by cases r <;> rfl⟩
/-- With one more film. -/
def moW (V : Wk) (f : S49) : Wk := wf V (V.fs ++ [f])
theorem mo_isP {V : Wk} {f : S49} {p : List Int} (h : IsP V p) : IsP (moW V f) p := by
  refine ⟨h.1, fun x hx => ?_⟩
  have := h.2 x hx
  show -1 ≤ x ∧ x ≤ ((V.fs ++ [f]).length : Int) - 1
  rw [List.length_append, List.length_singleton]
  omega
theorem mo_tkN {V : Wk} {f : S49} {p : List Int} (h : IsP V p) {i : Nat} (hi : i < p.length) : tkN (moW V f) p i = tkN V p i := by
  obtain ⟨x, hx⟩ := get_ex hi
  have hr := h.2 x (mem_of hx)
  unfold tkN
  rw [getD_of hx]
  by_cases e : x = -1
  · rw [if_pos e, if_pos e]
  · rw [if_neg e, if_neg e]
    show (((V.fs ++ [f]).getD x.toNat P.z49).f0 * mn (((V.fs ++ [f]).getD x.toNat P.z49).f1.getD (i % V.h.toNat) 0) (V.rs.getD (i / V.h.toNat % V.rs.length) 0)) = _
    have e2 : (V.fs ++ [f]).getD x.toNat P.z49 = V.fs.getD x.toNat P.z49 := by
      rw [List.getD_eq_getElem?_getD, List.getD_eq_getElem?_getD, List.getElem?_append_left (by omega)]
    rw [e2]
theorem mo_tkS {V : Wk} {f : S49} {p : List Int} (h : IsP V p) : ∀ i, i ≤ p.length → tkS (moW V f) p i = tkS V p i
  | 0, _ => rfl
  | i + 1, hi => by unfold tkS; rw [mo_tkS h i (by omega), mo_tkN h (by omega)]
theorem mo_takes {V : Wk} {f : S49} {p : List Int} (h : IsP V p) : takes (moW V f) p = takes V p := mo_tkS h _ (Nat.le_refl _)
theorem mo_more {V : Wk} {f : S49} {n : Int} {r : Option Int} (h : IsMx V (allS V) (some n)) (k : IsMx (moW V f) (allS (moW V f)) r) : ∃ m, r = some m ∧ n ≤ m := by
  obtain ⟨⟨p, h1, h2, h3⟩, _⟩ := h
  cases r with
  | none => exact absurd (wf_kp.mpr h2) (k p (mo_isP h1))
  | some m =>
    have := k.2 p (mo_isP h1) (wf_kp.mpr h2)
    rw [mo_takes h1] at this
    exact ⟨m, rfl, by omega⟩
/-- The first films' prices changed. -/
structure PrI (t : Int) (i : Nat) (xs ys : List Fh) : Prop where
  len : ys.length = xs.length
  row : ∀ (j : Nat) (y x : Fh), ys[j]? = some y → xs[j]? = some x → y.h = x.h ∧ y.p = if j < i then x.p * t else x.p
theorem PrI.start (t : Int) (xs : List Fh) : PrI t 0 xs xs := ⟨rfl, fun j y x hy hx => by rw [hy] at hx; injection hx with hx; subst hx; exact ⟨rfl, by rw [if_neg (by omega)]⟩⟩
theorem PrI.put {t : Int} {i : Nat} {xs ys : List Fh} {y x : Fh} (h : PrI t i xs ys) (hy : ys[i]? = some y) (hx : xs[i]? = some x) : PrI t (i + 1) xs (ys.set i ⟨x.p * t, y.h⟩) := by
  refine ⟨by rw [List.length_set]; exact h.len, fun j z u hz hu => ?_⟩
  by_cases e : i = j
  · subst e
    rw [List.getElem?_set_self (List.getElem?_eq_some_iff.1 hy).1] at hz
    injection hz with hz
    subst hz
    rw [hx] at hu
    injection hu with hu
    subst hu
    exact ⟨(h.row i y x hy hx).1, by rw [if_pos (by omega)]⟩
  · rw [List.getElem?_set_ne e] at hz
    obtain ⟨q1, q2⟩ := h.row j z u hz hu
    refine ⟨q1, ?_⟩
    rw [q2]
    by_cases hj : j < i
    · rw [if_pos hj, if_pos (by omega)]
    · rw [if_neg hj, if_neg (by omega)]
theorem PrI.ok {t : Int} {xs ys : List Fh} {fs : List S49} {w : World} {bs : Nat} (h : PrI t fs.length xs ys) (m : Mid w bs fs.length xs fs) : FhOk w ys (fs.map fun x => ⟨x.f0 * t, x.f1⟩) := by
  have hl := m.len
  have hok := m.ok
  refine ⟨by rw [h.len, List.length_map, hl], fun i y f hy hf => ?_⟩
  rw [List.getElem?_map] at hf
  have hi := (List.getElem?_eq_some_iff.1 hy).1
  have hle := h.len
  obtain ⟨g, hg⟩ := get_ex (show i < fs.length by omega)
  obtain ⟨x, hx⟩ := get_ex (show i < xs.length by omega)
  rw [hg] at hf
  injection hf with hf
  subst hf
  obtain ⟨q1, q2⟩ := h.row i y x hy hx
  obtain ⟨r1, r2, r3, r4⟩ := hok.row i x g hx hg
  refine ⟨?_, by rw [q1]; exact r2, by rw [q1]; exact r3, by rw [q1]; exact r4⟩
  rw [q2, if_pos (by omega), r1]
theorem FhOk.more {w : World} {xs : List Fh} {fs : List S49} {x : Fh} {f : S49} (h : FhOk w xs fs) (h1 : x.p = f.f0) (h2 : x.h.n = f.f1.length) (h3 : f.f1.length ≤ x.h.c) (h4 : Kd.C kI w x.h.A f.f1.length f.f1) : FhOk w (xs ++ [x]) (fs ++ [f]) := by
  have hl := h.len
  refine ⟨by simp [hl], fun i y g hy hg => ?_⟩
  by_cases hi : i < xs.length
  · rw [List.getElem?_append_left hi] at hy
    rw [List.getElem?_append_left (by omega)] at hg
    exact h.row i y g hy hg
  · have hlt := (List.getElem?_eq_some_iff.1 hy).1
    rw [List.length_append, List.length_singleton] at hlt
    obtain rfl : i = xs.length := by omega
    rw [List.getElem?_append_right (Nat.le_refl _)] at hy
    rw [List.getElem?_append_right (by omega), hl] at hg
    simp at hy hg
    subst hy hg
    exact ⟨h1, h2, h3, h4⟩
end Go.Proofs.Ytdiambcjghlffaa.T
namespace Go.Proofs.Ytdiambcjghlffaa.T
open Go.RowKit Go.Proofs.YtdiambcjghlffaaW.PrintWords Go.Proofs.YtdiambcjghlffaaW.PrintMore
open Go.Proofs.Ytdiambcjghlffaa.P
set_option linter.unusedVariables false
set_option linter.unusedSimpArgs false

/-- The parts of a week but its films' row. -/
structure WQ (bs : Nat) (w : World) (V : Wk) (A : Option Addr) (a : Nat) (C : Option Addr) (c : Nat) (xs : List Fh) : Prop where
  rs : Kd.R kI 3 w bs (fun _ => True) (.slice A V.rs.length a) V.rs
  ds : Kd.R k45 45 w bs (fun _ => True) (.slice C V.ds.length c) V.ds
  cr : Mid w bs V.fs.length xs V.fs
theorem WQ.below {bs : Nat} {w w' : World} {V : Wk} {A C : Option Addr} {a c : Nat} {xs : List Fh} (h : WQ bs w V A a C c xs) (l : Below w.heap.size w w') : WQ bs w' V A a C c xs := ⟨Kd.R_below h.rs l, Kd.R_below h.ds l, h.cr.below l⟩
theorem WQ.lower {bs bs' : Nat} {w : World} {V : Wk} {A C : Option Addr} {a c : Nat} {xs : List Fh} (h : WQ bs w V A a C c xs) (hb : bs' ≤ bs) : WQ bs' w V A a C c xs := ⟨Kd.R_lower h.rs hb, Kd.R_lower h.ds hb, ⟨h.cr.len, fun j x f hx hf => ⟨(h.cr.row j x f hx hf).1, fun hj => Kd.R_lower ((h.cr.row j x f hx hf).2 hj) hb⟩⟩⟩
theorem WQ.grown {bs : Nat} {w w' : World} {V : Wk} {A C : Option Addr} {a c : Nat} {xs : List Fh} {g : Nat} (h : WQ bs w V A a C c xs) (hg : w.grownBy w' (some g)) (hb : ∃ cs t, w.heap[g]? = some (.cells cs t (0, 0)) ∧ 3 ≠ t ∧ 45 ≠ t) : WQ bs w' V A a C c xs := by
  obtain ⟨cs, t, hb, h3, h45⟩ := hb
  exact ⟨Kd.R_grown1 h.rs rfl hg (Kd.R_ne h.rs hb h3), Kd.R_grown1 h.ds rfl hg (Kd.R_ne h.ds hb h45), h.cr.over hb h3 hg⟩
theorem WQ.over {bs b : Nat} {w w' : World} {V : Wk} {A C : Option Addr} {a c : Nat} {xs : List Fh} {u : Value} {ys : List Fh} (h : WQ bs w V A a C c xs) (hu : Kd.R kFH 49 w b (fun _ => True) u ys) (hg : w.grownBy w' u.ownBlock) : WQ bs w' V A a C c xs :=
  ⟨E.R_over' h.rs hu (by decide) hg, E.R_over' h.ds hu (by decide) hg, ⟨h.cr.len, fun j x f hx hf => ⟨(h.cr.row j x f hx hf).1, fun hj => E.R_over' ((h.cr.row j x f hx hf).2 hj) hu (by decide) hg⟩⟩⟩
theorem WR.wq {bs : Nat} {w : World} {V : Wk} {m : Wa} (h : WR bs w V m) : ∃ xs, Kd.R kFH 49 w bs (fun _ => True) (.slice m.B V.fs.length m.b) xs ∧ WQ bs w V m.A m.a m.C m.c xs := by
  obtain ⟨xs, h1, h2⟩ := h.fs
  exact ⟨xs, h1, h.rs, h.ds, h2⟩
theorem wm_prices {bs : Nat} {w : World} {V : Wk} {A B C : Option Addr} {a b c n : Nat} {t : Int} {xs ys : List Fh} (h : WQ bs w V A a C c xs) (hR : Kd.R kFH 49 w bs (fun _ => True) (.slice B n b) ys) (hP : PrI t V.fs.length xs ys) : WM w (prW V t) ⟨A, a, B, b, C, c⟩ := by
  obtain ⟨e1, e2, e3⟩ := Kd.R_reads' hR
  have ho := hP.ok h.cr
  refine ⟨(Kd.R_reads' h.rs).2.2, of_fh ?_ ho, (Kd.R_reads' h.ds).2.2⟩
  show Kd.C kFH w B (V.fs.map _).length ys
  rw [← ho.len]
  exact e3
theorem wm_more {bs : Nat} {w : World} {V : Wk} {A B C : Option Addr} {a b c n : Nat} {xs : List Fh} {f : S49} {x : Fh} (h : WQ bs w V A a C c xs) (hR : Kd.R kFH 49 w bs (fun _ => True) (.slice B n b) (xs ++ [x])) (h1 : x.p = f.f0) (h2 : x.h.n = f.f1.length) (h3 : f.f1.length ≤ x.h.c) (h4 : Kd.C kI w x.h.A f.f1.length f.f1) : WM w (moW V f) ⟨A, a, B, b, C, c⟩ := by
  obtain ⟨e1, e2, e3⟩ := Kd.R_reads' hR
  have ho := h.cr.ok.more h1 h2 h3 h4
  refine ⟨(Kd.R_reads' h.rs).2.2, of_fh ?_ ho, (Kd.R_reads' h.ds).2.2⟩
  show Kd.C kFH w B (V.fs ++ [f]).length _
  rw [← ho.len]
  exact e3
theorem pr_sz {V : Wk} (h : Sz V) (t : Int) : Sz (prW V t) := ⟨h.r, by show (V.fs.map _).length ≤ _; rw [List.length_map]; exact h.f, fun x hx => by
  obtain ⟨y, hy, rfl⟩ := List.mem_map.mp hx
  exact h.c y hy, h.d⟩
set_option maxRecDepth 100000 in
theorem lit23_1 (a : Int) (A : Option Addr) (n c : Nat) (W : World) : (Instr.buildSlice 23 1 #[(0, .agg #[.int .i64 a, .slice A n c])]).run Try.prog W = .ok (.slice (some ⟨W.heap.size, 0, none⟩) 1 1) (W.alloc (.cells #[.int .i64 a, .slice A n c] 49 (0, 0))) := by
  have hu23 := Try.underlying23
  go_simp
theorem repsF (W : World) (base : Nat) (x : Fh) : Reps (kFH.M W base (fun _ => False)) kFH.sz [x] [.int .i64 x.p, x.h.v] := by
  have := Reps.snoc (Reps.none (kFH.M W base fun _ => False) kFH.sz) (p := x) (c := [.int .i64 x.p, x.h.v]) (kFH_mkM _ _ _ x) rfl
  simpa using this
theorem below_of2 {w : World} {V : Wk} {m : Wa} (h : WM w V m) : Below w.heap.size w w := Below.refl _ _
set_option maxRecDepth 100000 in
set_option maxHeartbeats 8000000 in

theorem prices_law (V : Wk) (m : Wa) (t mp : Int) (ml : List Int) (mA : Option Addr) (mc : Nat) (w : World) (hV : WM w V m) (hml : Kd.C kI w mA ml.length ml) (hmc : ml.length ≤ mc) :
    Calls Try.prog 6 #[wv V m, .int .i64 t, .agg #[.int .i64 mp, .slice mA ml.length mc]] w fun e w' => e = .returned (.bool true) ∧ Below w.heap.size w w' := by
  have hu3 := Try.underlying3
  have hu22 := Try.underlying22
  have hu23 := Try.underlying23
  have hu26 := Try.underlying26
  have hu30 := Try.underlying30
  have hu31 := Try.underlying31
  have hu49 := Try.underlying49
  obtain ⟨z3, o3⟩ := info_some info3s (by decide)
  obtain ⟨z22, o22⟩ := info_some info22s (by decide)
  obtain ⟨z23, o23⟩ := info_some info23s (by decide)
  obtain ⟨z26, o26⟩ := info_some info26s (by decide)
  obtain ⟨z49, o49⟩ := info_some info49s (by decide)
  refine E.enter (N := 107) Try.func6 rfl Try.ntmps6 (args := [wv V m, .int .i64 t, .agg #[.int .i64 mp, .slice mA ml.length mc]]) (by simp) ?_
  have L := Below.refl w.heap.size w
  refine E.CG.seq ?_
  refine E.CG.list ?_
  refine E.GL.st rfl rfl rfl (E.ST.box rfl rfl fun g3 w3 e3 b3 l3 => ?_)
  have h3_L : w.heap.size ≤ g3 := by rw [e3]; exact L.size
  replace L := below_step L l3
  refine E.GL.st rfl rfl rfl (E.ST.box rfl rfl fun g5 w5 e5 b5 l5 => ?_)
  have h5_L : w.heap.size ≤ g5 := by rw [e5]; exact L.size
  have n5_b3 : g3 ≠ g5 := by have := blk_lt b3; omega
  replace b3 := blk_below b3 l5
  replace L := below_step L l5
  refine E.GL.run rfl rfl rfl (E.Runs.assign rfl rfl) ?_
  refine E.GL.done ?_
  refine E.QG.code ?_
  refine E.CG.seq ?_
  refine E.CG.seq ?_
  refine E.CG.list ?_
  refine E.GL.run rfl rfl rfl (E.Runs.loads (cs := [.int .i64 V.d, .slice m.A V.rs.length m.a, .int .i64 V.h, .slice m.B V.fs.length m.b, .slice m.C V.ds.length m.c]) rfl rfl hu26 rfl info26s (blk_cells b3)) ?_
  by_cases h17 : Rdy V
  · have hs : Sz V := hg_no h17.1
    have ok := h17.2.2
    have hf4 := ok.s.f
    refine E.GL.st rfl rfl rfl (E.ST.call rfl ent22 (E.evc rfl E.evn) ((ready_calls V m _ (hV.below L) true (iff_of_true rfl h17)).mono ?_))
    rintro e w17 ⟨rfl, l17⟩
    refine ⟨_, rfl, ?_⟩
    replace b3 := blk_below b3 l17
    replace b5 := blk_below b5 l17
    replace L := below_step L l17
    refine E.GL.run rfl rfl rfl (E.Runs.not rfl rfl) ?_
    refine E.GL.run rfl rfl rfl (E.Runs.move rfl rfl) ?_
    refine E.GL.run rfl rfl rfl (E.Runs.move rfl rfl) ?_
    refine E.GL.cmp rfl rfl rfl (fun _ h => (E.Runs.lss rfl rfl rfl h)) (fun h21 => ?_) (fun h21 => ?_)
    · refine E.GL.run rfl rfl rfl (E.Runs.pick_f rfl rfl rfl) ?_
      refine E.GL.run rfl rfl rfl (E.Runs.move rfl rfl) ?_
      refine E.GL.skip rfl rfl rfl ?_
      refine E.GL.skip rfl rfl rfl ?_
      refine E.GL.run rfl rfl rfl (E.Runs.pick_t rfl rfl rfl) ?_
      refine E.GL.done ?_
      refine E.QG.code ?_
      refine E.CG.cond_t rfl ?_
      refine E.CG.seq ?_
      refine E.CG.list ?_
      refine E.GL.st rfl rfl rfl (E.ST.call rfl ent13 E.evn ((works_calls _).mono ?_))
      rintro e w27 ⟨rfl, l27⟩
      refine ⟨_, rfl, ?_⟩
      replace b3 := blk_below b3 l27
      replace b5 := blk_below b5 l27
      replace L := below_step L l27
      refine E.GL.run rfl rfl rfl (E.Runs.assign rfl rfl) ?_
      refine E.GL.done ?_
      refine E.QG.code ?_
      refine E.CG.ret ?_
      refine E.QG.pass_ret ?_
      exact E.QG.result rfl rfl ⟨rfl, L⟩
    · refine E.GL.run rfl rfl rfl (E.Runs.pick_f rfl rfl rfl) ?_
      refine E.GL.run rfl rfl rfl (E.Runs.move rfl rfl) ?_
      refine E.GL.run rfl rfl rfl (E.Runs.move rfl rfl) ?_
      refine E.GL.cmp rfl rfl rfl (fun _ h => (E.Runs.gtr rfl rfl rfl h)) (fun h25 => ?_) (fun h25 => ?_)
      · refine E.GL.run rfl rfl rfl (E.Runs.pick_f rfl rfl rfl) ?_
        refine E.GL.done ?_
        refine E.QG.code ?_
        refine E.CG.cond_t rfl ?_
        refine E.CG.seq ?_
        refine E.CG.list ?_
        refine E.GL.st rfl rfl rfl (E.ST.call rfl ent13 E.evn ((works_calls _).mono ?_))
        rintro e w27 ⟨rfl, l27⟩
        refine ⟨_, rfl, ?_⟩
        replace b3 := blk_below b3 l27
        replace b5 := blk_below b5 l27
        replace L := below_step L l27
        refine E.GL.run rfl rfl rfl (E.Runs.assign rfl rfl) ?_
        refine E.GL.done ?_
        refine E.QG.code ?_
        refine E.CG.ret ?_
        refine E.QG.pass_ret ?_
        exact E.QG.result rfl rfl ⟨rfl, L⟩
      · refine E.GL.run rfl rfl rfl (E.Runs.pick_f rfl rfl rfl) ?_
        refine E.GL.done ?_
        refine E.QG.code ?_
        refine E.CG.cond_f rfl ?_
        refine E.CG.skip ?_
        refine E.QG.code ?_
        refine E.CG.seq ?_
        refine E.CG.list ?_
        refine E.GL.run rfl rfl rfl (E.Runs.loads (cs := [.int .i64 V.d, .slice m.A V.rs.length m.a, .int .i64 V.h, .slice m.B V.fs.length m.b, .slice m.C V.ds.length m.c]) rfl rfl hu26 rfl info26s (blk_cells b3)) ?_
        refine E.GL.st rfl rfl rfl (E.ST.call rfl ent15 (E.evc rfl E.evn) ((most_calls V m _ (hV.below L) hs).mono ?_))
        rintro e w30 ⟨n30, e30, rfl, hm30, l30⟩
        refine ⟨_, rfl, ?_⟩
        replace b3 := blk_below b3 l30
        replace b5 := blk_below b5 l30
        replace L := below_step L l30
        obtain ⟨r, hr, rfl, rfl⟩ := mostOk_r ok hm30
        have hrb : 0 ≤ r.getD 0 ∧ r.getD 0 ≤ 799200 := by
          cases r with
          | none => exact ⟨Int.le_refl _, by decide⟩
          | some a => exact hr.small ok.s
        refine E.GL.run rfl rfl rfl (E.Runs.move rfl rfl) ?_
        refine E.GL.run rfl rfl rfl (E.Runs.extract rfl rfl rfl) ?_
        refine E.GL.run rfl rfl rfl (E.Runs.extract rfl rfl rfl) ?_
        refine E.GL.run rfl rfl rfl (E.Runs.assign rfl rfl) ?_
        refine E.GL.run rfl rfl rfl (E.Runs.assign rfl rfl) ?_
        refine E.GL.done ?_
        refine E.QG.code ?_
        refine E.CG.seq ?_
        refine E.CG.list ?_
        refine E.GL.run rfl rfl rfl (E.Runs.loads (cs := [.int .i64 V.d, .slice m.A V.rs.length m.a, .int .i64 V.h, .slice m.B V.fs.length m.b, .slice m.C V.ds.length m.c]) rfl rfl hu26 rfl info26s (blk_cells b3)) ?_
        have hL34 := L.size
        have hlt5 := blk_lt b5
        refine E.GL.st rfl rfl rfl (E.ST.call rfl ent14 (E.evc rfl E.evn) ((copy_calls V m _ (hV.below L) hs).mono ?_))
        rintro e w34 ⟨mo, rfl, hR, l34⟩
        refine ⟨_, rfl, ?_⟩
        replace b3 := blk_below b3 l34
        replace b5 := blk_below b5 l34
        replace L := below_step L l34
        obtain ⟨xs, rF0, hQ0⟩ := hR.wq
        have n5F : some g5 ≠ (Value.slice mo.B V.fs.length mo.b).ownBlock := fun h => by have := Kd.R_base rF0 _ h.symm; omega
        have rF := Kd.R_lower rF0 hL34
        have hQ : WQ w.heap.size _ V mo.A mo.a mo.C mo.c xs := hQ0.lower hL34
        clear rF0 hQ0
        refine E.GL.st rfl rfl rfl (E.ST.alloc rfl info26z fun g9 w9 e9 b9 l9 => ?_)
        have h9_L : w.heap.size ≤ g9 := by rw [e9]; exact L.size
        have n9_b3 : g3 ≠ g9 := by have := blk_lt b3; omega
        have n9_b5 : g5 ≠ g9 := by have := blk_lt b5; omega
        have n9_rF : some g9 ≠ ((Value.slice mo.B V.fs.length mo.b)).ownBlock := fun h => by have := Kd.R_lt rF _ h.symm; omega
        replace b3 := blk_below b3 l9
        replace b5 := blk_below b5 l9
        replace rF := Kd.R_below rF l9
        replace hQ := hQ.below l9
        replace L := below_step L l9
        refine E.GL.store_whole rfl rfl rfl rfl rfl b9 rfl info26s (week_one _ _ _ _ _ _ _ _ _ _ _) fun wS4_3 c9 lS4_3 => ?_
        replace b3 := blk_grown b3 lS4_3 (E.nes (by first | assumption | exact Ne.symm (by assumption)))
        replace b5 := blk_grown b5 lS4_3 (E.nes (by first | assumption | exact Ne.symm (by assumption)))
        replace rF := Kd.R_grown1 rF rfl lS4_3 (by first | assumption | exact Kd.R_ne rF b9 (by decide))
        replace hQ := hQ.grown lS4_3 (by first | exact ⟨_, _, b9, by decide, by decide⟩ | exact ⟨_, _, b13, by decide, by decide⟩ | fail)
        replace L := E.below_own L h9_L lS4_3
        replace b9 := c9
        clear c9
        refine E.GL.done ?_
        refine E.QG.code ?_
        refine E.CG.seq ?_
        refine E.CG.seq ?_
        refine E.CG.list ?_
        refine E.GL.run rfl rfl rfl (E.Runs.assign rfl rfl) ?_
        refine E.GL.done ?_
        refine E.QG.code ?_
        refine E.CG.block ?_
        obtain ⟨oA, oa, oB, ob, oC, oc⟩ := mo
        have hfl := (Kd.R_reads' rF).1
        replace rF : Kd.R kFH 49 _ w.heap.size (fun _ => True) (.slice oB V.fs.length ob) xs := rF
        replace hQ : WQ w.heap.size _ V oA oa oC oc xs := hQ
        have hxl := hQ.cr.len
        have s6_b3 := b3
        have s6_b5 := b5
        have s6_b9 := b9
        have s6_L := L
        refine E.CG.loop2 (fun (i : Nat) (ys : List Fh) => [(1, .int .i64 t), (3, .pointer (some ⟨g3, 0, none⟩)), (5, .pointer (some ⟨g5, 0, none⟩)), (7, .int .i64 (r.getD 0)), (8, .int .i64 (errN r.isSome)), (9, .pointer (some ⟨g9, 0, none⟩)), (10, .int .i64 (i : Int))]) (fun i ys w' => i ≤ V.fs.length ∧ Kd.R kFH 49 w' w.heap.size (fun _ => True) (.slice oB V.fs.length ob) ys ∧ PrI t i xs ys ∧ WQ w.heap.size w' V oA oa oC oc xs ∧ w'.heap[g3]? = some (.cells #[.int .i64 V.d, .slice m.A V.rs.length m.a, .int .i64 V.h, .slice m.B V.fs.length m.b, .slice m.C V.ds.length m.c] 26 (0, 0)) ∧ w'.heap[g5]? = some (.cells #[.int .i64 mp, .slice mA ml.length mc] 49 (0, 0)) ∧ w'.heap[g9]? = some (.cells #[.int .i64 V.d, .slice oA V.rs.length oa, .int .i64 V.h, .slice oB V.fs.length ob, .slice oC V.ds.length oc] 26 (0, 0)) ∧ Below w.heap.size w w') (fun i ys => V.fs.length - i) 0 xs (E.subc rfl (E.subc rfl (E.subc rfl (E.subc rfl (E.subc rfl (E.subc rfl (E.subc rfl E.subn))))))) ⟨Nat.zero_le _, rF, PrI.start t xs, hQ, b3, b5, b9, L⟩ ?_
        rintro i ys w6 ⟨hi, rF, hP, hQ, b3, b5, b9, L⟩
        refine E.CG.seq ?_
        refine E.CG.seq ?_
        refine E.CG.list ?_
        refine E.GL.run rfl rfl rfl (E.Runs.move rfl rfl) ?_
        refine E.GL.run rfl rfl rfl (E.Runs.fieldAddr rfl rfl hu26 rfl (by assumption) rfl) ?_
        refine E.GL.run rfl rfl rfl (E.Runs.load1 rfl rfl hu23 rfl (by first | assumption | exact E.blkc (by assumption) rfl | exact pw_cell_below L (by assumption))) ?_
        refine E.GL.run rfl rfl rfl (E.Runs.len rfl rfl hu23) ?_
        refine E.GL.cmp rfl rfl rfl (fun _ h => (E.Runs.lss rfl rfl rfl h)) (fun h39 => ?_) (fun h39 => ?_)
        · obtain ⟨f, hfi⟩ := get_ex (show i < V.fs.length by omega)
          have hfo := ok.s.fs f (mem_of hfi)
          obtain ⟨hf0, hf1⟩ := hfo.1
          obtain ⟨x, hx⟩ := get_ex (show i < xs.length by omega)
          have hyl := hP.len
          obtain ⟨y, hy⟩ := get_ex (show i < ys.length by omega)
          obtain ⟨hyh, hyp⟩ := hP.row i y x hy hx
          rw [if_neg (Nat.lt_irrefl _)] at hyp
          have hxp := (hQ.cr.row i x f hx hfi).1
          obtain ⟨gF, cF0, hvF, hbF, hlF, cFs, bF⟩ := Kd.R_form rF (by omega)
          obtain ⟨rfl, rfl⟩ : oB = some ⟨gF, 0, none⟩ ∧ ob = cF0 := by injection hvF with q1 q2 q3; exact ⟨q1, q3⟩
          obtain ⟨hcp, _, hfz, _, hset⟩ := fh_at rF hy
          obtain ⟨rF2, gF2⟩ := hset (x.p * t)
          have hmul : 0 ≤ y.p * t ∧ y.p * t ≤ 2000 := by
            rw [hyp, hxp]
            exact ⟨Int.mul_nonneg hf0 (by omega), Int.le_trans (Int.mul_le_mul_of_nonneg_right hf1 (by omega)) (by omega)⟩
          refine E.GL.done ?_
          refine E.QG.code ?_
          refine E.CG.cond_t rfl ?_
          refine E.CG.skip ?_
          refine E.QG.code ?_
          refine E.CG.seq ?_
          refine E.CG.block ?_
          refine E.CG.list ?_
          refine E.GL.run rfl rfl rfl (E.Runs.fieldAddr rfl rfl hu26 rfl (by assumption) rfl) ?_
          refine E.GL.run rfl rfl rfl (E.Runs.load1 rfl rfl hu23 rfl (by first | assumption | exact E.blkc (by assumption) rfl | exact pw_cell_below L (by assumption))) ?_
          refine E.GL.run rfl rfl rfl (E.Runs.move rfl rfl) ?_
          refine E.GL.run rfl rfl rfl (E.Runs.indexAddrA (i := i) rfl rfl rfl hu23 z49 o49 (by omega) rfl (show _ = (⟨gF, i * 2, none⟩ : Addr) from by rw [Go.Addr.add_mid, Nat.zero_add])) ?_
          refine E.GL.run rfl rfl rfl (E.Runs.fieldAddr rfl rfl hu49 rfl (by assumption) rfl) ?_
          refine E.GL.run rfl rfl rfl (E.Runs.load rfl rfl hu3 hcp) ?_
          refine E.GL.run rfl rfl rfl (E.Runs.move rfl rfl) ?_
          refine E.GL.run rfl rfl rfl (E.Runs.mul rfl rfl rfl (IntWalk.i64_in _ (by omega))) ?_
          refine E.GL.run rfl rfl rfl (E.Runs.indexAddrA (i := i) rfl rfl rfl hu23 z49 o49 (by omega) rfl (show _ = (⟨gF, i * 2, none⟩ : Addr) from by rw [Go.Addr.add_mid, Nat.zero_add])) ?_
          refine E.GL.run rfl rfl rfl (E.Runs.fieldAddr rfl rfl hu49 rfl (by assumption) rfl) ?_
          refine E.GL.sn rfl rfl (E.ST.storeN (old := .int .i64 y.p) (off := i * 2) rfl z3 o3 rfl (show _ = some (Value.int .i64 (x.p * t)) from by rw [← hyp]; rfl) hcp (hfz 0) ?_)
          replace b3 := blk_grown b3 gF2 (Kd.R_ne rF b3 (by decide))
          have b5n : some g5 ≠ some gF := n5F
          replace b5 := blk_grown b5 gF2 b5n
          replace b9 := blk_grown b9 gF2 (Kd.R_ne rF b9 (by decide))
          replace hQ := hQ.over rF gF2
          replace L := E.below_own L hbF gF2
          have hP2 := hP.put hy hx
          refine E.GL.done ?_
          refine E.QG.block_normal ?_
          refine E.QG.code ?_
          refine E.CG.list ?_
          refine E.GL.run rfl rfl rfl (E.Runs.move rfl rfl) ?_
          refine E.GL.run rfl rfl rfl (E.Runs.add rfl rfl rfl (IntWalk.i64_in _ (by omega))) ?_
          refine E.GL.run rfl rfl rfl (E.Runs.assign rfl rfl) ?_
          refine E.GL.done ?_
          exact E.QG.round2 (d := []) (i + 1) _ (E.subc rfl (E.subc rfl (E.subc rfl (E.subc rfl (E.subc rfl (E.subc rfl (E.subc rfl E.subn))))))) ⟨by omega, rF2, hP2, hQ, b3, b5, b9, L⟩ (by omega)
        · obtain rfl : i = V.fs.length := by omega
          refine E.GL.done ?_
          refine E.QG.code ?_
          refine E.CG.cond_f rfl ?_
          refine E.CG.exit ?_
          refine E.QG.pass_exit ?_
          refine E.QG.pass_exit ?_
          refine E.QG.block_here ?_
          refine E.QG.code ?_
          refine E.CG.seq ?_
          refine E.CG.seq ?_
          have hZ := wm_prices hQ rF hP
          have lz := below_of2 hZ
          rw [show V.fs.length = (V.fs.map fun x => (⟨x.f0 * t, x.f1⟩ : S49)).length from (List.length_map ..).symm] at b9
          refine E.CG.list ?_
          refine E.GL.run rfl rfl rfl (E.Runs.loads (cs := [.int .i64 V.d, .slice oA V.rs.length oa, .int .i64 V.h, .slice oB (V.fs.map fun x => (⟨x.f0 * t, x.f1⟩ : S49)).length ob, .slice oC V.ds.length oc]) rfl rfl hu26 rfl info26s (blk_cells b9)) ?_
          refine E.GL.st rfl rfl rfl (E.ST.call rfl ent27 (E.evc rfl E.evn) ((check_r (prW V t) ⟨oA, oa, oB, ob, oC, oc⟩ _ (hZ.below lz) (pr_sz hs t)).mono ?_))
          rintro e w53 ⟨rfl, l53⟩
          refine ⟨_, rfl, ?_⟩
          replace b3 := blk_below b3 l53
          replace b5 := blk_below b5 l53
          replace b9 := blk_below b9 l53
          replace rF := Kd.R_below rF l53
          replace hQ := hQ.below l53
          replace L := below_step L l53
          replace lz := below_step lz l53
          refine E.GL.cmp rfl rfl rfl (fun _ h => (E.Runs.eql rfl rfl rfl h)) (fun h54 => ?_) (fun h54 => ?_)
          · have okZ : WOk (prW V t) := chk_ok.mp (show chk (prW V t) = 0 by omega)
            refine E.GL.done ?_
            refine E.QG.code ?_
            refine E.CG.cond_t rfl ?_
            refine E.CG.seq ?_
            refine E.CG.list ?_
            refine E.GL.run rfl rfl rfl (E.Runs.loads (cs := [.int .i64 V.d, .slice oA V.rs.length oa, .int .i64 V.h, .slice oB (V.fs.map fun x => (⟨x.f0 * t, x.f1⟩ : S49)).length ob, .slice oC V.ds.length oc]) rfl rfl hu26 rfl info26s (blk_cells b9)) ?_
            refine E.GL.st rfl rfl rfl (E.ST.call rfl ent15 (E.evc rfl E.evn) ((most_calls (prW V t) ⟨oA, oa, oB, ob, oC, oc⟩ _ (hZ.below lz) (pr_sz hs t)).mono ?_))
            rintro e w57 ⟨n57, e57, rfl, hm57, l57⟩
            refine ⟨_, rfl, ?_⟩
            replace b3 := blk_below b3 l57
            replace b5 := blk_below b5 l57
            replace b9 := blk_below b9 l57
            replace rF := Kd.R_below rF l57
            replace hQ := hQ.below l57
            replace L := below_step L l57
            replace lz := below_step lz l57
            obtain ⟨rfl, rfl⟩ := (pr_most (by omega) okZ hr).one hm57
            refine E.GL.run rfl rfl rfl (E.Runs.move rfl rfl) ?_
            refine E.GL.run rfl rfl rfl (E.Runs.extract rfl rfl rfl) ?_
            refine E.GL.run rfl rfl rfl (E.Runs.extract rfl rfl rfl) ?_
            refine E.GL.run rfl rfl rfl (E.Runs.assign rfl rfl) ?_
            refine E.GL.run rfl rfl rfl (E.Runs.assign rfl rfl) ?_
            refine E.GL.done ?_
            refine E.QG.code ?_
            refine E.CG.seq ?_
            refine E.CG.list ?_
            refine E.GL.run rfl rfl rfl (E.Runs.move rfl rfl) ?_
            refine E.GL.run rfl rfl rfl (E.Runs.move rfl rfl) ?_
            refine E.GL.run rfl rfl rfl (E.Runs.neq rfl rfl rfl (E.ne_f rfl)) ?_
            refine E.GL.run rfl rfl rfl (E.Runs.move rfl rfl) ?_
            refine E.GL.run rfl rfl rfl (E.Runs.move rfl rfl) ?_
            refine E.GL.run rfl rfl rfl (E.Runs.move rfl rfl) ?_
            refine E.GL.run rfl rfl rfl (E.Runs.move rfl rfl) ?_
            refine E.GL.run rfl rfl rfl (E.Runs.mul rfl rfl rfl (IntWalk.i64_in _ (by have h1 := Int.mul_nonneg hrb.1 (show 0 ≤ t by omega); have h2 := Int.mul_le_mul hrb.2 (show t ≤ 20 by omega) (by omega) (by decide); omega))) ?_
            refine E.GL.run rfl rfl rfl (E.Runs.neq rfl rfl rfl (E.ne_f rfl)) ?_
            refine E.GL.run rfl rfl rfl (E.Runs.pick_f rfl rfl rfl) ?_
            refine E.GL.done ?_
            refine E.QG.code ?_
            refine E.CG.cond_f rfl ?_
            refine E.CG.skip ?_
            refine E.QG.code ?_
            refine E.CG.seq ?_
            refine E.CG.list ?_
            refine E.GL.run rfl rfl rfl (E.Runs.loads (cs := [.int .i64 V.d, .slice m.A V.rs.length m.a, .int .i64 V.h, .slice m.B V.fs.length m.b, .slice m.C V.ds.length m.c]) rfl rfl hu26 rfl info26s (blk_cells b3)) ?_
            have hL71 := L.size
            have hlt5 := blk_lt b5
            refine E.GL.st rfl rfl rfl (E.ST.call rfl ent14 (E.evc rfl E.evn) ((copy_calls V m _ (hV.below L) hs).mono ?_))
            rintro e w71 ⟨m2, rfl, hR2, l71⟩
            refine ⟨_, rfl, ?_⟩
            replace b3 := blk_below b3 l71
            replace b5 := blk_below b5 l71
            replace b9 := blk_below b9 l71
            replace rF := Kd.R_below rF l71
            replace hQ := hQ.below l71
            replace L := below_step L l71
            replace lz := below_step lz l71
            obtain ⟨xs2, rG0, hQ0⟩ := hR2.wq
            have n5G : some g5 ≠ (Value.slice m2.B V.fs.length m2.b).ownBlock := fun h => by have := Kd.R_base rG0 _ h.symm; omega
            have rG := Kd.R_lower rG0 hL71
            have hQ : WQ w.heap.size _ V m2.A m2.a m2.C m2.c xs2 := hQ0.lower hL71
            clear rG0 hQ0
            refine E.GL.st rfl rfl rfl (E.ST.alloc rfl info26z fun g13 w13 e13 b13 l13 => ?_)
            have h13_L : w.heap.size ≤ g13 := by rw [e13]; exact L.size
            have n13_b3 : g3 ≠ g13 := by have := blk_lt b3; omega
            have n13_b5 : g5 ≠ g13 := by have := blk_lt b5; omega
            have n13_rG : some g13 ≠ ((Value.slice m2.B V.fs.length m2.b)).ownBlock := fun h => by have := Kd.R_lt rG _ h.symm; omega
            replace b3 := blk_below b3 l13
            replace b5 := blk_below b5 l13
            replace rG := Kd.R_below rG l13
            replace hQ := hQ.below l13
            replace L := below_step L l13
            refine E.GL.store_whole rfl rfl rfl rfl rfl b13 rfl info26s (week_one _ _ _ _ _ _ _ _ _ _ _) fun wS13_3 c13 lS13_3 => ?_
            replace b3 := blk_grown b3 lS13_3 (E.nes (by first | assumption | exact Ne.symm (by assumption)))
            replace b5 := blk_grown b5 lS13_3 (E.nes (by first | assumption | exact Ne.symm (by assumption)))
            replace rG := Kd.R_grown1 rG rfl lS13_3 (by first | assumption | exact Kd.R_ne rG b13 (by decide))
            replace hQ := hQ.grown lS13_3 (by first | exact ⟨_, _, b9, by decide, by decide⟩ | exact ⟨_, _, b13, by decide, by decide⟩ | fail)
            replace L := E.below_own L h13_L lS13_3
            replace b13 := c13
            clear c13
            refine E.GL.done ?_
            refine E.QG.code ?_
            refine E.CG.seq ?_
            refine E.CG.list ?_
            refine E.GL.run rfl rfl rfl (E.Runs.fieldAddr rfl rfl hu26 rfl (by assumption) rfl) ?_
            refine E.GL.run rfl rfl rfl (E.Runs.load1 rfl rfl hu23 rfl (by first | assumption | exact E.blkc (by assumption) rfl | exact pw_cell_below L (by assumption))) ?_
            refine E.GL.run rfl rfl rfl (E.Runs.loads (cs := [.int .i64 mp, .slice mA ml.length mc]) rfl rfl hu49 rfl info49s (blk_cells b5)) ?_
            refine E.GL.st rfl rfl rfl (E.ST.litAt kFH w.heap.size (w0 := w) (ys := [⟨mp, ⟨mA, ml.length, mc⟩⟩]) (inner := [.int .i64 mp, .slice mA ml.length mc]) rfl rfl (E.epc rfl E.epn) (lit23_1 _ _ _ _) (repsF _ _ ⟨mp, ⟨mA, ml.length, mc⟩⟩) L L.size (by simp) fun u75 w75 r75 k75 l75 n75 => ?_)
            replace b3 := blk_below b3 l75
            replace b5 := blk_below b5 l75
            replace b13 := blk_below b13 l75
            replace rG := Kd.R_below rG l75
            replace hQ := hQ.below l75
            replace L := k75
            obtain ⟨A75, c75, hv75⟩ := Kd.R_slice r75
            subst hv75
            have hgl := hQ.cr.len
            refine E.GL.st rfl rfl rfl (E.ST.appendRows kFH w.heap.size (w0 := w) (s := .tmp 73) (x := .tmp 75) rfl hu23 info49 rfl (by decide) (by decide) rfl rfl rG (Kd.R_reads' r75).2.2 madeF L L.size (by have := hs.f; simp only [List.length_singleton]; omega) fun u76 w76 R76 k76 g76 => ?_)
            replace b3 := blk_grown b3 g76 (Kd.R_ne rG b3 (by decide))
            replace b5 := blk_grown b5 g76 n5G
            replace b13 := blk_grown b13 g76 (Kd.R_ne rG b13 (by decide))
            replace hQ := hQ.over rG g76
            replace L := k76
            obtain ⟨A76, c76, hv76⟩ := Kd.R_slice R76
            rw [List.length_append, List.length_singleton, hgl, show V.fs.length + 1 = (V.fs ++ [(⟨mp, ml⟩ : S49)]).length by simp] at hv76
            subst hv76
            refine E.GL.run rfl rfl rfl (E.Runs.fieldAddr rfl rfl hu26 rfl (by assumption) rfl) ?_
            refine E.GL.sn rfl rfl (E.ST.storeSl (cs := [.int .i64 V.d, .slice m2.A V.rs.length m2.a, .int .i64 V.h, .slice m2.B V.fs.length m2.b, .slice m2.C V.ds.length m2.c]) rfl z23 o23 rfl rfl b13 rfl rfl fun wS c13 lS => ?_)
            replace b3 := blk_grown b3 lS (E.nes (by first | assumption | exact Ne.symm (by assumption)))
            replace b5 := blk_grown b5 lS (E.nes (by first | assumption | exact Ne.symm (by assumption)))
            replace hQ := hQ.grown lS ⟨_, _, b13, by decide, by decide⟩
            replace R76 := Kd.R_grown1 R76 rfl lS (Kd.R_ne R76 b13 (by decide))
            replace L := E.below_own L h13_L lS
            replace b13 := c13
            refine E.GL.done ?_
            refine E.QG.code ?_
            refine E.CG.seq ?_
            refine E.CG.seq ?_
            have hY := wm_more (f := ⟨mp, ml⟩) hQ R76 rfl rfl hmc (Kd.C_below hml L)
            have ly := below_of2 hY
            refine E.CG.list ?_
            refine E.GL.run rfl rfl rfl (E.Runs.fieldAddr rfl rfl hu49 rfl (by assumption) rfl) ?_
            refine E.GL.run rfl rfl rfl (E.Runs.load1 rfl rfl hu22 rfl (by first | assumption | exact E.blkc (by assumption) rfl | exact pw_cell_below L (by assumption) | exact pw_cell_below ly (by assumption))) ?_
            refine E.GL.run rfl rfl rfl (E.Runs.len rfl rfl hu22) ?_
            refine E.GL.cmp rfl rfl rfl (fun _ h => (E.Runs.gtr rfl rfl rfl h)) (fun h81 => ?_) (fun h81 => ?_)
            · refine E.GL.run rfl rfl rfl (E.Runs.move rfl rfl) ?_
              refine E.GL.skip rfl rfl rfl ?_
              refine E.GL.skip rfl rfl rfl ?_
              refine E.GL.skip rfl rfl rfl ?_
              refine E.GL.run rfl rfl rfl (E.Runs.pick_t rfl rfl rfl) ?_
              refine E.GL.done ?_
              refine E.QG.code ?_
              refine E.CG.cond_t rfl ?_
              refine E.CG.seq ?_
              refine E.CG.list ?_
              refine E.GL.st rfl rfl rfl (E.ST.call rfl ent13 E.evn ((works_calls _).mono ?_))
              rintro e w87 ⟨rfl, l87⟩
              refine ⟨_, rfl, ?_⟩
              replace b3 := blk_below b3 l87
              replace b5 := blk_below b5 l87
              replace b13 := blk_below b13 l87
              replace hQ := hQ.below l87
              replace L := below_step L l87
              replace ly := below_step ly l87
              refine E.GL.run rfl rfl rfl (E.Runs.assign rfl rfl) ?_
              refine E.GL.done ?_
              refine E.QG.code ?_
              refine E.CG.ret ?_
              refine E.QG.pass_ret ?_
              exact E.QG.result rfl rfl ⟨rfl, L⟩
            · refine E.GL.run rfl rfl rfl (E.Runs.move rfl rfl) ?_
              refine E.GL.run rfl rfl rfl (E.Runs.loads (cs := [.int .i64 V.d, .slice m2.A V.rs.length m2.a, .int .i64 V.h, .slice A76 (V.fs ++ [(⟨mp, ml⟩ : S49)]).length c76, .slice m2.C V.ds.length m2.c]) rfl rfl hu26 rfl info26s (blk_cells b13)) ?_
              by_cases h84 : Rdy (moW V ⟨mp, ml⟩)
              · refine E.GL.st rfl rfl rfl (E.ST.call rfl ent22 (E.evc rfl E.evn) ((ready_calls (moW V ⟨mp, ml⟩) ⟨m2.A, m2.a, A76, c76, m2.C, m2.c⟩ _ (hY.below ly) true (iff_of_true rfl h84)).mono ?_))
                rintro e w84 ⟨rfl, l84⟩
                refine ⟨_, rfl, ?_⟩
                replace b3 := blk_below b3 l84
                replace b5 := blk_below b5 l84
                replace b13 := blk_below b13 l84
                replace hQ := hQ.below l84
                replace L := below_step L l84
                replace ly := below_step ly l84
                refine E.GL.run rfl rfl rfl (E.Runs.not rfl rfl) ?_
                refine E.GL.run rfl rfl rfl (E.Runs.pick_f rfl rfl rfl) ?_
                refine E.GL.done ?_
                refine E.QG.code ?_
                refine E.CG.cond_f rfl ?_
                refine E.CG.skip ?_
                refine E.QG.code ?_
                refine E.CG.seq ?_
                refine E.CG.list ?_
                refine E.GL.run rfl rfl rfl (E.Runs.loads (cs := [.int .i64 V.d, .slice m2.A V.rs.length m2.a, .int .i64 V.h, .slice A76 (V.fs ++ [(⟨mp, ml⟩ : S49)]).length c76, .slice m2.C V.ds.length m2.c]) rfl rfl hu26 rfl info26s (blk_cells b13)) ?_
                refine E.GL.st rfl rfl rfl (E.ST.call rfl ent15 (E.evc rfl E.evn) ((most_calls (moW V ⟨mp, ml⟩) ⟨m2.A, m2.a, A76, c76, m2.C, m2.c⟩ _ (hY.below ly) (hg_no h84.1)).mono ?_))
                rintro e w90 ⟨n90, e90, rfl, hm90, l90⟩
                refine ⟨_, rfl, ?_⟩
                replace b3 := blk_below b3 l90
                replace b5 := blk_below b5 l90
                replace b13 := blk_below b13 l90
                replace hQ := hQ.below l90
                replace L := below_step L l90
                replace ly := below_step ly l90
                obtain ⟨r90, hr90, rfl, rfl⟩ := mostOk_r h84.2.2 hm90
                refine E.GL.run rfl rfl rfl (E.Runs.move rfl rfl) ?_
                refine E.GL.run rfl rfl rfl (E.Runs.extract rfl rfl rfl) ?_
                refine E.GL.run rfl rfl rfl (E.Runs.extract rfl rfl rfl) ?_
                refine E.GL.run rfl rfl rfl (E.Runs.assign rfl rfl) ?_
                refine E.GL.run rfl rfl rfl (E.Runs.assign rfl rfl) ?_
                refine E.GL.done ?_
                refine E.QG.code ?_
                refine E.CG.seq ?_
                refine E.CG.list ?_
                rcases r with _ | n
                · refine E.GL.run rfl rfl rfl (E.Runs.move rfl rfl) ?_
                  refine E.GL.run rfl rfl rfl (E.Runs.neq rfl rfl rfl (E.ne_t (show (3 : Int) ≠ 0 by decide))) ?_
                  refine E.GL.run rfl rfl rfl (E.Runs.move rfl rfl) ?_
                  refine E.GL.skip rfl rfl rfl ?_
                  refine E.GL.skip rfl rfl rfl ?_
                  refine E.GL.skip rfl rfl rfl ?_
                  refine E.GL.skip rfl rfl rfl ?_
                  refine E.GL.skip rfl rfl rfl ?_
                  refine E.GL.skip rfl rfl rfl ?_
                  refine E.GL.skip rfl rfl rfl ?_
                  refine E.GL.run rfl rfl rfl (E.Runs.pick_t rfl rfl rfl) ?_
                  refine E.GL.run rfl rfl rfl (E.Runs.move rfl rfl) ?_
                  refine E.GL.st rfl rfl rfl (E.ST.call rfl ent13 E.evn ((works_calls _).mono ?_))
                  rintro e w105 ⟨rfl, l105⟩
                  refine ⟨_, rfl, ?_⟩
                  replace b3 := blk_below b3 l105
                  replace b5 := blk_below b5 l105
                  replace b13 := blk_below b13 l105
                  replace hQ := hQ.below l105
                  replace L := below_step L l105
                  replace ly := below_step ly l105
                  refine E.GL.run rfl rfl rfl (E.Runs.pick_t rfl rfl rfl) ?_
                  refine E.GL.run rfl rfl rfl (E.Runs.assign rfl rfl) ?_
                  refine E.GL.done ?_
                  refine E.QG.code ?_
                  refine E.CG.ret ?_
                  exact E.QG.result rfl rfl ⟨rfl, L⟩
                · obtain ⟨k, rfl, hle⟩ := mo_more hr hr90
                  refine E.GL.run rfl rfl rfl (E.Runs.move rfl rfl) ?_
                  refine E.GL.run rfl rfl rfl (E.Runs.neq rfl rfl rfl (E.ne_f rfl)) ?_
                  refine E.GL.run rfl rfl rfl (E.Runs.move rfl rfl) ?_
                  refine E.GL.run rfl rfl rfl (E.Runs.move rfl rfl) ?_
                  refine E.GL.run rfl rfl rfl (E.Runs.eql rfl rfl rfl (decide_eq_true rfl)) ?_
                  refine E.GL.run rfl rfl rfl (E.Runs.move rfl rfl) ?_
                  refine E.GL.run rfl rfl rfl (E.Runs.move rfl rfl) ?_
                  refine E.GL.run rfl rfl rfl (E.Runs.move rfl rfl) ?_
                  refine E.GL.run rfl rfl rfl (E.Runs.geq rfl rfl rfl (decide_eq_true (show k ≥ n by omega))) ?_
                  refine E.GL.run rfl rfl rfl (E.Runs.pick_t rfl rfl rfl) ?_
                  refine E.GL.run rfl rfl rfl (E.Runs.pick_f rfl rfl rfl) ?_
                  refine E.GL.run rfl rfl rfl (E.Runs.move rfl rfl) ?_
                  refine E.GL.st rfl rfl rfl (E.ST.call rfl ent13 E.evn ((works_calls _).mono ?_))
                  rintro e w105 ⟨rfl, l105⟩
                  refine ⟨_, rfl, ?_⟩
                  replace b3 := blk_below b3 l105
                  replace b5 := blk_below b5 l105
                  replace b13 := blk_below b13 l105
                  replace hQ := hQ.below l105
                  replace L := below_step L l105
                  replace ly := below_step ly l105
                  refine E.GL.run rfl rfl rfl (E.Runs.pick_t rfl rfl rfl) ?_
                  refine E.GL.run rfl rfl rfl (E.Runs.assign rfl rfl) ?_
                  refine E.GL.done ?_
                  refine E.QG.code ?_
                  refine E.CG.ret ?_
                  exact E.QG.result rfl rfl ⟨rfl, L⟩
              · refine E.GL.st rfl rfl rfl (E.ST.call rfl ent22 (E.evc rfl E.evn) ((ready_calls (moW V ⟨mp, ml⟩) ⟨m2.A, m2.a, A76, c76, m2.C, m2.c⟩ _ (hY.below ly) false (iff_of_false Bool.false_ne_true h84)).mono ?_))
                rintro e w84 ⟨rfl, l84⟩
                refine ⟨_, rfl, ?_⟩
                replace b3 := blk_below b3 l84
                replace b5 := blk_below b5 l84
                replace b13 := blk_below b13 l84
                replace hQ := hQ.below l84
                replace L := below_step L l84
                replace ly := below_step ly l84
                refine E.GL.run rfl rfl rfl (E.Runs.not rfl rfl) ?_
                refine E.GL.run rfl rfl rfl (E.Runs.pick_f rfl rfl rfl) ?_
                refine E.GL.done ?_
                refine E.QG.code ?_
                refine E.CG.cond_t rfl ?_
                refine E.CG.seq ?_
                refine E.CG.list ?_
                refine E.GL.st rfl rfl rfl (E.ST.call rfl ent13 E.evn ((works_calls _).mono ?_))
                rintro e w87 ⟨rfl, l87⟩
                refine ⟨_, rfl, ?_⟩
                replace b3 := blk_below b3 l87
                replace b5 := blk_below b5 l87
                replace b13 := blk_below b13 l87
                replace hQ := hQ.below l87
                replace L := below_step L l87
                replace ly := below_step ly l87
                refine E.GL.run rfl rfl rfl (E.Runs.assign rfl rfl) ?_
                refine E.GL.done ?_
                refine E.QG.code ?_
                refine E.CG.ret ?_
                refine E.QG.pass_ret ?_
                exact E.QG.result rfl rfl ⟨rfl, L⟩
          · refine E.GL.done ?_
            refine E.QG.code ?_
            refine E.CG.cond_f rfl ?_
            refine E.CG.skip ?_
            refine E.QG.code ?_
            refine E.CG.seq ?_
            refine E.CG.list ?_
            refine E.GL.run rfl rfl rfl (E.Runs.loads (cs := [.int .i64 V.d, .slice m.A V.rs.length m.a, .int .i64 V.h, .slice m.B V.fs.length m.b, .slice m.C V.ds.length m.c]) rfl rfl hu26 rfl info26s (blk_cells b3)) ?_
            have hL71 := L.size
            have hlt5 := blk_lt b5
            refine E.GL.st rfl rfl rfl (E.ST.call rfl ent14 (E.evc rfl E.evn) ((copy_calls V m _ (hV.below L) hs).mono ?_))
            rintro e w71 ⟨m2, rfl, hR2, l71⟩
            refine ⟨_, rfl, ?_⟩
            replace b3 := blk_below b3 l71
            replace b5 := blk_below b5 l71
            replace b9 := blk_below b9 l71
            replace rF := Kd.R_below rF l71
            replace hQ := hQ.below l71
            replace L := below_step L l71
            replace lz := below_step lz l71
            obtain ⟨xs2, rG0, hQ0⟩ := hR2.wq
            have n5G : some g5 ≠ (Value.slice m2.B V.fs.length m2.b).ownBlock := fun h => by have := Kd.R_base rG0 _ h.symm; omega
            have rG := Kd.R_lower rG0 hL71
            have hQ : WQ w.heap.size _ V m2.A m2.a m2.C m2.c xs2 := hQ0.lower hL71
            clear rG0 hQ0
            refine E.GL.st rfl rfl rfl (E.ST.alloc rfl info26z fun g13 w13 e13 b13 l13 => ?_)
            have h13_L : w.heap.size ≤ g13 := by rw [e13]; exact L.size
            have n13_b3 : g3 ≠ g13 := by have := blk_lt b3; omega
            have n13_b5 : g5 ≠ g13 := by have := blk_lt b5; omega
            have n13_rG : some g13 ≠ ((Value.slice m2.B V.fs.length m2.b)).ownBlock := fun h => by have := Kd.R_lt rG _ h.symm; omega
            replace b3 := blk_below b3 l13
            replace b5 := blk_below b5 l13
            replace rG := Kd.R_below rG l13
            replace hQ := hQ.below l13
            replace L := below_step L l13
            refine E.GL.store_whole rfl rfl rfl rfl rfl b13 rfl info26s (week_one _ _ _ _ _ _ _ _ _ _ _) fun wS13_3 c13 lS13_3 => ?_
            replace b3 := blk_grown b3 lS13_3 (E.nes (by first | assumption | exact Ne.symm (by assumption)))
            replace b5 := blk_grown b5 lS13_3 (E.nes (by first | assumption | exact Ne.symm (by assumption)))
            replace rG := Kd.R_grown1 rG rfl lS13_3 (by first | assumption | exact Kd.R_ne rG b13 (by decide))
            replace hQ := hQ.grown lS13_3 (by first | exact ⟨_, _, b9, by decide, by decide⟩ | exact ⟨_, _, b13, by decide, by decide⟩ | fail)
            replace L := E.below_own L h13_L lS13_3
            replace b13 := c13
            clear c13
            refine E.GL.done ?_
            refine E.QG.code ?_
            refine E.CG.seq ?_
            refine E.CG.list ?_
            refine E.GL.run rfl rfl rfl (E.Runs.fieldAddr rfl rfl hu26 rfl (by assumption) rfl) ?_
            refine E.GL.run rfl rfl rfl (E.Runs.load1 rfl rfl hu23 rfl (by first | assumption | exact E.blkc (by assumption) rfl | exact pw_cell_below L (by assumption))) ?_
            refine E.GL.run rfl rfl rfl (E.Runs.loads (cs := [.int .i64 mp, .slice mA ml.length mc]) rfl rfl hu49 rfl info49s (blk_cells b5)) ?_
            refine E.GL.st rfl rfl rfl (E.ST.litAt kFH w.heap.size (w0 := w) (ys := [⟨mp, ⟨mA, ml.length, mc⟩⟩]) (inner := [.int .i64 mp, .slice mA ml.length mc]) rfl rfl (E.epc rfl E.epn) (lit23_1 _ _ _ _) (repsF _ _ ⟨mp, ⟨mA, ml.length, mc⟩⟩) L L.size (by simp) fun u75 w75 r75 k75 l75 n75 => ?_)
            replace b3 := blk_below b3 l75
            replace b5 := blk_below b5 l75
            replace b13 := blk_below b13 l75
            replace rG := Kd.R_below rG l75
            replace hQ := hQ.below l75
            replace L := k75
            obtain ⟨A75, c75, hv75⟩ := Kd.R_slice r75
            subst hv75
            have hgl := hQ.cr.len
            refine E.GL.st rfl rfl rfl (E.ST.appendRows kFH w.heap.size (w0 := w) (s := .tmp 73) (x := .tmp 75) rfl hu23 info49 rfl (by decide) (by decide) rfl rfl rG (Kd.R_reads' r75).2.2 madeF L L.size (by have := hs.f; simp only [List.length_singleton]; omega) fun u76 w76 R76 k76 g76 => ?_)
            replace b3 := blk_grown b3 g76 (Kd.R_ne rG b3 (by decide))
            replace b5 := blk_grown b5 g76 n5G
            replace b13 := blk_grown b13 g76 (Kd.R_ne rG b13 (by decide))
            replace hQ := hQ.over rG g76
            replace L := k76
            obtain ⟨A76, c76, hv76⟩ := Kd.R_slice R76
            rw [List.length_append, List.length_singleton, hgl, show V.fs.length + 1 = (V.fs ++ [(⟨mp, ml⟩ : S49)]).length by simp] at hv76
            subst hv76
            refine E.GL.run rfl rfl rfl (E.Runs.fieldAddr rfl rfl hu26 rfl (by assumption) rfl) ?_
            refine E.GL.sn rfl rfl (E.ST.storeSl (cs := [.int .i64 V.d, .slice m2.A V.rs.length m2.a, .int .i64 V.h, .slice m2.B V.fs.length m2.b, .slice m2.C V.ds.length m2.c]) rfl z23 o23 rfl rfl b13 rfl rfl fun wS c13 lS => ?_)
            replace b3 := blk_grown b3 lS (E.nes (by first | assumption | exact Ne.symm (by assumption)))
            replace b5 := blk_grown b5 lS (E.nes (by first | assumption | exact Ne.symm (by assumption)))
            replace hQ := hQ.grown lS ⟨_, _, b13, by decide, by decide⟩
            replace R76 := Kd.R_grown1 R76 rfl lS (Kd.R_ne R76 b13 (by decide))
            replace L := E.below_own L h13_L lS
            replace b13 := c13
            refine E.GL.done ?_
            refine E.QG.code ?_
            refine E.CG.seq ?_
            refine E.CG.seq ?_
            have hY := wm_more (f := ⟨mp, ml⟩) hQ R76 rfl rfl hmc (Kd.C_below hml L)
            have ly := below_of2 hY
            refine E.CG.list ?_
            refine E.GL.run rfl rfl rfl (E.Runs.fieldAddr rfl rfl hu49 rfl (by assumption) rfl) ?_
            refine E.GL.run rfl rfl rfl (E.Runs.load1 rfl rfl hu22 rfl (by first | assumption | exact E.blkc (by assumption) rfl | exact pw_cell_below L (by assumption) | exact pw_cell_below ly (by assumption))) ?_
            refine E.GL.run rfl rfl rfl (E.Runs.len rfl rfl hu22) ?_
            refine E.GL.cmp rfl rfl rfl (fun _ h => (E.Runs.gtr rfl rfl rfl h)) (fun h81 => ?_) (fun h81 => ?_)
            · refine E.GL.run rfl rfl rfl (E.Runs.move rfl rfl) ?_
              refine E.GL.skip rfl rfl rfl ?_
              refine E.GL.skip rfl rfl rfl ?_
              refine E.GL.skip rfl rfl rfl ?_
              refine E.GL.run rfl rfl rfl (E.Runs.pick_t rfl rfl rfl) ?_
              refine E.GL.done ?_
              refine E.QG.code ?_
              refine E.CG.cond_t rfl ?_
              refine E.CG.seq ?_
              refine E.CG.list ?_
              refine E.GL.st rfl rfl rfl (E.ST.call rfl ent13 E.evn ((works_calls _).mono ?_))
              rintro e w87 ⟨rfl, l87⟩
              refine ⟨_, rfl, ?_⟩
              replace b3 := blk_below b3 l87
              replace b5 := blk_below b5 l87
              replace b13 := blk_below b13 l87
              replace hQ := hQ.below l87
              replace L := below_step L l87
              replace ly := below_step ly l87
              refine E.GL.run rfl rfl rfl (E.Runs.assign rfl rfl) ?_
              refine E.GL.done ?_
              refine E.QG.code ?_
              refine E.CG.ret ?_
              refine E.QG.pass_ret ?_
              exact E.QG.result rfl rfl ⟨rfl, L⟩
            · refine E.GL.run rfl rfl rfl (E.Runs.move rfl rfl) ?_
              refine E.GL.run rfl rfl rfl (E.Runs.loads (cs := [.int .i64 V.d, .slice m2.A V.rs.length m2.a, .int .i64 V.h, .slice A76 (V.fs ++ [(⟨mp, ml⟩ : S49)]).length c76, .slice m2.C V.ds.length m2.c]) rfl rfl hu26 rfl info26s (blk_cells b13)) ?_
              by_cases h84 : Rdy (moW V ⟨mp, ml⟩)
              · refine E.GL.st rfl rfl rfl (E.ST.call rfl ent22 (E.evc rfl E.evn) ((ready_calls (moW V ⟨mp, ml⟩) ⟨m2.A, m2.a, A76, c76, m2.C, m2.c⟩ _ (hY.below ly) true (iff_of_true rfl h84)).mono ?_))
                rintro e w84 ⟨rfl, l84⟩
                refine ⟨_, rfl, ?_⟩
                replace b3 := blk_below b3 l84
                replace b5 := blk_below b5 l84
                replace b13 := blk_below b13 l84
                replace hQ := hQ.below l84
                replace L := below_step L l84
                replace ly := below_step ly l84
                refine E.GL.run rfl rfl rfl (E.Runs.not rfl rfl) ?_
                refine E.GL.run rfl rfl rfl (E.Runs.pick_f rfl rfl rfl) ?_
                refine E.GL.done ?_
                refine E.QG.code ?_
                refine E.CG.cond_f rfl ?_
                refine E.CG.skip ?_
                refine E.QG.code ?_
                refine E.CG.seq ?_
                refine E.CG.list ?_
                refine E.GL.run rfl rfl rfl (E.Runs.loads (cs := [.int .i64 V.d, .slice m2.A V.rs.length m2.a, .int .i64 V.h, .slice A76 (V.fs ++ [(⟨mp, ml⟩ : S49)]).length c76, .slice m2.C V.ds.length m2.c]) rfl rfl hu26 rfl info26s (blk_cells b13)) ?_
                refine E.GL.st rfl rfl rfl (E.ST.call rfl ent15 (E.evc rfl E.evn) ((most_calls (moW V ⟨mp, ml⟩) ⟨m2.A, m2.a, A76, c76, m2.C, m2.c⟩ _ (hY.below ly) (hg_no h84.1)).mono ?_))
                rintro e w90 ⟨n90, e90, rfl, hm90, l90⟩
                refine ⟨_, rfl, ?_⟩
                replace b3 := blk_below b3 l90
                replace b5 := blk_below b5 l90
                replace b13 := blk_below b13 l90
                replace hQ := hQ.below l90
                replace L := below_step L l90
                replace ly := below_step ly l90
                obtain ⟨r90, hr90, rfl, rfl⟩ := mostOk_r h84.2.2 hm90
                refine E.GL.run rfl rfl rfl (E.Runs.move rfl rfl) ?_
                refine E.GL.run rfl rfl rfl (E.Runs.extract rfl rfl rfl) ?_
                refine E.GL.run rfl rfl rfl (E.Runs.extract rfl rfl rfl) ?_
                refine E.GL.run rfl rfl rfl (E.Runs.assign rfl rfl) ?_
                refine E.GL.run rfl rfl rfl (E.Runs.assign rfl rfl) ?_
                refine E.GL.done ?_
                refine E.QG.code ?_
                refine E.CG.seq ?_
                refine E.CG.list ?_
                rcases r with _ | n
                · refine E.GL.run rfl rfl rfl (E.Runs.move rfl rfl) ?_
                  refine E.GL.run rfl rfl rfl (E.Runs.neq rfl rfl rfl (E.ne_t (show (3 : Int) ≠ 0 by decide))) ?_
                  refine E.GL.run rfl rfl rfl (E.Runs.move rfl rfl) ?_
                  refine E.GL.skip rfl rfl rfl ?_
                  refine E.GL.skip rfl rfl rfl ?_
                  refine E.GL.skip rfl rfl rfl ?_
                  refine E.GL.skip rfl rfl rfl ?_
                  refine E.GL.skip rfl rfl rfl ?_
                  refine E.GL.skip rfl rfl rfl ?_
                  refine E.GL.skip rfl rfl rfl ?_
                  refine E.GL.run rfl rfl rfl (E.Runs.pick_t rfl rfl rfl) ?_
                  refine E.GL.run rfl rfl rfl (E.Runs.move rfl rfl) ?_
                  refine E.GL.st rfl rfl rfl (E.ST.call rfl ent13 E.evn ((works_calls _).mono ?_))
                  rintro e w105 ⟨rfl, l105⟩
                  refine ⟨_, rfl, ?_⟩
                  replace b3 := blk_below b3 l105
                  replace b5 := blk_below b5 l105
                  replace b13 := blk_below b13 l105
                  replace hQ := hQ.below l105
                  replace L := below_step L l105
                  replace ly := below_step ly l105
                  refine E.GL.run rfl rfl rfl (E.Runs.pick_t rfl rfl rfl) ?_
                  refine E.GL.run rfl rfl rfl (E.Runs.assign rfl rfl) ?_
                  refine E.GL.done ?_
                  refine E.QG.code ?_
                  refine E.CG.ret ?_
                  exact E.QG.result rfl rfl ⟨rfl, L⟩
                · obtain ⟨k, rfl, hle⟩ := mo_more hr hr90
                  refine E.GL.run rfl rfl rfl (E.Runs.move rfl rfl) ?_
                  refine E.GL.run rfl rfl rfl (E.Runs.neq rfl rfl rfl (E.ne_f rfl)) ?_
                  refine E.GL.run rfl rfl rfl (E.Runs.move rfl rfl) ?_
                  refine E.GL.run rfl rfl rfl (E.Runs.move rfl rfl) ?_
                  refine E.GL.run rfl rfl rfl (E.Runs.eql rfl rfl rfl (decide_eq_true rfl)) ?_
                  refine E.GL.run rfl rfl rfl (E.Runs.move rfl rfl) ?_
                  refine E.GL.run rfl rfl rfl (E.Runs.move rfl rfl) ?_
                  refine E.GL.run rfl rfl rfl (E.Runs.move rfl rfl) ?_
                  refine E.GL.run rfl rfl rfl (E.Runs.geq rfl rfl rfl (decide_eq_true (show k ≥ n by omega))) ?_
                  refine E.GL.run rfl rfl rfl (E.Runs.pick_t rfl rfl rfl) ?_
                  refine E.GL.run rfl rfl rfl (E.Runs.pick_f rfl rfl rfl) ?_
                  refine E.GL.run rfl rfl rfl (E.Runs.move rfl rfl) ?_
                  refine E.GL.st rfl rfl rfl (E.ST.call rfl ent13 E.evn ((works_calls _).mono ?_))
                  rintro e w105 ⟨rfl, l105⟩
                  refine ⟨_, rfl, ?_⟩
                  replace b3 := blk_below b3 l105
                  replace b5 := blk_below b5 l105
                  replace b13 := blk_below b13 l105
                  replace hQ := hQ.below l105
                  replace L := below_step L l105
                  replace ly := below_step ly l105
                  refine E.GL.run rfl rfl rfl (E.Runs.pick_t rfl rfl rfl) ?_
                  refine E.GL.run rfl rfl rfl (E.Runs.assign rfl rfl) ?_
                  refine E.GL.done ?_
                  refine E.QG.code ?_
                  refine E.CG.ret ?_
                  exact E.QG.result rfl rfl ⟨rfl, L⟩
              · refine E.GL.st rfl rfl rfl (E.ST.call rfl ent22 (E.evc rfl E.evn) ((ready_calls (moW V ⟨mp, ml⟩) ⟨m2.A, m2.a, A76, c76, m2.C, m2.c⟩ _ (hY.below ly) false (iff_of_false Bool.false_ne_true h84)).mono ?_))
                rintro e w84 ⟨rfl, l84⟩
                refine ⟨_, rfl, ?_⟩
                replace b3 := blk_below b3 l84
                replace b5 := blk_below b5 l84
                replace b13 := blk_below b13 l84
                replace hQ := hQ.below l84
                replace L := below_step L l84
                replace ly := below_step ly l84
                refine E.GL.run rfl rfl rfl (E.Runs.not rfl rfl) ?_
                refine E.GL.run rfl rfl rfl (E.Runs.pick_f rfl rfl rfl) ?_
                refine E.GL.done ?_
                refine E.QG.code ?_
                refine E.CG.cond_t rfl ?_
                refine E.CG.seq ?_
                refine E.CG.list ?_
                refine E.GL.st rfl rfl rfl (E.ST.call rfl ent13 E.evn ((works_calls _).mono ?_))
                rintro e w87 ⟨rfl, l87⟩
                refine ⟨_, rfl, ?_⟩
                replace b3 := blk_below b3 l87
                replace b5 := blk_below b5 l87
                replace b13 := blk_below b13 l87
                replace hQ := hQ.below l87
                replace L := below_step L l87
                replace ly := below_step ly l87
                refine E.GL.run rfl rfl rfl (E.Runs.assign rfl rfl) ?_
                refine E.GL.done ?_
                refine E.QG.code ?_
                refine E.CG.ret ?_
                refine E.QG.pass_ret ?_
                exact E.QG.result rfl rfl ⟨rfl, L⟩
  · refine E.GL.st rfl rfl rfl (E.ST.call rfl ent22 (E.evc rfl E.evn) ((ready_calls V m _ (hV.below L) false (iff_of_false Bool.false_ne_true h17)).mono ?_))
    rintro e w17 ⟨rfl, l17⟩
    refine ⟨_, rfl, ?_⟩
    replace b3 := blk_below b3 l17
    replace b5 := blk_below b5 l17
    replace L := below_step L l17
    refine E.GL.run rfl rfl rfl (E.Runs.not rfl rfl) ?_
    refine E.GL.run rfl rfl rfl (E.Runs.move rfl rfl) ?_
    refine E.GL.skip rfl rfl rfl ?_
    refine E.GL.skip rfl rfl rfl ?_
    refine E.GL.run rfl rfl rfl (E.Runs.pick_t rfl rfl rfl) ?_
    refine E.GL.run rfl rfl rfl (E.Runs.move rfl rfl) ?_
    refine E.GL.skip rfl rfl rfl ?_
    refine E.GL.skip rfl rfl rfl ?_
    refine E.GL.run rfl rfl rfl (E.Runs.pick_t rfl rfl rfl) ?_
    refine E.GL.done ?_
    refine E.QG.code ?_
    refine E.CG.cond_t rfl ?_
    refine E.CG.seq ?_
    refine E.CG.list ?_
    refine E.GL.st rfl rfl rfl (E.ST.call rfl ent13 E.evn ((works_calls _).mono ?_))
    rintro e w27 ⟨rfl, l27⟩
    refine ⟨_, rfl, ?_⟩
    replace b3 := blk_below b3 l27
    replace b5 := blk_below b5 l27
    replace L := below_step L l27
    refine E.GL.run rfl rfl rfl (E.Runs.assign rfl rfl) ?_
    refine E.GL.done ?_
    refine E.QG.code ?_
    refine E.CG.ret ?_
    refine E.QG.pass_ret ?_
    exact E.QG.result rfl rfl ⟨rfl, L⟩

end Go.Proofs.Ytdiambcjghlffaa.T
