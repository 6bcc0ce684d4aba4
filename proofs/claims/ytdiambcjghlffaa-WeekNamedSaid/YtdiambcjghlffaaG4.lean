/- Texts of this claim, put together: A24, N10, A25, O1, B2, B3, N11, A26, A27, N12, B4, B5. -/
import Derived.Test.YtdiambcjghlffaaG3
import Derived.Test.YtdiambcjghlffaaRows
import Derived.ProofKit
import Derived.OpenShut
import Derived.ChangeOld
import Derived.SizedLaws
import Derived.Deep.Slices
namespace Go.Proofs.Ytdiambcjghlffaa.T
open Go.RowKit Go.Proofs.YtdiambcjghlffaaW.PrintWords Go.Proofs.YtdiambcjghlffaaW.PrintMore
open Go.Proofs.Ytdiambcjghlffaa.P
set_option linter.unusedVariables false
set_option linter.unusedSimpArgs false

/-- A film by its price and the header of its crowd. -/
structure Fh where
  p : Int
  h : Hd
def kFH : Kd Fh := Kd.iso (Kd.pair (Kd.int .i64) kH) (fun x : Fh => (x.p, x.h))
theorem kFH_open {w : World} {x : Fh} {cs : List Value} (h : kFH.K w x cs) : cs = [.int .i64 x.p, x.h.v] := by
  obtain ⟨_, _, rfl, rfl, rfl⟩ := h
  rfl
theorem kFH_mk (w : World) (x : Fh) : kFH.K w x [.int .i64 x.p, x.h.v] := ⟨[.int .i64 x.p], [x.h.v], rfl, rfl, rfl⟩
theorem kFH_openM {w : World} {base : Nat} {ok : Nat → Prop} {x : Fh} {cs : List Value} (h : kFH.M w base ok x cs) : cs = [.int .i64 x.p, x.h.v] := by
  obtain ⟨_, _, rfl, rfl, rfl⟩ := h
  rfl
theorem kFH_mkM (w : World) (base : Nat) (ok : Nat → Prop) (x : Fh) : kFH.M w base ok x [.int .i64 x.p, x.h.v] := ⟨[.int .i64 x.p], [x.h.v], rfl, rfl, rfl⟩
theorem madeF {W : World} {base : Nat} : ∀ (x : Fh) cs, kFH.K W x cs → kFH.M W base (fun _ => False) x cs := fun x cs h => by rw [kFH_open h]; exact kFH_mkM _ _ _ _
theorem made45 {W : World} {base : Nat} : ∀ (x : S45) cs, k45.K W x cs → k45.M W base (fun _ => False) x cs := fun x cs h => by rw [k45_open h]; exact k45_mkM _ _ _ _
/-- The films' headers, and what they say. -/
structure FhOk (w : World) (xs : List Fh) (fs : List S49) : Prop where
  len : xs.length = fs.length
  row : ∀ (i : Nat) (x : Fh) (f : S49), xs[i]? = some x → fs[i]? = some f → x.p = f.f0 ∧ x.h.n = f.f1.length ∧ f.f1.length ≤ x.h.c ∧ Kd.C kI w x.h.A f.f1.length f.f1
theorem FhOk.below {w w' : World} {xs : List Fh} {fs : List S49} (h : FhOk w xs fs) (l : Below w.heap.size w w') : FhOk w' xs fs := ⟨h.len, fun i x f hx hf => by obtain ⟨a, b, c, d⟩ := h.row i x f hx hf; exact ⟨a, b, c, Kd.C_below d l⟩⟩
theorem list_of {α : Type} {R : Nat → α → Prop} : ∀ n, (∀ j, j < n → ∃ y, R j y) → ∃ l : List α, l.length = n ∧ ∀ (j : Nat) (y : α), l[j]? = some y → R j y
  | 0, _ => ⟨[], rfl, fun j y h => by simp at h⟩
  | n + 1, h => by
    obtain ⟨l, h1, h2⟩ := list_of n fun j hj => h j (by omega)
    obtain ⟨y, hy⟩ := h n (by omega)
    refine ⟨l ++ [y], by simp [h1], fun j z hz => ?_⟩
    by_cases hj : j < l.length
    · rw [List.getElem?_append_left hj] at hz
      exact h2 j z hz
    · have hl := (List.getElem?_eq_some_iff.1 hz).1
      rw [List.length_append, List.length_singleton] at hl
      obtain rfl : j = l.length := by omega
      rw [List.getElem?_append_right (Nat.le_refl _)] at hz
      simp at hz
      rw [← hz, h1]
      exact hy
theorem fh_of {w : World} {A : Option Addr} {n : Nat} {fs : List S49} (h : Kd.C k49 w A n fs) : ∃ xs, Kd.C kFH w A n xs ∧ FhOk w xs fs := by
  obtain ⟨h1, h2, h3⟩ := h
  have key : ∀ j, j < fs.length → ∃ y : Fh, ∀ f, fs[j]? = some f → (y.p = f.f0 ∧ y.h.n = f.f1.length ∧ f.f1.length ≤ y.h.c ∧ Kd.C kI w y.h.A f.f1.length f.f1) ∧ ∀ ad, A = some ad → ∀ i u, ([.int .i64 y.p, y.h.v] : List Value)[i]? = some u → w.cell? (ad.add (j * 2 + i)) = some u := fun j hj => by
    obtain ⟨f, hf⟩ := get_ex hj
    obtain ⟨ad, e, hc⟩ := h3 (by omega)
    obtain ⟨c, q1, q2, q3⟩ := hc j f hf
    obtain ⟨a0, k0, rfl, r1, r2⟩ := k49_open q2
    refine ⟨⟨f.f0, ⟨a0, f.f1.length, k0⟩⟩, fun f' hf' => ?_⟩
    rw [hf] at hf'
    injection hf' with hf'
    subst hf'
    refine ⟨⟨rfl, rfl, r1, r2⟩, fun ad' he => ?_⟩
    rw [e] at he
    injection he with he
    subst he
    exact q3
  obtain ⟨xs, g1, g2⟩ := list_of fs.length key
  refine ⟨xs, ⟨by omega, h2, fun hn => ?_⟩, g1, fun i x f hx hf => (g2 i x hx f hf).1⟩
  obtain ⟨ad, e, _⟩ := h3 hn
  refine ⟨ad, e, fun j x hx => ⟨_, rfl, kFH_mk w x, fun i u hu => ?_⟩⟩
  have hj := (List.getElem?_eq_some_iff.1 hx).1
  obtain ⟨f, hf⟩ := get_ex (show j < fs.length by omega)
  exact (g2 j x hx f hf).2 ad e i u hu
theorem of_fh {w : World} {A : Option Addr} {n : Nat} {xs : List Fh} {fs : List S49} (h : Kd.C kFH w A n xs) (k : FhOk w xs fs) : Kd.C k49 w A n fs := by
  obtain ⟨h1, h2, h3⟩ := h
  have hl := k.len
  refine ⟨by omega, h2, fun hn => ?_⟩
  obtain ⟨ad, e, hc⟩ := h3 hn
  refine ⟨ad, e, fun j f hf => ?_⟩
  have hj := (List.getElem?_eq_some_iff.1 hf).1
  obtain ⟨x, hx⟩ := get_ex (show j < xs.length by omega)
  obtain ⟨c, q1, q2, q3⟩ := hc j x hx
  have := kFH_open q2
  subst this
  obtain ⟨r1, r2, r3, r4⟩ := k.row j x f hx hf
  refine ⟨_, rfl, k49_mk w f r3 r4, fun i u hu => q3 i u ?_⟩
  rw [r1, Hd.v, r2]
  exact hu
/-- The cells of a film in a row of our own, and what a write makes of it. -/
theorem fh_at {W : World} {base g n c : Nat} {xs : List Fh} {i : Nat} {x : Fh} (R : Kd.R kFH 49 W base (fun _ => True) (.slice (some ⟨g, 0, none⟩) n c) xs) (hi : xs[i]? = some x) :
    W.cell? ⟨g, i * 2, none⟩ = some (.int .i64 x.p) ∧ W.cell? ⟨g, i * 2 + 1, none⟩ = some x.h.v ∧ (∀ j, W.frozen? ⟨g, i * 2 + j, none⟩ = false) ∧
      (∀ y : Hd, Kd.R kFH 49 (W.setCell ⟨g, i * 2 + 1, none⟩ y.v) base (fun _ => True) (.slice (some ⟨g, 0, none⟩) n c) (xs.set i ⟨x.p, y⟩) ∧ W.grownBy (W.setCell ⟨g, i * 2 + 1, none⟩ y.v) (some g)) ∧
      (∀ y : Int, Kd.R kFH 49 (W.setCell ⟨g, i * 2, none⟩ (.int .i64 y)) base (fun _ => True) (.slice (some ⟨g, 0, none⟩) n c) (xs.set i ⟨y, x.h⟩) ∧ W.grownBy (W.setCell ⟨g, i * 2, none⟩ (.int .i64 y)) (some g)) := by
  have hil := (List.getElem?_eq_some_iff.1 hi).1
  have hn := (Kd.R_reads' R).1
  obtain ⟨cs, h1, h2, h3, h4⟩ := Kd.R_elem R x (i : Int) (by omega) (by omega)
  have hx : xs.getD i x = x := by simp [List.getD_eq_getElem?_getD, hi]
  rw [Int.toNat_natCast, hx] at h2
  have hcs := kFH_openM h2
  subst hcs
  rw [Int.toNat_natCast] at h3 h4
  refine ⟨h3 0 _ rfl, h3 1 _ rfl, h4, fun y => ?_, fun y => ?_⟩
  · have := Kd.R_seg R (i : Int) (by omega) (by omega) (seg := [y.v]) (j := 1) h1 (by rw [Int.toNat_natCast]; exact h3) (by show 1 + 1 ≤ 2; decide) (x' := ⟨x.p, y⟩) (okp := fun _ => False) (kFH_mkM _ _ _ ⟨x.p, y⟩) (fun _ hk => hk.elim)
    rw [Int.toNat_natCast] at this
    exact this
  · have := Kd.R_seg R (i : Int) (by omega) (by omega) (seg := [.int .i64 y]) (j := 0) h1 (by rw [Int.toNat_natCast]; exact h3) (by show 0 + 1 ≤ 2; decide) (x' := ⟨y, x.h⟩) (okp := fun _ => False) (kFH_mkM _ _ _ ⟨y, x.h⟩) (fun _ hk => hk.elim)
    rw [Int.toNat_natCast] at this
    exact this
/-- Films whose first crowds are rows of our own. -/
structure Mid (w : World) (base i : Nat) (xs : List Fh) (fs : List S49) : Prop where
  len : xs.length = fs.length
  row : ∀ (j : Nat) (x : Fh) (f : S49), xs[j]? = some x → fs[j]? = some f → x.p = f.f0 ∧ (j < i → Kd.R kI 3 w base (fun _ => True) x.h.v f.f1)
theorem Mid.start {w w' : World} {base : Nat} {xs : List Fh} {fs : List S49} (h : FhOk w xs fs) : Mid w' base 0 xs fs := ⟨h.len, fun j x f hx hf => ⟨(h.row j x f hx hf).1, fun hj => by omega⟩⟩
theorem Mid.below {w w' : World} {base i : Nat} {xs : List Fh} {fs : List S49} (h : Mid w base i xs fs) (l : Below w.heap.size w w') : Mid w' base i xs fs := ⟨h.len, fun j x f hx hf => ⟨(h.row j x f hx hf).1, fun hj => Kd.R_below ((h.row j x f hx hf).2 hj) l⟩⟩
theorem Mid.over {w w' : World} {base i g t : Nat} {cs : Array Value} {xs : List Fh} {fs : List S49} (h : Mid w base i xs fs) (hb : w.heap[g]? = some (.cells cs t (0, 0))) (ht : 3 ≠ t) (hg : w.grownBy w' (some g)) : Mid w' base i xs fs := ⟨h.len, fun j x f hx hf => ⟨(h.row j x f hx hf).1, fun hj => Kd.R_grown1 ((h.row j x f hx hf).2 hj) rfl hg (Kd.R_ne ((h.row j x f hx hf).2 hj) hb ht)⟩⟩
theorem Mid.grown {w w' : World} {base i g : Nat} {xs : List Fh} {fs : List S49} (h : Mid w base i xs fs) (hg : w.grownBy w' (some g)) (hb : ∃ cs t, w.heap[g]? = some (.cells cs t (0, 0)) ∧ 3 ≠ t) : Mid w' base i xs fs := by
  obtain ⟨cs, t, hb, ht⟩ := hb
  exact h.over hb ht hg
theorem Mid.put {w : World} {base i : Nat} {xs : List Fh} {fs : List S49} {x : Fh} {f : S49} {y : Hd} (h : Mid w base i xs fs) (hx : xs[i]? = some x) (hf : fs[i]? = some f) (hy : Kd.R kI 3 w base (fun _ => True) y.v f.f1) : Mid w base (i + 1) (xs.set i ⟨x.p, y⟩) fs := by
  refine ⟨by rw [List.length_set]; exact h.len, fun j z k hz hk => ?_⟩
  by_cases e : i = j
  · subst e
    rw [List.getElem?_set_self (List.getElem?_eq_some_iff.1 hx).1] at hz
    injection hz with hz
    subst hz
    rw [hf] at hk
    injection hk with hk
    subst hk
    exact ⟨(h.row i x f hx hf).1, fun _ => hy⟩
  · rw [List.getElem?_set_ne e] at hz
    exact ⟨(h.row j z k hz hk).1, fun hj => (h.row j z k hz hk).2 (by omega)⟩
theorem Mid.ok {w : World} {base : Nat} {xs : List Fh} {fs : List S49} (h : Mid w base fs.length xs fs) : FhOk w xs fs := ⟨h.len, fun i x f hx hf => by
  obtain ⟨h1, h2⟩ := h.row i x f hx hf
  have := h2 (List.getElem?_eq_some_iff.1 hf).1
  obtain ⟨q1, q2, q3⟩ := Kd.R_reads' (show Kd.R kI 3 w base _ (.slice x.h.A x.h.n x.h.c) f.f1 from this)
  exact ⟨h1, q1, by omega, q3⟩⟩
/-- A week in rows of our own. -/
structure WR (bs : Nat) (w : World) (V : Wk) (m : Wa) : Prop where
  rs : Kd.R kI 3 w bs (fun _ => True) (.slice m.A V.rs.length m.a) V.rs
  fs : ∃ xs, Kd.R kFH 49 w bs (fun _ => True) (.slice m.B V.fs.length m.b) xs ∧ Mid w bs V.fs.length xs V.fs
  ds : Kd.R k45 45 w bs (fun _ => True) (.slice m.C V.ds.length m.c) V.ds
theorem WR.wm {bs : Nat} {w : World} {V : Wk} {m : Wa} (h : WR bs w V m) : WM w V m := by
  obtain ⟨xs, h1, h2⟩ := h.fs
  obtain ⟨q1, q2, q3⟩ := Kd.R_reads' h1
  refine ⟨(Kd.R_reads' h.rs).2.2, ?_, (Kd.R_reads' h.ds).2.2⟩
  rw [← q1] at q3
  exact of_fh q3 h2.ok
theorem WR.below {bs : Nat} {w w' : World} {V : Wk} {m : Wa} (h : WR bs w V m) (l : Below w.heap.size w w') : WR bs w' V m := by
  obtain ⟨xs, h1, h2⟩ := h.fs
  exact ⟨Kd.R_below h.rs l, ⟨xs, Kd.R_below h1 l, h2.below l⟩, Kd.R_below h.ds l⟩
set_option maxRecDepth 100000 in
theorem lit23n (W : World) : (Instr.buildSlice 23 0 #[]).run Try.prog W = .ok (.slice (some ⟨W.heap.size, 0, none⟩) 0 0) (W.alloc (.cells #[] 49)) := by
  have hu23 := Try.underlying23
  go_simp
set_option maxRecDepth 100000 in
theorem lit24n (W : World) : (Instr.buildSlice 24 0 #[]).run Try.prog W = .ok (.slice (some ⟨W.heap.size, 0, none⟩) 0 0) (W.alloc (.cells #[] 45)) := by
  have hu24 := Try.underlying24
  go_simp
set_option maxRecDepth 100000 in
set_option maxHeartbeats 8000000 in

theorem copy_calls (V : Wk) (m : Wa) (w : World) (hV : WM w V m) (hs : Sz V) :
    Calls Try.prog 14 #[wv V m] w fun e w' => ∃ m', e = .returned (wv V m') ∧ WR w.heap.size w' V m' ∧ Below w.heap.size w w' := by
  have hsr := hs.r
  have hsf := hs.f
  have hsd := hs.d
  obtain ⟨xs0, hX0, hFh0⟩ := fh_of hV.fs
  have hu3 := Try.underlying3
  have hu22 := Try.underlying22
  have hu23 := Try.underlying23
  have hu24 := Try.underlying24
  have hu26 := Try.underlying26
  have hu49 := Try.underlying49
  obtain ⟨z3, o3⟩ := info_some info3s (by decide)
  obtain ⟨z22, o22⟩ := info_some info22s (by decide)
  obtain ⟨z23, o23⟩ := info_some info23s (by decide)
  obtain ⟨z24, o24⟩ := info_some info24s (by decide)
  obtain ⟨z26, o26⟩ := info_some info26s (by decide)
  obtain ⟨z49, o49⟩ := info_some info49s (by decide)
  refine E.enter (N := 42) Try.func14 rfl Try.ntmps14 (args := [wv V m]) (by simp) ?_
  have L := Below.refl w.heap.size w
  refine E.CG.seq ?_
  refine E.CG.list ?_
  refine E.GL.st rfl rfl rfl (E.ST.box rfl rfl fun g1 w1 e1 b1 l1 => ?_)
  have h1_L : w.heap.size ≤ g1 := by rw [e1]; exact L.size
  replace L := below_step L l1
  refine E.GL.st rfl rfl rfl (E.ST.alloc rfl info26z fun g2 w2 e2 b2 l2 => ?_)
  have h2_L : w.heap.size ≤ g2 := by rw [e2]; exact L.size
  have n2_b1 : g1 ≠ g2 := by have := blk_lt b1; omega
  replace b1 := blk_below b1 l2
  replace L := below_step L l2
  refine E.GL.done ?_
  refine E.QG.code ?_
  refine E.CG.seq ?_
  refine E.CG.list ?_
  refine E.GL.run rfl rfl rfl (E.Runs.loads (cs := [.int .i64 V.d, .slice m.A V.rs.length m.a, .int .i64 V.h, .slice m.B V.fs.length m.b, .slice m.C V.ds.length m.c]) rfl rfl hu26 rfl info26s (blk_cells b1)) ?_
  refine E.GL.st rfl rfl rfl (E.ST.alloc rfl info26z fun g3 w3 e3 b3 l3 => ?_)
  have h3_L : w.heap.size ≤ g3 := by rw [e3]; exact L.size
  have n3_b1 : g1 ≠ g3 := by have := blk_lt b1; omega
  have n3_b2 : g2 ≠ g3 := by have := blk_lt b2; omega
  replace b1 := blk_below b1 l3
  replace b2 := blk_below b2 l3
  replace L := below_step L l3
  refine E.GL.store_whole rfl rfl rfl rfl rfl b3 rfl info26s (week_one _ _ _ _ _ _ _ _ _ _ _) fun wS1_2 c3 lS1_2 => ?_
  replace b1 := blk_grown b1 lS1_2 (E.nes (by first | assumption | exact Ne.symm (by assumption)))
  replace b2 := blk_grown b2 lS1_2 (E.nes (by first | assumption | exact Ne.symm (by assumption)))
  replace L := E.below_own L h3_L lS1_2
  replace b3 := c3
  clear c3
  refine E.GL.done ?_
  refine E.QG.code ?_
  refine E.CG.seq ?_
  refine E.CG.list ?_
  refine E.GL.st rfl rfl rfl (E.ST.litAt kI w.heap.size (w0 := w) (ys := []) (inner := []) rfl rfl E.epn lit22n (Reps.none _ _) L L.size (by simp) fun u6 w6 r6 k6 l6 n6 => ?_)
  replace b1 := blk_below b1 l6
  replace b2 := blk_below b2 l6
  replace b3 := blk_below b3 l6
  replace L := k6
  refine E.GL.run rfl rfl rfl (E.Runs.fieldAddr rfl rfl hu26 rfl (by assumption) rfl) ?_
  refine E.GL.run rfl rfl rfl (E.Runs.load1 rfl rfl hu22 rfl (by first | assumption | exact E.blkc (by assumption) rfl | exact pw_cell_below L (by assumption))) ?_
  refine E.GL.st rfl rfl rfl (E.ST.appendRows kI w.heap.size (w0 := w) (s := .tmp 6) (x := .tmp 8) rfl hu22 info3 rfl (by decide) (by decide) rfl rfl r6 (Kd.C_below hV.rs L) made22 L L.size (by simp only [List.length_nil]; omega) fun u9 w9 R9 k9 g9 => ?_)
  replace b1 := blk_grown b1 g9 (Kd.R_ne r6 b1 (by decide))
  replace b2 := blk_grown b2 g9 (Kd.R_ne r6 b2 (by decide))
  replace b3 := blk_grown b3 g9 (Kd.R_ne r6 b3 (by decide))
  replace L := k9
  rw [List.nil_append] at R9
  obtain ⟨A9, c9, hv9⟩ := Kd.R_slice R9
  subst hv9
  have rA := R9
  refine E.GL.run rfl rfl rfl (E.Runs.fieldAddr rfl rfl hu26 rfl (by assumption) rfl) ?_
  refine E.GL.sn rfl rfl (E.ST.storeSl (cs := [.int .i64 V.d, .slice m.A V.rs.length m.a, .int .i64 V.h, .slice m.B V.fs.length m.b, .slice m.C V.ds.length m.c]) rfl z22 o22 rfl rfl b3 rfl rfl fun wS25 c3 lS25 => ?_)
  replace b1 := blk_grown b1 lS25 (E.nes (by first | assumption | exact Ne.symm (by assumption)))
  replace b2 := blk_grown b2 lS25 (E.nes (by first | assumption | exact Ne.symm (by assumption)))
  replace rA := Kd.R_grown1 rA rfl lS25 (Kd.R_ne rA b3 (by decide))
  replace L := E.below_own L h3_L lS25
  replace b3 := c3
  refine E.GL.done ?_
  refine E.QG.code ?_
  refine E.CG.seq ?_
  refine E.CG.list ?_
  refine E.GL.st rfl rfl rfl (E.ST.litAt kFH w.heap.size (w0 := w) (ys := []) (inner := []) rfl rfl E.epn lit23n (Reps.none _ _) L L.size (by simp) fun u11 w11 r11 k11 l11 n11 => ?_)
  replace b1 := blk_below b1 l11
  replace b2 := blk_below b2 l11
  replace b3 := blk_below b3 l11
  replace rA := Kd.R_below rA l11
  replace L := k11
  refine E.GL.run rfl rfl rfl (E.Runs.fieldAddr rfl rfl hu26 rfl (by assumption) rfl) ?_
  refine E.GL.run rfl rfl rfl (E.Runs.load1 rfl rfl hu23 rfl (by first | assumption | exact E.blkc (by assumption) rfl | exact pw_cell_below L (by assumption))) ?_
  refine E.GL.st rfl rfl rfl (E.ST.appendRows kFH w.heap.size (w0 := w) (s := .tmp 11) (x := .tmp 13) rfl hu23 info49 rfl (by decide) (by decide) rfl rfl r11 (Kd.C_below hX0 L) madeF L L.size (by simp only [List.length_nil]; omega) fun u14 w14 R14 k14 g14 => ?_)
  replace b1 := blk_grown b1 g14 (Kd.R_ne r11 b1 (by decide))
  replace b2 := blk_grown b2 g14 (Kd.R_ne r11 b2 (by decide))
  replace b3 := blk_grown b3 g14 (Kd.R_ne r11 b3 (by decide))
  replace rA := E.R_over' rA r11 (by decide) g14
  replace L := k14
  rw [List.nil_append] at R14
  obtain ⟨A14, c14, hv14⟩ := Kd.R_slice R14
  rw [hFh0.len] at hv14
  subst hv14
  have rF := R14
  refine E.GL.run rfl rfl rfl (E.Runs.fieldAddr rfl rfl hu26 rfl (by assumption) rfl) ?_
  refine E.GL.sn rfl rfl (E.ST.storeSl (cs := [.int .i64 V.d, .slice A9 V.rs.length c9, .int .i64 V.h, .slice m.B V.fs.length m.b, .slice m.C V.ds.length m.c]) rfl z23 o23 rfl rfl b3 rfl rfl fun wS35 c3 lS35 => ?_)
  replace b1 := blk_grown b1 lS35 (E.nes (by first | assumption | exact Ne.symm (by assumption)))
  replace b2 := blk_grown b2 lS35 (E.nes (by first | assumption | exact Ne.symm (by assumption)))
  replace rA := Kd.R_grown1 rA rfl lS35 (Kd.R_ne rA b3 (by decide))
  replace rF := Kd.R_grown1 rF rfl lS35 (Kd.R_ne rF b3 (by decide))
  replace L := E.below_own L h3_L lS35
  replace b3 := c3
  refine E.GL.done ?_
  refine E.QG.code ?_
  refine E.CG.seq ?_
  refine E.CG.seq ?_
  refine E.CG.list ?_
  refine E.GL.run rfl rfl rfl (E.Runs.assign rfl rfl) ?_
  refine E.GL.done ?_
  refine E.QG.code ?_
  refine E.CG.block ?_
  have hM : Mid _ w.heap.size 0 xs0 V.fs := Mid.start (w' := wS35) hFh0
  have s5_b1 := b1
  have s5_b2 := b2
  have s5_b3 := b3
  have s5_L := L
  refine E.CG.loop2 (fun (i : Nat) (xs : List Fh) => [(1, .pointer (some ⟨g1, 0, none⟩)), (2, .pointer (some ⟨g2, 0, none⟩)), (3, .pointer (some ⟨g3, 0, none⟩)), (4, .int .i64 (i : Int))]) (fun i xs w' => i ≤ V.fs.length ∧ w'.heap[g1]? = some (.cells #[.int .i64 V.d, .slice m.A V.rs.length m.a, .int .i64 V.h, .slice m.B V.fs.length m.b, .slice m.C V.ds.length m.c] 26 (0, 0)) ∧ w'.heap[g2]? = some (.cells #[.int .i64 0, .slice none 0 0, .int .i64 0, .slice none 0 0, .slice none 0 0] 26 (0, 0)) ∧ w'.heap[g3]? = some (.cells #[.int .i64 V.d, .slice A9 V.rs.length c9, .int .i64 V.h, .slice A14 V.fs.length c14, .slice m.C V.ds.length m.c] 26 (0, 0)) ∧ Kd.R kI 3 w' w.heap.size (fun _ => True) (.slice A9 V.rs.length c9) V.rs ∧ Kd.R kFH 49 w' w.heap.size (fun _ => True) (.slice A14 V.fs.length c14) xs ∧ Mid w' w.heap.size i xs V.fs ∧ Below w.heap.size w w') (fun i xs => V.fs.length - i) 0 xs0 (E.subc rfl (E.subc rfl (E.subc rfl (E.subc rfl E.subn)))) ⟨Nat.zero_le _, b1, b2, b3, rA, rF, hM, L⟩ ?_
  rintro i xs w5 ⟨hi, b1, b2, b3, rA, rF, hM, L⟩
  refine E.CG.seq ?_
  refine E.CG.seq ?_
  refine E.CG.list ?_
  refine E.GL.run rfl rfl rfl (E.Runs.move rfl rfl) ?_
  refine E.GL.run rfl rfl rfl (E.Runs.fieldAddr rfl rfl hu26 rfl (by assumption) rfl) ?_
  refine E.GL.run rfl rfl rfl (E.Runs.load1 rfl rfl hu23 rfl (by first | assumption | exact E.blkc (by assumption) rfl | exact pw_cell_below L (by assumption))) ?_
  refine E.GL.run rfl rfl rfl (E.Runs.len rfl rfl hu23) ?_
  refine E.GL.cmp rfl rfl rfl (fun _ h => (E.Runs.lss rfl rfl rfl h)) (fun h20 => ?_) (fun h20 => ?_)
  · obtain ⟨f, hfi⟩ := get_ex (show i < V.fs.length by omega)
    obtain ⟨ad, a0, k0, eA, hk0, hx0, X⟩ := film_at hV.fs hfi
    have hcl := hs.c f (mem_of hfi)
    have hxl := hM.len
    obtain ⟨x2, hx2⟩ := get_ex (show i < xs.length by omega)
    obtain ⟨gF, cF0, hvF, hbF, hlF, cFs, bF0⟩ := Kd.R_form rF (by omega)
    obtain ⟨rfl, _, rfl⟩ : A14 = some ⟨gF, 0, none⟩ ∧ True ∧ c14 = cF0 := by injection hvF with q1 q2 q3; exact ⟨q1, trivial, q3⟩
    refine E.GL.done ?_
    refine E.QG.code ?_
    refine E.CG.cond_t rfl ?_
    refine E.CG.skip ?_
    refine E.QG.code ?_
    refine E.CG.seq ?_
    refine E.CG.block ?_
    refine E.CG.heldJ 13 (fun v W => v.grownBy W (none)) (fun _ _ => True) (by kernel_rfl) (by kernel_rfl) (fun v => World.grownBy.refl _ _) fun v7 lD => ?_
    replace b1 := blk_below b1 lD
    replace b2 := blk_below b2 lD
    replace b3 := blk_below b3 lD
    replace rA := Kd.R_below rA lD
    replace rF := Kd.R_below rF lD
    replace hM := hM.below lD
    replace L := below_step L lD
    have lD7 := lD
    clear lD
    have s_rA := rA
    have s_rF := rF
    have s_hM := hM
    have K := Below.refl v7.heap.size v7
    have hL7 := L.size
    have hx0v := Kd.C_below hx0 L
    have s_b1 := b1
    have s_b2 := b2
    have s_b3 := b3
    have s_L := L
    have s_hM := hM
    have hh : v7.grownBy v7 (none) := World.grownBy.refl _ _
    refine E.GJ.take1 (i := 0) rfl (by kernel_rfl) (by kernel_rfl) (by kernel_rfl) (by kernel_rfl) rfl (by kernel_rfl) (by kernel_rfl) (by intro c a d v w h; first | (cases d <;> exact h) | exact nomatch (show _ ∧ _ from h).1) rfl rfl rfl (fun w' hS => (E.Runs.fieldAddr rfl rfl hu26 rfl (by assumption) rfl)) ?_
    refine E.GJ.take1 (i := 1) rfl (by kernel_rfl) (by kernel_rfl) (by kernel_rfl) (by kernel_rfl) rfl (by kernel_rfl) (by kernel_rfl) (by intro c a d v w h; first | (cases d <;> exact h) | exact nomatch (show _ ∧ _ from h).1) rfl rfl rfl (fun w' hS => (E.Runs.load1 rfl rfl hu23 rfl (by first | exact E.keeps hS (E.blkc (by assumption) rfl) (by first | exact E.nen | exact E.nes (by assumption) | exact E.nes (Ne.symm (by assumption))) | exact pw_cell_below (below_step s_L (E.belowG hS)) (by assumption)))) ?_
    refine E.GJ.take1 (i := 2) rfl (by kernel_rfl) (by kernel_rfl) (by kernel_rfl) (by kernel_rfl) rfl (by kernel_rfl) (by kernel_rfl) (by intro c a d v w h; first | (cases d <;> exact h) | exact nomatch (show _ ∧ _ from h).1) rfl rfl rfl (fun w' hS => (E.Runs.move rfl rfl)) ?_
    refine E.GJ.take1 (i := 4) rfl (by kernel_rfl) (by kernel_rfl) (by kernel_rfl) (by kernel_rfl) rfl (by kernel_rfl) (by kernel_rfl) (by intro c a d v w h; first | (cases d <;> exact h) | exact nomatch (show _ ∧ _ from h).1) rfl rfl rfl (fun w' hS => (E.Runs.fieldAddr rfl rfl hu26 rfl (by assumption) rfl)) ?_
    refine E.GJ.take1 (i := 5) rfl (by kernel_rfl) (by kernel_rfl) (by kernel_rfl) (by kernel_rfl) rfl (by kernel_rfl) (by kernel_rfl) (by intro c a d v w h; first | (cases d <;> exact h) | exact nomatch (show _ ∧ _ from h).1) rfl rfl rfl (fun w' hS => (E.Runs.load1 rfl rfl hu23 rfl (by first | exact E.keeps hS (E.blkc (by assumption) rfl) (by first | exact E.nen | exact E.nes (by assumption) | exact E.nes (Ne.symm (by assumption))) | exact pw_cell_below (below_step s_L (E.belowG hS)) (by assumption)))) ?_
    refine E.GJ.take1 (i := 6) rfl (by kernel_rfl) (by kernel_rfl) (by kernel_rfl) (by kernel_rfl) rfl (by kernel_rfl) (by kernel_rfl) (by intro c a d v w h; first | (cases d <;> exact h) | exact nomatch (show _ ∧ _ from h).1) rfl rfl rfl (fun w' hS => (E.Runs.move rfl rfl)) ?_
    refine E.GJ.take1 (i := 7) rfl (by kernel_rfl) (by kernel_rfl) (by kernel_rfl) (by kernel_rfl) rfl (by kernel_rfl) (by kernel_rfl) (by intro c a d v w h; first | (cases d <;> exact h) | exact nomatch (show _ ∧ _ from h).1) rfl rfl rfl (fun w' hS => (E.Runs.indexAddrA (i := i) rfl rfl rfl hu23 z49 o49 (by omega) eA rfl)) ?_
    refine E.GJ.take1 (i := 8) rfl (by kernel_rfl) (by kernel_rfl) (by kernel_rfl) (by kernel_rfl) rfl (by kernel_rfl) (by kernel_rfl) (by intro c a d v w h; first | (cases d <;> exact h) | exact nomatch (show _ ∧ _ from h).1) rfl rfl rfl (fun w' hS => (E.Runs.fieldAddr rfl rfl hu49 rfl (by assumption) rfl)) ?_
    refine E.GJ.take1 (i := 9) rfl (by kernel_rfl) (by kernel_rfl) (by kernel_rfl) (by kernel_rfl) rfl (by kernel_rfl) (by kernel_rfl) (by intro c a d v w h; first | (cases d <;> exact h) | exact nomatch (show _ ∧ _ from h).1) rfl rfl rfl (fun w' hS => (E.Runs.load1 rfl rfl hu22 rfl (show _ = some (Value.slice a0 f.f1.length k0) from E.keeps hS (pw_cell_below s_L (X 1 _ rfl)) E.nen))) ?_
    refine E.GJ.one (i := 3) (by kernel_rfl) (E.OJ.st rfl rfl rfl rfl (E.ST.litAt kI v7.heap.size (w0 := v7) (ys := ([] : List Int)) (inner := []) rfl rfl E.epn lit22n (Reps.none _ _) K K.size (by simp) fun u26 w26 r26 k26 l26 n26 => ⟨(E.SJ.before (by kernel_rfl)).mpr (E.gbB k26), ?_⟩))
    replace K := k26
    refine E.GJ.one (i := 10) (by kernel_rfl) (E.OJ.st rfl rfl rfl rfl (E.ST.appendRows kI v7.heap.size (w0 := v7) (s := .tmp 26) (x := .tmp 32) rfl hu22 info3 rfl (by decide) (by decide) rfl rfl r26 (Kd.C_below hx0v K) made22 K K.size (by simp only [List.length_nil]; omega) fun u33 w33 R33 k33 g33 => ⟨(E.SJ.before (by kernel_rfl)).mpr (E.gbB k33), ?_⟩))
    replace K := k33
    rw [List.nil_append] at R33
    obtain ⟨A33, c33, hv33⟩ := Kd.R_slice R33
    subst hv33
    replace R33 := Kd.R_lower R33 hL7
    replace b1 := blk_below s_b1 K
    replace b2 := blk_below s_b2 K
    replace b3 := blk_below s_b3 K
    replace rA := Kd.R_below s_rA K
    replace rF := Kd.R_below s_rF K
    replace hM := s_hM.below K
    replace L := below_step s_L K
    obtain ⟨_, hc33, hf33, hset, _⟩ := fh_at rF hx2
    obtain ⟨rF2, gF2⟩ := hset ⟨A33, f.f1.length, c33⟩
    obtain ⟨cF, bF⟩ : ∃ cs, w33.heap[gF]? = some (.cells cs 49 (0, 0)) := by
      obtain ⟨_, hoF⟩ := Kd.R_own rF
      exact own_typed hoF gF rfl
    refine E.GJ.take1t (i := 11) 12 rfl (by kernel_rfl) (by kernel_rfl) (by kernel_rfl) (by kernel_rfl) rfl (by kernel_rfl) rfl (by kernel_rfl) (by kernel_rfl) (by kernel_rfl) (by kernel_rfl) (by kernel_rfl) (by intro c a d v w h; first | (cases d <;> exact h) | exact nomatch (show _ ∧ _ from h).1) rfl rfl rfl (fun w' hS => (E.Runs.indexAddrA (i := i) rfl rfl rfl hu23 z49 o49 (by omega) rfl (show _ = (⟨gF, i * 2, none⟩ : Addr) from by rw [Go.Addr.add_mid, Nat.zero_add]))) ?_
    refine E.GJ.take1 (i := 12) rfl (by kernel_rfl) (by kernel_rfl) (by kernel_rfl) (by kernel_rfl) rfl (by kernel_rfl) (by kernel_rfl) (by intro c a d v w h; first | (cases d <;> exact h) | exact nomatch (show _ ∧ _ from h).1) rfl rfl rfl (fun w' hS => (E.Runs.fieldAddr rfl rfl hu49 rfl (by assumption) rfl)) ?_
    refine E.GJ.one (i := 13) (by kernel_rfl) (E.OJ.sn rfl rfl rfl (E.ST.storeNS (old := x2.h.v) rfl z22 o22 rfl rfl hc33 (hf33 1) ⟨(E.SJ.behind (by kernel_rfl)).mpr trivial, ?_⟩))
    have hgF := Kd.R_base rF gF rfl
    replace b1 := blk_grown b1 gF2 (Kd.R_ne rF b1 (by decide))
    replace b2 := blk_grown b2 gF2 (Kd.R_ne rF b2 (by decide))
    replace b3 := blk_grown b3 gF2 (Kd.R_ne rF b3 (by decide))
    replace rA := E.R_over rA bF (by decide) gF2
    have R33b := E.R_over R33 bF (by decide) gF2
    have hM2 := (hM.over bF (by decide) gF2).put (y := ⟨A33, f.f1.length, c33⟩) hx2 hfi R33b
    replace L := E.below_own L hgF gF2
    refine E.GJ.done (by kernel_rfl) ?_
    refine E.QG.block_normal ?_
    refine E.QG.code ?_
    refine E.CG.list ?_
    refine E.GL.run rfl rfl rfl (E.Runs.move rfl rfl) ?_
    refine E.GL.run rfl rfl rfl (E.Runs.add rfl rfl rfl (IntWalk.i64_in _ (by omega))) ?_
    refine E.GL.run rfl rfl rfl (E.Runs.assign rfl rfl) ?_
    refine E.GL.done ?_
    exact E.QG.round2 (d := []) (i + 1) (xs.set i ⟨x2.p, ⟨A33, f.f1.length, c33⟩⟩) (E.subc rfl (E.subc rfl (E.subc rfl (E.subc rfl E.subn)))) ⟨by omega, b1, b2, b3, rA, rF2, hM2, L⟩ (by omega)
  · obtain rfl : i = V.fs.length := by omega
    refine E.GL.done ?_
    refine E.QG.code ?_
    refine E.CG.cond_f rfl ?_
    refine E.CG.exit ?_
    refine E.QG.pass_exit ?_
    refine E.QG.pass_exit ?_
    refine E.QG.block_here ?_
    refine E.QG.code ?_
    refine E.CG.seq ?_
    refine E.CG.list ?_
    refine E.GL.st rfl rfl rfl (E.ST.litAt k45 w.heap.size (w0 := w) (ys := []) (inner := []) rfl rfl E.epn lit24n (Reps.none _ _) L L.size (by simp) fun u36 w36 r36 k36 l36 n36 => ?_)
    replace b1 := blk_below b1 l36
    replace b2 := blk_below b2 l36
    replace b3 := blk_below b3 l36
    replace rA := Kd.R_below rA l36
    replace rF := Kd.R_below rF l36
    replace hM := hM.below l36
    replace L := k36
    refine E.GL.run rfl rfl rfl (E.Runs.fieldAddr rfl rfl hu26 rfl (by assumption) rfl) ?_
    refine E.GL.run rfl rfl rfl (E.Runs.load1 rfl rfl hu24 rfl (by first | assumption | exact E.blkc (by assumption) rfl | exact pw_cell_below L (by assumption))) ?_
    refine E.GL.st rfl rfl rfl (E.ST.appendRows k45 w.heap.size (w0 := w) (s := .tmp 36) (x := .tmp 38) rfl hu24 info45 rfl (by decide) (by decide) rfl rfl r36 (Kd.C_below hV.ds L) made45 L L.size (by simp only [List.length_nil]; omega) fun u39 w39 R39 k39 g39 => ?_)
    replace b1 := blk_grown b1 g39 (Kd.R_ne r36 b1 (by decide))
    replace b2 := blk_grown b2 g39 (Kd.R_ne r36 b2 (by decide))
    replace b3 := blk_grown b3 g39 (Kd.R_ne r36 b3 (by decide))
    replace rA := E.R_over' rA r36 (by decide) g39
    replace rF := E.R_over' rF r36 (by decide) g39
    obtain ⟨hz, cz, hoz, bz⟩ : ∃ k cs, u36.ownBlock = some k ∧ w36.heap[k]? = some (.cells cs 45 (0, 0)) := by
      obtain ⟨k, hk, _⟩ := n36
      obtain ⟨_, ho⟩ := Kd.R_own r36
      obtain ⟨cs, hcs⟩ := own_typed ho k hk
      exact ⟨k, cs, hk, hcs⟩
    replace hM := hM.over bz (by decide) (hoz ▸ g39)
    replace L := k39
    rw [List.nil_append] at R39
    obtain ⟨A39, c39, hv39⟩ := Kd.R_slice R39
    subst hv39
    have rD := R39
    refine E.GL.run rfl rfl rfl (E.Runs.fieldAddr rfl rfl hu26 rfl (by assumption) rfl) ?_
    refine E.GL.sn rfl rfl (E.ST.storeSl (cs := [.int .i64 V.d, .slice A9 V.rs.length c9, .int .i64 V.h, .slice A14 V.fs.length c14, .slice m.C V.ds.length m.c]) rfl z24 o24 rfl rfl b3 rfl rfl fun wS85 c3 lS85 => ?_)
    replace b1 := blk_grown b1 lS85 (E.nes (by first | assumption | exact Ne.symm (by assumption)))
    replace b2 := blk_grown b2 lS85 (E.nes (by first | assumption | exact Ne.symm (by assumption)))
    replace rA := Kd.R_grown1 rA rfl lS85 (Kd.R_ne rA b3 (by decide))
    replace rF := Kd.R_grown1 rF rfl lS85 (Kd.R_ne rF b3 (by decide))
    replace rD := Kd.R_grown1 rD rfl lS85 (Kd.R_ne rD b3 (by decide))
    replace hM := hM.over b3 (by decide) lS85
    replace L := E.below_own L h3_L lS85
    replace b3 := c3
    refine E.GL.done ?_
    refine E.QG.code ?_
    refine E.CG.seq ?_
    refine E.CG.list ?_
    refine E.GL.run rfl rfl rfl (E.Runs.loads (cs := [.int .i64 V.d, .slice A9 V.rs.length c9, .int .i64 V.h, .slice A14 V.fs.length c14, .slice A39 V.ds.length c39]) rfl rfl hu26 rfl info26s (blk_cells b3)) ?_
    have s9b2 := b2
    refine E.GL.store_whole rfl rfl rfl rfl rfl b2 rfl info26s (week_one _ _ _ _ _ _ _ _ _ _ _) fun wS9_1 c2 lS9_1 => ?_
    replace b1 := blk_grown b1 lS9_1 (E.nes (by first | assumption | exact Ne.symm (by assumption)))
    replace b3 := blk_grown b3 lS9_1 (E.nes (by first | assumption | exact Ne.symm (by assumption)))
    replace rA := Kd.R_grown1 rA rfl lS9_1 (by first | assumption | exact Kd.R_ne rA b2 (by decide))
    replace rF := Kd.R_grown1 rF rfl lS9_1 (by first | assumption | exact Kd.R_ne rF b2 (by decide))
    replace hM := hM.grown lS9_1 ⟨_, _, b2, by decide⟩
    replace L := E.below_own L h2_L lS9_1
    replace b2 := c2
    clear c2
    refine E.GL.done ?_
    refine E.QG.code ?_
    refine E.CG.ret ?_
    exact E.QG.result_c rfl rfl b2 hu26 rfl info26s ⟨⟨A9, c9, A14, c14, A39, c39⟩, rfl, ⟨rA, ⟨xs, rF, hM⟩, Kd.R_grown1 rD rfl lS9_1 (Kd.R_ne rD s9b2 (by decide))⟩, L⟩

end Go.Proofs.Ytdiambcjghlffaa.T
namespace Go.Proofs.Ytdiambcjghlffaa.T
open Go.RowKit Go.Proofs.YtdiambcjghlffaaW.PrintWords Go.Proofs.YtdiambcjghlffaaW.PrintMore
open Go.Proofs.Ytdiambcjghlffaa.P
set_option linter.unusedVariables false
set_option linter.unusedSimpArgs false
instance (V : Wk) (x : S45) (p : List Int) (day : Nat) : Decidable (Cln V x p day) := by
  unfold Cln
  exact decidable_of_iff (∃ r, r < V.rs.length ∧ (x.f6 ≤ V.rs.getD r 0 ∧ ∀ k, k < x.f5.toNat - x.f4.toNat + 1 → p.getD (slN V day r (x.f4.toNat + k)) 0 = x.f1)) Iff.rfl
instance (V : Wk) (x : S45) (p : List Int) : Decidable (Keep V x p) := by unfold Keep; infer_instance
abbrev eD0 : S45 := ⟨1, 1, 0, 0, 0, 1, 0, 2⟩
abbrev eD1 : S45 := ⟨3, 0, 0, 0, 0, 1, 100, 0⟩
theorem ex_ok : WOk eV := by decide
theorem ex_bad0 (p : List Int) : bad eV p 0 ↔ ¬ Keep eV eD0 p := bad_iff rfl
theorem ex_bad1 (p : List Int) : bad eV p 1 ↔ ¬ Keep eV eD1 p := bad_iff rfl
theorem ex_all (p : List Int) : Kp eV (allS eV) p ↔ Keep eV eD0 p ∧ Keep eV eD1 p := by
  rw [kp_all]
  constructor
  · intro h
    exact ⟨Classical.byContradiction fun q => h 0 (by decide) ((ex_bad0 p).mpr q), Classical.byContradiction fun q => h 1 (by decide) ((ex_bad1 p).mpr q)⟩
  · rintro ⟨h1, h2⟩ i hi
    rcases i with _ | _ | i
    · exact fun q => (ex_bad0 p).mp q h1
    · exact fun q => (ex_bad1 p).mp q h2
    · exact absurd hi (by show ¬ i + 2 < 2; omega)
theorem ex_wo (p : List Int) : Kp eV (woS eV 0) p ↔ Keep eV eD1 p := by
  have hb := fun i => without_bit eV (show 0 < eV.ds.length by decide) i
  constructor
  · intro h
    exact Classical.byContradiction fun q => (h 1 ((hb 1).mpr ⟨by decide, by decide⟩)).2 ((ex_bad1 p).mpr q)
  · intro h i hi
    obtain ⟨h1, h2⟩ := (hb i).mp hi
    refine ⟨h1, ?_⟩
    rcases i with _ | _ | i
    · exact absurd rfl h2
    · exact fun q => (ex_bad1 p).mp q h
    · exact absurd h1 (by show ¬ i + 2 < 2; omega)
theorem ex_check1 : ∀ p ∈ allP eV (Sl eV) [], Keep eV eD0 p ∧ Keep eV eD1 p → takes eV p ≤ 2520 := by decide +kernel
theorem ex_check2 : ∀ p ∈ allP eV (Sl eV) [], Keep eV eD1 p → takes eV p ≤ 2800 := by decide +kernel
theorem ex_mx : IsMx eV (allS eV) (some 2520) :=
  ⟨⟨[0, 0, 1, 1], by decide, (ex_all _).mpr (by decide +kernel), by decide +kernel⟩, fun p hp hk => ex_check1 p (allP_all.mpr hp) ((ex_all p).mp hk)⟩
theorem ex_mx2 : IsMx eV (woS eV 0) (some 2800) :=
  ⟨⟨[0, 0, 0, 0], by decide, (ex_wo _).mpr (by decide +kernel), by decide +kernel⟩, fun p hp hk => ex_check2 p (allP_all.mpr hp) ((ex_wo p).mp hk)⟩
theorem ex_most {n e : Int} (h : MostOk eV n e) : n = 2520 ∧ e = 0 := h.one (.inr ⟨ex_ok, some 2520, ex_mx, rfl, rfl⟩)
theorem ex_cost {n e : Int} (h : CoOk eV 0 n e) : n = 280 ∧ e = 0 := h.one (.inr (.inr (.inr ⟨ex_ok, by decide, 2520, 2800, ex_mx, ex_mx2, rfl, rfl⟩)))
theorem ex_clash {l : List Int} {e : Int} (h : ClOk eV l e) : e = 3 := (h.one (.inr (.inl ⟨ex_ok, ⟨_, ex_mx⟩, rfl, rfl⟩))).2
theorem ex_chk : chkP eV [0, 1, 0, -1] = 0 := chkP_ok.mpr ⟨ex_ok, by decide⟩
theorem ex_brk : brA eV [0, 1, 0, -1] = [0, 1] := by
  unfold brA
  rw [if_pos ex_chk]
  show brk eV _ (1 + 1) = _
  rw [brk_no (x := eD1) rfl (by decide +kernel), show (1 : Nat) = 0 + 1 from rfl, brk_no (x := eD0) rfl (by decide +kernel)]
  rfl
theorem ex_sz : Sz eV := ⟨by decide, by decide, by decide, by decide⟩
end Go.Proofs.Ytdiambcjghlffaa.T
namespace Go.Proofs.Ytdiambcjghlffaa.T
open Go.RowKit Go.Proofs.YtdiambcjghlffaaW.PrintWords Go.Proofs.YtdiambcjghlffaaW.PrintMore
open Go.Proofs.Ytdiambcjghlffaa.P
set_option linter.unusedVariables false
set_option linter.unusedSimpArgs false

set_option maxRecDepth 100000 in
theorem lit22_4 (a b c d : Int) (W : World) : (Instr.buildSlice 22 4 #[(0, .int .i64 a), (1, .int .i64 b), (2, .int .i64 c), (3, .int .i64 d)]).run Try.prog W = .ok (.slice (some ⟨W.heap.size, 0, none⟩) 4 4) (W.alloc (.cells (([a, b, c, d] : List Int).map (Value.int .i64)).toArray 3 (0, 0))) := by
  have hu22 := Try.underlying22
  go_simp
set_option maxRecDepth 100000 in
set_option maxHeartbeats 8000000 in

theorem works_calls (w : World) :
    Calls Try.prog 13 #[] w fun e w' => e = .returned (.bool true) ∧ Below w.heap.size w w' := by
  have hu3 := Try.underlying3
  have hu22 := Try.underlying22
  have hu26 := Try.underlying26
  have hu30 := Try.underlying30
  have hu31 := Try.underlying31
  have hu33 := Try.underlying33
  obtain ⟨z3, o3⟩ := info_some info3s (by decide)
  obtain ⟨z22, o22⟩ := info_some info22s (by decide)
  obtain ⟨z26, o26⟩ := info_some info26s (by decide)
  refine E.enter (N := 59) Try.func13 rfl Try.ntmps13 (args := []) (by simp) ?_
  have L := Below.refl w.heap.size w
  refine E.CG.seq ?_
  refine E.CG.list ?_
  refine E.GL.run rfl rfl rfl (E.Runs.assign rfl rfl) ?_
  refine E.GL.done ?_
  refine E.QG.code ?_
  refine E.CG.seq ?_
  refine E.CG.list ?_
  refine E.GL.st rfl rfl rfl (E.ST.call rfl ent36 E.evn ((example_calls _).mono ?_))
  rintro e w10 ⟨m, rfl, hV, l10⟩
  refine ⟨_, rfl, ?_⟩
  replace L := below_step L l10
  have K := Below.refl w10.heap.size w10
  refine E.GL.st rfl rfl rfl (E.ST.alloc rfl info26z fun g1 w1 e1 b1 l1 => ?_)
  have h1_L : w.heap.size ≤ g1 := by rw [e1]; exact L.size
  have h1_K : w10.heap.size ≤ g1 := by rw [e1]; exact K.size
  replace L := below_step L l1
  replace K := below_step K l1
  refine E.GL.store_whole rfl rfl rfl rfl rfl b1 rfl info26s (week_one _ _ _ _ _ _ _ _ _ _ _) fun wS1_2 c1 lS1_2 => ?_
  replace L := E.below_own L h1_L lS1_2
  replace K := E.below_own K h1_K lS1_2
  replace b1 := c1
  clear c1
  refine E.GL.done ?_
  refine E.QG.code ?_
  refine E.CG.seq ?_
  refine E.CG.list ?_
  refine E.GL.run rfl rfl rfl (E.Runs.loads (cs := [.int .i64 eV.d, .slice m.A eV.rs.length m.a, .int .i64 eV.h, .slice m.B eV.fs.length m.b, .slice m.C eV.ds.length m.c]) rfl rfl hu26 rfl info26s (blk_cells b1)) ?_
  refine E.GL.st rfl rfl rfl (E.ST.call rfl ent15 (E.evc rfl E.evn) ((most_calls eV m _ (hV.below K) ex_sz).mono ?_))
  rintro e w13 ⟨n13, e13, rfl, hm13, l13⟩
  refine ⟨_, rfl, ?_⟩
  replace b1 := blk_below b1 l13
  replace L := below_step L l13
  replace K := below_step K l13
  obtain ⟨rfl, rfl⟩ := ex_most hm13
  refine E.GL.run rfl rfl rfl (E.Runs.move rfl rfl) ?_
  refine E.GL.run rfl rfl rfl (E.Runs.extract rfl rfl rfl) ?_
  refine E.GL.run rfl rfl rfl (E.Runs.extract rfl rfl rfl) ?_
  refine E.GL.run rfl rfl rfl (E.Runs.assign rfl rfl) ?_
  refine E.GL.run rfl rfl rfl (E.Runs.assign rfl rfl) ?_
  refine E.GL.done ?_
  refine E.QG.code ?_
  refine E.CG.seq ?_
  refine E.CG.list ?_
  refine E.GL.run rfl rfl rfl (E.Runs.loads (cs := [.int .i64 eV.d, .slice m.A eV.rs.length m.a, .int .i64 eV.h, .slice m.B eV.fs.length m.b, .slice m.C eV.ds.length m.c]) rfl rfl hu26 rfl info26s (blk_cells b1)) ?_
  refine E.GL.st rfl rfl rfl (E.ST.litB (cs := (([0, 1, 0, -1] : List Int).map (Value.int .i64)).toArray) rfl (E.epc rfl (E.epc rfl (E.epc rfl (E.epc rfl E.epn)))) (lit22_4 _ _ _ _) fun g18 w18 e18 b18 l18 => ?_)
  replace b1 := blk_below b1 l18
  replace L := below_step L l18
  replace K := below_step K l18
  refine E.GL.st rfl rfl rfl (E.ST.call rfl ent25 (E.evc rfl (E.evc rfl E.evn)) ((broken_o eV m ([0, 1, 0, -1] : List Int) _ 4 _ (hV.below K) ex_sz (C_nums ([0, 1, 0, -1] : List Int) b18 (by decide)) (by decide)).mono ?_))
  rintro e w19 ⟨v19, rfl, R19, l19⟩
  refine ⟨_, rfl, ?_⟩
  replace b1 := blk_below b1 l19
  replace L := below_step L l19
  replace K := below_step K l19
  rw [ex_chk]
  rw [ex_brk] at R19
  obtain ⟨A19, c19, hv19⟩ := Kd.R_slice R19
  subst hv19
  refine E.GL.run rfl rfl rfl (E.Runs.move rfl rfl) ?_
  refine E.GL.run rfl rfl rfl (E.Runs.extract rfl rfl rfl) ?_
  refine E.GL.run rfl rfl rfl (E.Runs.extract rfl rfl rfl) ?_
  refine E.GL.run rfl rfl rfl (E.Runs.assign rfl rfl) ?_
  refine E.GL.run rfl rfl rfl (E.Runs.assign rfl rfl) ?_
  refine E.GL.done ?_
  refine E.QG.code ?_
  refine E.CG.seq ?_
  refine E.CG.list ?_
  refine E.GL.run rfl rfl rfl (E.Runs.loads (cs := [.int .i64 eV.d, .slice m.A eV.rs.length m.a, .int .i64 eV.h, .slice m.B eV.fs.length m.b, .slice m.C eV.ds.length m.c]) rfl rfl hu26 rfl info26s (blk_cells b1)) ?_
  refine E.GL.st rfl rfl rfl (E.ST.call rfl ent19 (E.evc rfl (E.evc rfl E.evn)) ((cost_calls eV m 0 _ (hV.below K) ex_sz).mono ?_))
  rintro e w24 ⟨n24, e24, rfl, hm24, l24⟩
  refine ⟨_, rfl, ?_⟩
  replace b1 := blk_below b1 l24
  replace R19 := Kd.R_below R19 l24
  replace L := below_step L l24
  replace K := below_step K l24
  obtain ⟨rfl, rfl⟩ := ex_cost hm24
  refine E.GL.run rfl rfl rfl (E.Runs.move rfl rfl) ?_
  refine E.GL.run rfl rfl rfl (E.Runs.extract rfl rfl rfl) ?_
  refine E.GL.run rfl rfl rfl (E.Runs.extract rfl rfl rfl) ?_
  refine E.GL.run rfl rfl rfl (E.Runs.assign rfl rfl) ?_
  refine E.GL.run rfl rfl rfl (E.Runs.assign rfl rfl) ?_
  refine E.GL.done ?_
  refine E.QG.code ?_
  refine E.CG.seq ?_
  refine E.CG.list ?_
  refine E.GL.run rfl rfl rfl (E.Runs.loads (cs := [.int .i64 eV.d, .slice m.A eV.rs.length m.a, .int .i64 eV.h, .slice m.B eV.fs.length m.b, .slice m.C eV.ds.length m.c]) rfl rfl hu26 rfl info26s (blk_cells b1)) ?_
  refine E.GL.st rfl rfl rfl (E.ST.call rfl ent17 (E.evc rfl E.evn) ((clash_calls eV m _ (hV.below K) ex_sz).mono ?_))
  rintro e w29 ⟨v29, l29', e29, rfl, R29, hm29, l29⟩
  refine ⟨_, rfl, ?_⟩
  replace b1 := blk_below b1 l29
  replace R19 := Kd.R_below R19 l29
  replace L := below_step L l29
  replace K := below_step K l29
  obtain rfl := ex_clash hm29
  refine E.GL.run rfl rfl rfl (E.Runs.move rfl rfl) ?_
  refine E.GL.run rfl rfl rfl (E.Runs.extract rfl rfl rfl) ?_
  refine E.GL.run rfl rfl rfl (E.Runs.extract rfl rfl rfl) ?_
  refine E.GL.run rfl rfl rfl (E.Runs.assign rfl rfl) ?_
  refine E.GL.run rfl rfl rfl (E.Runs.assign rfl rfl) ?_
  refine E.GL.done ?_
  refine E.QG.code ?_
  refine E.CG.seq ?_
  refine E.CG.list ?_
  refine E.GL.run rfl rfl rfl (E.Runs.move rfl rfl) ?_
  refine E.GL.run rfl rfl rfl (E.Runs.eql rfl rfl rfl (decide_eq_true rfl)) ?_
  refine E.GL.run rfl rfl rfl (E.Runs.move rfl rfl) ?_
  refine E.GL.run rfl rfl rfl (E.Runs.move rfl rfl) ?_
  refine E.GL.run rfl rfl rfl (E.Runs.eql rfl rfl rfl (decide_eq_true rfl)) ?_
  refine E.GL.run rfl rfl rfl (E.Runs.pick_t rfl rfl rfl) ?_
  refine E.GL.run rfl rfl rfl (E.Runs.move rfl rfl) ?_
  refine E.GL.run rfl rfl rfl (E.Runs.move rfl rfl) ?_
  refine E.GL.run rfl rfl rfl (E.Runs.eql rfl rfl rfl (decide_eq_true rfl)) ?_
  refine E.GL.run rfl rfl rfl (E.Runs.pick_t rfl rfl rfl) ?_
  refine E.GL.run rfl rfl rfl (E.Runs.move rfl rfl) ?_
  refine E.GL.run rfl rfl rfl (E.Runs.move rfl rfl) ?_
  refine E.GL.run rfl rfl rfl (E.Runs.eql rfl rfl rfl (decide_eq_true rfl)) ?_
  refine E.GL.run rfl rfl rfl (E.Runs.pick_t rfl rfl rfl) ?_
  refine E.GL.run rfl rfl rfl (E.Runs.move rfl rfl) ?_
  refine E.GL.run rfl rfl rfl (E.Runs.move rfl rfl) ?_
  refine E.GL.run rfl rfl rfl (E.Runs.eql rfl rfl rfl (decide_eq_true rfl)) ?_
  refine E.GL.run rfl rfl rfl (E.Runs.pick_t rfl rfl rfl) ?_
  refine E.GL.run rfl rfl rfl (E.Runs.move rfl rfl) ?_
  refine E.GL.run rfl rfl rfl (E.Runs.move rfl rfl) ?_
  refine E.GL.st rfl rfl rfl (E.ST.litB (cs := (([0, 1] : List Int).map (Value.int .i64)).toArray) rfl (E.epc rfl (E.epc rfl E.epn)) (lit22_2 _ _) fun g52 w52 e52 b52 l52 => ?_)
  replace b1 := blk_below b1 l52
  replace K := below_step K l52
  replace L := below_step L l52
  replace R19 := Kd.R_below R19 l52
  refine E.GL.st rfl rfl rfl (E.ST.call rfl ent21 (E.evc rfl (E.evc rfl E.evn)) ((same_calls ([0, 1] : List Int) ([0, 1] : List Int) A19 _ c19 2 _ true (iff_of_true rfl rfl) (Kd.R_reads' R19).2.2 (C_nums [0, 1] b52 (by decide)) (by decide)).mono ?_))
  rintro e w53 ⟨rfl, l53⟩
  refine ⟨_, rfl, ?_⟩
  replace b1 := blk_below b1 l53
  replace R19 := Kd.R_below R19 l53
  replace L := below_step L l53
  replace K := below_step K l53
  refine E.GL.run rfl rfl rfl (E.Runs.pick_t rfl rfl rfl) ?_
  refine E.GL.run rfl rfl rfl (E.Runs.move rfl rfl) ?_
  refine E.GL.run rfl rfl rfl (E.Runs.move rfl rfl) ?_
  refine E.GL.run rfl rfl rfl (E.Runs.eql rfl rfl rfl (decide_eq_true rfl)) ?_
  refine E.GL.run rfl rfl rfl (E.Runs.pick_t rfl rfl rfl) ?_
  refine E.GL.run rfl rfl rfl (E.Runs.assign rfl rfl) ?_
  refine E.GL.done ?_
  refine E.QG.code ?_
  refine E.CG.ret ?_
  exact E.QG.result rfl rfl ⟨rfl, L⟩

end Go.Proofs.Ytdiambcjghlffaa.T
namespace Go.Proofs.Ytdiambcjghlffaa.T
open Go.ChangeShapes Go.WideShapes Go.ChangeAt Go.Deep
open Go.RowKit Go.Proofs.YtdiambcjghlffaaW.PrintWords Go.Proofs.YtdiambcjghlffaaW.PrintMore
open Go.Proofs.Ytdiambcjghlffaa.P
set_option linter.unusedVariables false
set_option linter.unusedSimpArgs false

section
variable {X : Type} {enc : TypeId × Value → X} {w : World} {base : Nat} {spare : Nat → Bool} {held : Bool}
theorem fld {fs : Array Field} {n : Nat} {cs : List Value} {xs : List (DataW X × List MemPlace)} (hlen : xs.length = fs.size) (hg : ∀ (i : Nat) (f : Field), fs[i]? = some f → DataW.trod enc Try.prog w base spare held n f.type ((cs.drop f.offset).take (Try.prog.cellsOf f.type)) = xs[i]?) (i : Nat) (f : Field) (hf : fs[i]? = some f)
    (ty : TypeId) (off k : Nat) (h1 : f.type = ty) (h2 : f.offset = off) (h3 : Try.prog.cellsOf ty = k) :
    ∃ y, DataW.trod enc Try.prog w base spare held n ty ((cs.drop off).take k) = some y := by
  have hi : i < xs.length := by rw [hlen]; exact (Array.getElem?_eq_some_iff.1 hf).1
  subst h1 h2 h3
  exact ⟨_, (hg i f hf).trans (List.getElem?_eq_getElem hi)⟩

theorem ocells3 : Try.prog.cellsOf 3 = 1 := by kernel_rfl

theorem trod3 {n : Nat} {cs : List Value} {x : DataW X × List MemPlace} (h : DataW.trod enc Try.prog w base spare held n 3 cs = some x) : ∃ (a : Int), cs = [.int .i64 a] := by
  obtain ⟨a, hc, _⟩ := DataW.trod_int Try.underlying3 h
  exact ⟨a, hc⟩

theorem ocells22 : Try.prog.cellsOf 22 = 1 := by kernel_rfl

theorem trod22 {n : Nat} {cs : List Value} {x : DataW X × List MemPlace} (h : DataW.trod enc Try.prog w base spare held n 22 cs = some x) : ∃ (aA : Option Addr) (ac : Nat) (al : List Int), cs = [.slice aA al.length ac] ∧ al.length ≤ ac ∧ Kd.C (Kd.int .i64) w aA al.length al := by
  rcases open_slice Try.underlying22 h with ⟨rfl, _⟩ | ⟨a, len, cap, m, k, D, Pl, rfl, hb, hl, hm, hmm, hx, hi⟩
  · exact ⟨none, 0, [], rfl, Nat.le_refl _, rfl, by simp, fun h => absurd h (by simp)⟩
  · have hlm : len ≤ m := by rw [hmm]; split <;> omega
    have H : ∀ i, i < len → ∃ s : Int, w.cells? base (a.add (i * 1)) 1 = some [.int .i64 s] := by
      intro i hil
      obtain ⟨cs', hc, ht⟩ := hi i (by omega)
      obtain ⟨a, rfl⟩ := trod3 ht
      rw [ocells3] at hc
      exact ⟨a, hc⟩
    obtain ⟨F, hF⟩ : ∃ F : Nat → Int, ∀ i, i < len → w.cells? base (a.add (i * 1)) 1 = some [.int .i64 (F i)] := by
      refine ⟨fun i => if h : i < len then (H i h).choose else 0, fun i h => ?_⟩
      simp only [dif_pos h]
      exact (H i h).choose_spec
    refine ⟨some a, cap, (List.range len).map F, by simp, by simpa using hl, ?_, ?_, ?_⟩
    · rfl
    · simp only [List.length_map, List.length_range]
      unfold maxLen at hm
      omega
    · intro _
      refine ⟨a, rfl, fun j p hj => ?_⟩
      have hjl : j < len := by
        have := (List.getElem?_eq_some_iff.1 hj).1
        simpa using this
      have hp : p = F j := by
        rw [List.getElem?_map, List.getElem?_range hjl] at hj
        simpa using hj.symm
      subst hp
      refine ⟨[.int .i64 (F j)], rfl, rfl, ?_⟩
      intro i u hu
      obtain ⟨_, hcl, hat⟩ := World.cells?_some (hF j hjl)
      have hil : i < 1 := (List.getElem?_eq_some_iff.1 hu).1
      have := hat i hil
      rw [Go.Deep.add_add] at this
      rw [show j * ((Kd.int .i64)).sz + i = j * 1 + i from rfl, this, hu]

set_option maxRecDepth 100000 in
theorem ints_open {r : Reach} {b0 : Nat} {v : Value} {d : DataW X} {p : List MemPlace} (hval : Value.okWide Try.prog w r b0 22 v) (h : DataW.Trod enc Try.prog w base spare held 22 v d p) : ∃ (aA : Option Addr) (ac : Nat) (al : List Int), v = .slice aA al.length ac ∧ al.length ≤ ac ∧ Kd.C (Kd.int .i64) w aA al.length al := by
  obtain ⟨A, n, c, rfl⟩ := okWide_slice Try.underlying22 hval
  obtain ⟨k, hk⟩ := h
  obtain ⟨A', c', l, he, h1, h2⟩ := trod22 hk
  simp only [Value.cells, List.cons.injEq, Value.slice.injEq, and_true] at he
  obtain ⟨rfl, rfl, rfl⟩ := he
  exact ⟨A, c, l, rfl, h1, h2⟩

theorem ocells26 : Try.prog.cellsOf 26 = 5 := by kernel_rfl

theorem ocells23 : Try.prog.cellsOf 23 = 1 := by kernel_rfl

theorem ocells49 : Try.prog.cellsOf 49 = 2 := by kernel_rfl

theorem list_of2 {cs : List Value} (h : cs.length = 2) : ∃ v0 v1, cs = [v0, v1] := by
  match cs, h with
  | [v0, v1], _ => exact ⟨v0, v1, rfl⟩

theorem trod49 {n : Nat} {cs : List Value} {x : DataW X × List MemPlace} (h : DataW.trod enc Try.prog w base spare held n 49 cs = some x) : ∃ (a_0 : Int) (a_1A : Option Addr) (a_1c : Nat) (a_1l : List Int), cs = [.int .i64 a_0, .slice a_1A a_1l.length a_1c] ∧ a_1l.length ≤ a_1c ∧ Kd.C (Kd.int .i64) w a_1A a_1l.length a_1l := by
  obtain ⟨xs, m, _, hx, hl, hlen, hg⟩ := DataW.trod_struct Try.underlying49 h
  rw [ocells49] at hl
  obtain ⟨v0, v1, rfl⟩ := list_of2 hl
  obtain ⟨y0, h0⟩ := fld hlen hg 0 _ rfl 3 0 1 rfl rfl ocells3
  obtain ⟨y1, h1⟩ := fld hlen hg 1 _ rfl 22 1 1 rfl rfl ocells22
  obtain ⟨a_0, e0⟩ := trod3 h0
  obtain ⟨a_1A, a_1c, a_1l, e1, f1_0, f1_1⟩ := trod22 h1
  simp only [List.drop_zero, List.take_succ_cons, List.take_zero, List.drop_succ_cons, List.cons.injEq, and_true] at e0 e1
  subst e0 e1
  exact ⟨a_0, a_1A, a_1c, a_1l, rfl, f1_0, f1_1⟩

theorem trod23 {n : Nat} {cs : List Value} {x : DataW X × List MemPlace} (h : DataW.trod enc Try.prog w base spare held n 23 cs = some x) : ∃ (aA : Option Addr) (ac : Nat) (al : List S49), cs = [.slice aA al.length ac] ∧ al.length ≤ ac ∧ Kd.C k49 w aA al.length al := by
  rcases open_slice Try.underlying23 h with ⟨rfl, _⟩ | ⟨a, len, cap, m, k, D, Pl, rfl, hb, hl, hm, hmm, hx, hi⟩
  · exact ⟨none, 0, [], rfl, Nat.le_refl _, rfl, by simp, fun h => absurd h (by simp)⟩
  · have hlm : len ≤ m := by rw [hmm]; split <;> omega
    have H : ∀ i, i < len → ∃ p : S49 × List Value, w.cells? base (a.add (i * 2)) 2 = some p.2 ∧ Kd.K k49 w p.1 p.2 := by
      intro i hil
      obtain ⟨cs', hc, ht⟩ := hi i (by omega)
      obtain ⟨a_0, a_1A, a_1c, a_1l, rfl, q0, q1⟩ := trod49 ht
      rw [ocells49] at hc
      exact ⟨((⟨a_0, a_1l⟩ : S49), _), hc, k49_mk w _ q0 q1⟩
    obtain ⟨F, hF⟩ : ∃ F : Nat → S49 × List Value, ∀ i, i < len → w.cells? base (a.add (i * 2)) 2 = some (F i).2 ∧ Kd.K k49 w (F i).1 (F i).2 := by
      refine ⟨fun i => if h : i < len then (H i h).choose else (P.z49, []), fun i h => ?_⟩
      simp only [dif_pos h]
      exact (H i h).choose_spec
    refine ⟨some a, cap, (List.range len).map (fun i => (F i).1), by simp, by simpa using hl, ?_, ?_, ?_⟩
    · rfl
    · simp only [List.length_map, List.length_range]
      unfold maxLen at hm
      omega
    · intro _
      refine ⟨a, rfl, fun j p hj => ?_⟩
      have hjl : j < len := by
        have := (List.getElem?_eq_some_iff.1 hj).1
        simpa using this
      have hp : p = (F j).1 := by
        rw [List.getElem?_map, List.getElem?_range hjl] at hj
        simpa using hj.symm
      subst hp
      refine ⟨(F j).2, Kd.K_len _ (hF j hjl).2, (hF j hjl).2, ?_⟩
      intro i u hu
      obtain ⟨_, hcl, hat⟩ := World.cells?_some (hF j hjl).1
      have hil : i < 2 := by
        have h1 := (List.getElem?_eq_some_iff.1 hu).1
        have h2 : (F j).2.length = 2 := Kd.K_len _ (hF j hjl).2
        omega
      have := hat i hil
      rw [Go.Deep.add_add] at this
      rw [show j * (Kd.sz k49) + i = j * 2 + i from rfl, this, hu]

theorem ocells24 : Try.prog.cellsOf 24 = 1 := by kernel_rfl

theorem ocells45 : Try.prog.cellsOf 45 = 8 := by kernel_rfl

theorem list_of8 {cs : List Value} (h : cs.length = 8) : ∃ v0 v1 v2 v3 v4 v5 v6 v7, cs = [v0, v1, v2, v3, v4, v5, v6, v7] := by
  match cs, h with
  | [v0, v1, v2, v3, v4, v5, v6, v7], _ => exact ⟨v0, v1, v2, v3, v4, v5, v6, v7, rfl⟩

theorem trod45 {n : Nat} {cs : List Value} {x : DataW X × List MemPlace} (h : DataW.trod enc Try.prog w base spare held n 45 cs = some x) : ∃ (a_0 : Int) (a_1 : Int) (a_2 : Int) (a_3 : Int) (a_4 : Int) (a_5 : Int) (a_6 : Int) (a_7 : Int), cs = [.int .i64 a_0, .int .i64 a_1, .int .i64 a_2, .int .i64 a_3, .int .i64 a_4, .int .i64 a_5, .int .i64 a_6, .int .i64 a_7] := by
  obtain ⟨xs, m, _, hx, hl, hlen, hg⟩ := DataW.trod_struct Try.underlying45 h
  rw [ocells45] at hl
  obtain ⟨v0, v1, v2, v3, v4, v5, v6, v7, rfl⟩ := list_of8 hl
  obtain ⟨y0, h0⟩ := fld hlen hg 0 _ rfl 3 0 1 rfl rfl ocells3
  obtain ⟨y1, h1⟩ := fld hlen hg 1 _ rfl 3 1 1 rfl rfl ocells3
  obtain ⟨y2, h2⟩ := fld hlen hg 2 _ rfl 3 2 1 rfl rfl ocells3
  obtain ⟨y3, h3⟩ := fld hlen hg 3 _ rfl 3 3 1 rfl rfl ocells3
  obtain ⟨y4, h4⟩ := fld hlen hg 4 _ rfl 3 4 1 rfl rfl ocells3
  obtain ⟨y5, h5⟩ := fld hlen hg 5 _ rfl 3 5 1 rfl rfl ocells3
  obtain ⟨y6, h6⟩ := fld hlen hg 6 _ rfl 3 6 1 rfl rfl ocells3
  obtain ⟨y7, h7⟩ := fld hlen hg 7 _ rfl 3 7 1 rfl rfl ocells3
  obtain ⟨a_0, e0⟩ := trod3 h0
  obtain ⟨a_1, e1⟩ := trod3 h1
  obtain ⟨a_2, e2⟩ := trod3 h2
  obtain ⟨a_3, e3⟩ := trod3 h3
  obtain ⟨a_4, e4⟩ := trod3 h4
  obtain ⟨a_5, e5⟩ := trod3 h5
  obtain ⟨a_6, e6⟩ := trod3 h6
  obtain ⟨a_7, e7⟩ := trod3 h7
  simp only [List.drop_zero, List.take_succ_cons, List.take_zero, List.drop_succ_cons, List.cons.injEq, and_true] at e0 e1 e2 e3 e4 e5 e6 e7
  subst e0 e1 e2 e3 e4 e5 e6 e7
  exact ⟨a_0, a_1, a_2, a_3, a_4, a_5, a_6, a_7, rfl⟩

theorem trod24 {n : Nat} {cs : List Value} {x : DataW X × List MemPlace} (h : DataW.trod enc Try.prog w base spare held n 24 cs = some x) : ∃ (aA : Option Addr) (ac : Nat) (al : List S45), cs = [.slice aA al.length ac] ∧ al.length ≤ ac ∧ Kd.C k45 w aA al.length al := by
  rcases open_slice Try.underlying24 h with ⟨rfl, _⟩ | ⟨a, len, cap, m, k, D, Pl, rfl, hb, hl, hm, hmm, hx, hi⟩
  · exact ⟨none, 0, [], rfl, Nat.le_refl _, rfl, by simp, fun h => absurd h (by simp)⟩
  · have hlm : len ≤ m := by rw [hmm]; split <;> omega
    have H : ∀ i, i < len → ∃ s : S45, w.cells? base (a.add (i * 8)) 8 = some [.int .i64 s.f0, .int .i64 s.f1, .int .i64 s.f2, .int .i64 s.f3, .int .i64 s.f4, .int .i64 s.f5, .int .i64 s.f6, .int .i64 s.f7] := by
      intro i hil
      obtain ⟨cs', hc, ht⟩ := hi i (by omega)
      obtain ⟨a_0, a_1, a_2, a_3, a_4, a_5, a_6, a_7, rfl⟩ := trod45 ht
      rw [ocells45] at hc
      exact ⟨⟨a_0, a_1, a_2, a_3, a_4, a_5, a_6, a_7⟩, hc⟩
    obtain ⟨F, hF⟩ : ∃ F : Nat → S45, ∀ i, i < len → w.cells? base (a.add (i * 8)) 8 = some [.int .i64 (F i).f0, .int .i64 (F i).f1, .int .i64 (F i).f2, .int .i64 (F i).f3, .int .i64 (F i).f4, .int .i64 (F i).f5, .int .i64 (F i).f6, .int .i64 (F i).f7] := by
      refine ⟨fun i => if h : i < len then (H i h).choose else P.z45, fun i h => ?_⟩
      simp only [dif_pos h]
      exact (H i h).choose_spec
    refine ⟨some a, cap, (List.range len).map F, by simp, by simpa using hl, ?_, ?_, ?_⟩
    · rfl
    · simp only [List.length_map, List.length_range]
      unfold maxLen at hm
      omega
    · intro _
      refine ⟨a, rfl, fun j p hj => ?_⟩
      have hjl : j < len := by
        have := (List.getElem?_eq_some_iff.1 hj).1
        simpa using this
      have hp : p = F j := by
        rw [List.getElem?_map, List.getElem?_range hjl] at hj
        simpa using hj.symm
      subst hp
      refine ⟨[.int .i64 (F j).f0, .int .i64 (F j).f1, .int .i64 (F j).f2, .int .i64 (F j).f3, .int .i64 (F j).f4, .int .i64 (F j).f5, .int .i64 (F j).f6, .int .i64 (F j).f7], rfl, k45_mk w (F j), ?_⟩
      intro i u hu
      obtain ⟨_, hcl, hat⟩ := World.cells?_some (hF j hjl)
      have hil : i < 8 := (List.getElem?_eq_some_iff.1 hu).1
      have := hat i hil
      rw [Go.Deep.add_add] at this
      rw [show j * (k45).sz + i = j * 8 + i from rfl, this, hu]

theorem list_of5 {cs : List Value} (h : cs.length = 5) : ∃ v0 v1 v2 v3 v4, cs = [v0, v1, v2, v3, v4] := by
  match cs, h with
  | [v0, v1, v2, v3, v4], _ => exact ⟨v0, v1, v2, v3, v4, rfl⟩

theorem trod26 {n : Nat} {cs : List Value} {x : DataW X × List MemPlace} (h : DataW.trod enc Try.prog w base spare held n 26 cs = some x) : ∃ (a_0 : Int) (a_1A : Option Addr) (a_1c : Nat) (a_1l : List Int) (a_2 : Int) (a_3A : Option Addr) (a_3c : Nat) (a_3l : List S49) (a_4A : Option Addr) (a_4c : Nat) (a_4l : List S45), cs = [.int .i64 a_0, .slice a_1A a_1l.length a_1c, .int .i64 a_2, .slice a_3A a_3l.length a_3c, .slice a_4A a_4l.length a_4c] ∧ a_1l.length ≤ a_1c ∧ Kd.C (Kd.int .i64) w a_1A a_1l.length a_1l ∧ a_3l.length ≤ a_3c ∧ Kd.C k49 w a_3A a_3l.length a_3l ∧ a_4l.length ≤ a_4c ∧ Kd.C k45 w a_4A a_4l.length a_4l := by
  obtain ⟨xs, m, _, hx, hl, hlen, hg⟩ := DataW.trod_struct Try.underlying26 h
  rw [ocells26] at hl
  obtain ⟨v0, v1, v2, v3, v4, rfl⟩ := list_of5 hl
  obtain ⟨y0, h0⟩ := fld hlen hg 0 _ rfl 3 0 1 rfl rfl ocells3
  obtain ⟨y1, h1⟩ := fld hlen hg 1 _ rfl 22 1 1 rfl rfl ocells22
  obtain ⟨y2, h2⟩ := fld hlen hg 2 _ rfl 3 2 1 rfl rfl ocells3
  obtain ⟨y3, h3⟩ := fld hlen hg 3 _ rfl 23 3 1 rfl rfl ocells23
  obtain ⟨y4, h4⟩ := fld hlen hg 4 _ rfl 24 4 1 rfl rfl ocells24
  obtain ⟨a_0, e0⟩ := trod3 h0
  obtain ⟨a_1A, a_1c, a_1l, e1, f1_0, f1_1⟩ := trod22 h1
  obtain ⟨a_2, e2⟩ := trod3 h2
  obtain ⟨a_3A, a_3c, a_3l, e3, f3_0, f3_1⟩ := trod23 h3
  obtain ⟨a_4A, a_4c, a_4l, e4, f4_0, f4_1⟩ := trod24 h4
  simp only [List.drop_zero, List.take_succ_cons, List.take_zero, List.drop_succ_cons, List.cons.injEq, and_true] at e0 e1 e2 e3 e4
  subst e0 e1 e2 e3 e4
  exact ⟨a_0, a_1A, a_1c, a_1l, a_2, a_3A, a_3c, a_3l, a_4A, a_4c, a_4l, rfl, f1_0, f1_1, f3_0, f3_1, f4_0, f4_1⟩

set_option maxRecDepth 100000 in
theorem week_open {r : Reach} {b0 : Nat} {v : Value} {d : DataW X} {p : List MemPlace} (hval : Value.okWide Try.prog w r b0 26 v) (h : DataW.Trod enc Try.prog w base spare held 26 v d p) : ∃ (a_0 : Int) (a_1A : Option Addr) (a_1c : Nat) (a_1l : List Int) (a_2 : Int) (a_3A : Option Addr) (a_3c : Nat) (a_3l : List S49) (a_4A : Option Addr) (a_4c : Nat) (a_4l : List S45), v = .agg #[.int .i64 a_0, .slice a_1A a_1l.length a_1c, .int .i64 a_2, .slice a_3A a_3l.length a_3c, .slice a_4A a_4l.length a_4c] ∧ a_1l.length ≤ a_1c ∧ Kd.C (Kd.int .i64) w a_1A a_1l.length a_1l ∧ a_3l.length ≤ a_3c ∧ Kd.C k49 w a_3A a_3l.length a_3l ∧ a_4l.length ≤ a_4c ∧ Kd.C k45 w a_4A a_4l.length a_4l := by
  obtain ⟨cs, rfl, hsz⟩ := okWide_struct Try.underlying26 hval
  obtain ⟨n, hn⟩ := h
  obtain ⟨a_0, a_1A, a_1c, a_1l, a_2, a_3A, a_3c, a_3l, a_4A, a_4c, a_4l, hH, f0, f1, f2, f3, f4, f5⟩ := trod26 hn
  obtain ⟨l⟩ := cs
  obtain rfl : l = _ := hH
  exact ⟨a_0, a_1A, a_1c, a_1l, a_2, a_3A, a_3c, a_3l, a_4A, a_4c, a_4l, rfl, f0, f1, f2, f3, f4, f5⟩

end

end Go.Proofs.Ytdiambcjghlffaa.T
namespace Go.Proofs.Ytdiambcjghlffaa.T
open Go.RowKit Go.Proofs.YtdiambcjghlffaaW.PrintWords Go.Proofs.YtdiambcjghlffaaW.PrintMore
open Go.Proofs.Ytdiambcjghlffaa.P
set_option linter.unusedVariables false
set_option linter.unusedSimpArgs false

theorem brA_len {V : Wk} {p : List Int} (hs : Sz V) : (brA V p).length ≤ 1000000 := by
  unfold brA
  split
  · have := brk_len V p V.ds.length; have := hs.d; omega
  · simp
end Go.Proofs.Ytdiambcjghlffaa.T
namespace Go.Proofs.Ytdiambcjghlffaa.T
open Go.RowKit Go.Proofs.YtdiambcjghlffaaW.PrintWords Go.Proofs.YtdiambcjghlffaaW.PrintMore
open Go.Proofs.Ytdiambcjghlffaa.P
set_option linter.unusedVariables false
set_option linter.unusedSimpArgs false

set_option maxRecDepth 100000 in
set_option maxHeartbeats 8000000 in

theorem isProgram_any (V : Wk) (m : Wa) (p : List Int) (A : Option Addr) (c : Nat) (w : World) (hV : WM w V m) (hs : Sz V) (hp : Kd.C kI w A p.length p) (hpn : p.length ≤ 9223372036854775807) (ok : Shp V) (r : Bool) (hb : r = true ↔ IsP V p) :
    Calls Try.prog 24 #[wv V m, .slice A p.length c] w fun e w' => e = .returned (.bool r) ∧ Below w.heap.size w w' := by
  have hsf := hs.f
  have hsn := slots_nat ok
  have hu3 := Try.underlying3
  have hu22 := Try.underlying22
  have hu23 := Try.underlying23
  have hu26 := Try.underlying26
  obtain ⟨z3, o3⟩ := info_some info3s (by decide)
  obtain ⟨z22, o22⟩ := info_some info22s (by decide)
  obtain ⟨z23, o23⟩ := info_some info23s (by decide)
  refine E.enter (N := 27) Try.func24 rfl Try.ntmps24 (args := [wv V m, .slice A p.length c]) (by simp) ?_
  have L := Below.refl w.heap.size w
  refine E.CG.seq ?_
  refine E.CG.list ?_
  refine E.GL.st rfl rfl rfl (E.ST.box rfl rfl fun g2 w2 e2 b2 l2 => ?_)
  have h2_L : w.heap.size ≤ g2 := by rw [e2]; exact L.size
  replace L := below_step L l2
  refine E.GL.run rfl rfl rfl (E.Runs.assign rfl rfl) ?_
  refine E.GL.done ?_
  refine E.QG.code ?_
  refine E.CG.seq ?_
  refine E.CG.seq ?_
  refine E.CG.list ?_
  refine E.GL.run rfl rfl rfl (E.Runs.assign rfl rfl) ?_
  refine E.GL.done ?_
  refine E.QG.code ?_
  refine E.CG.block ?_
  have s2_b2 := b2
  have s2_L := L
  refine E.CG.loop (fun (i : Nat) => [(1, .slice A p.length c), (2, .pointer (some ⟨g2, 0, none⟩)), (5, .int .i64 i)]) (fun i w' => i ≤ p.length ∧ (∀ k, k < i → ∀ y, p[k]? = some y → -1 ≤ y ∧ y ≤ (V.fs.length : Int) - 1) ∧ w'.heap[g2]? = some (.cells #[.int .i64 V.d, .slice m.A V.rs.length m.a, .int .i64 V.h, .slice m.B V.fs.length m.b, .slice m.C V.ds.length m.c] 26 (0, 0)) ∧ Below w.heap.size w w') (fun i => p.length - i) 0 (E.subc rfl (E.subc rfl (E.subc rfl E.subn))) ⟨Nat.zero_le _, fun k hk => by omega, b2, L⟩ ?_
  rintro i w2 ⟨hi, hok, b2, L⟩
  refine E.CG.seq ?_
  refine E.CG.seq ?_
  refine E.CG.list ?_
  refine E.GL.run rfl rfl rfl (E.Runs.move rfl rfl) ?_
  refine E.GL.run rfl rfl rfl (E.Runs.move rfl rfl) ?_
  refine E.GL.run rfl rfl rfl (E.Runs.len rfl rfl hu22) ?_
  refine E.GL.cmp rfl rfl rfl (fun _ h => (E.Runs.lss rfl rfl rfl h)) (fun h9 => ?_) (fun h9 => ?_)
  · obtain ⟨y, hy⟩ := get_ex (show i < p.length by omega)
    obtain ⟨ad, eA, X⟩ := int_at hp hy
    refine E.GL.done ?_
    refine E.QG.code ?_
    refine E.CG.cond_t rfl ?_
    refine E.CG.skip ?_
    refine E.QG.code ?_
    refine E.CG.seq ?_
    refine E.CG.block ?_
    refine E.CG.seq ?_
    refine E.CG.heldH (none) (by kernel_rfl) fun v4 lD hh => ?_
    replace b2 := blk_below b2 lD
    replace L := below_step L lD
    clear lD
    have s_b2 := b2
    have s_L := L
    refine E.GH.take (i := 0) rfl (by kernel_rfl) (by kernel_rfl) (by kernel_rfl) (by intro c a d v w h; first | (cases d <;> exact h) | exact nomatch (show _ ∧ _ from h).1) rfl rfl rfl (fun w' hS => (E.Runs.move rfl rfl)) ?_
    refine E.GH.take (i := 1) rfl (by kernel_rfl) (by kernel_rfl) (by kernel_rfl) (by intro c a d v w h; first | (cases d <;> exact h) | exact nomatch (show _ ∧ _ from h).1) rfl rfl rfl (fun w' hS => (E.Runs.move rfl rfl)) ?_
    refine E.GH.take (i := 2) rfl (by kernel_rfl) (by kernel_rfl) (by kernel_rfl) (by intro c a d v w h; first | (cases d <;> exact h) | exact nomatch (show _ ∧ _ from h).1) rfl rfl rfl (fun w' hS => (E.Runs.indexAddrA (i := i) rfl rfl rfl hu22 z3 o3 (by omega) eA rfl)) ?_
    refine E.GH.take (i := 3) rfl (by kernel_rfl) (by kernel_rfl) (by kernel_rfl) (by intro c a d v w h; first | (cases d <;> exact h) | exact nomatch (show _ ∧ _ from h).1) rfl rfl rfl (fun w' hS => (E.Runs.load rfl rfl hu3 (pw_cell_below (below_step s_L (E.belowG hS)) X))) ?_
    refine E.GH.take (i := 4) rfl (by kernel_rfl) (by kernel_rfl) (by kernel_rfl) (by intro c a d v w h; first | (cases d <;> exact h) | exact nomatch (show _ ∧ _ from h).1) rfl rfl rfl (fun w' hS => (E.Runs.fieldAddr rfl rfl hu26 rfl (by assumption) rfl)) ?_
    refine E.GH.take (i := 5) rfl (by kernel_rfl) (by kernel_rfl) (by kernel_rfl) (by intro c a d v w h; first | (cases d <;> exact h) | exact nomatch (show _ ∧ _ from h).1) rfl rfl rfl (fun w' hS => (E.Runs.load1 rfl rfl hu23 rfl (by first | exact E.keeps hS (E.blkc (by assumption) rfl) (by first | exact E.nen | exact E.nes (by assumption) | exact E.nes (Ne.symm (by assumption))) | exact pw_cell_below (below_step s_L (E.belowG hS)) (by assumption)))) ?_
    refine E.GH.take (i := 6) rfl (by kernel_rfl) (by kernel_rfl) (by kernel_rfl) (by intro c a d v w h; first | (cases d <;> exact h) | exact nomatch (show _ ∧ _ from h).1) rfl rfl rfl (fun w' hS => (E.Runs.len rfl rfl hu23)) ?_
    refine E.GH.take (i := 7) rfl (by kernel_rfl) (by kernel_rfl) (by kernel_rfl) (by intro c a d v w h; first | (cases d <;> exact h) | exact nomatch (show _ ∧ _ from h).1) rfl rfl rfl (fun w' hS => (E.Runs.sub rfl rfl rfl (IntWalk.i64_in _ (by omega)))) ?_
    by_cases h20 : inR y (-1) (V.fs.length - 1)
    · refine E.GH.one (i := 8) (by kernel_rfl) rfl ?_
      refine E.GO.st rfl rfl rfl (E.ST.call rfl ent47 (E.evc rfl (E.evc rfl (E.evc rfl E.evn))) ((within_r y (-1) (V.fs.length - 1) true (iff_of_true rfl h20) _).mono ?_))
      rintro e w20 ⟨rfl, l20⟩
      refine ⟨_, rfl, hh.trans (E.gbB l20), ?_⟩
      replace hh := hh.trans (E.gbB l20)
      replace b2 := blk_below b2 l20
      replace L := below_step L l20
      refine E.GH.take (i := 9) rfl (by kernel_rfl) (by kernel_rfl) (by kernel_rfl) (by intro c a d v w h; first | (cases d <;> exact h) | exact nomatch (show _ ∧ _ from h).1) rfl rfl rfl (fun w' hS => (E.Runs.not rfl rfl)) ?_
      refine E.GH.done (by kernel_rfl) ?_
      refine E.QG.code ?_
      refine E.CG.cond_f rfl ?_
      refine E.CG.skip ?_
      refine E.QG.block_normal ?_
      refine E.QG.code ?_
      refine E.CG.list ?_
      refine E.GL.run rfl rfl rfl (E.Runs.move rfl rfl) ?_
      refine E.GL.run rfl rfl rfl (E.Runs.add rfl rfl rfl (IntWalk.i64_in _ (by omega))) ?_
      refine E.GL.run rfl rfl rfl (E.Runs.assign rfl rfl) ?_
      refine E.GL.done ?_
      exact E.QG.round (i + 1) (E.subc rfl (E.subc rfl (E.subc rfl E.subn))) ⟨by omega, all_more hok hy h20, b2, L⟩ (by omega)
    · refine E.GH.one (i := 8) (by kernel_rfl) rfl ?_
      refine E.GO.st rfl rfl rfl (E.ST.call rfl ent47 (E.evc rfl (E.evc rfl (E.evc rfl E.evn))) ((within_r y (-1) (V.fs.length - 1) false (iff_of_false Bool.false_ne_true h20) _).mono ?_))
      rintro e w20 ⟨rfl, l20⟩
      refine ⟨_, rfl, hh.trans (E.gbB l20), ?_⟩
      replace hh := hh.trans (E.gbB l20)
      replace b2 := blk_below b2 l20
      replace L := below_step L l20
      refine E.GH.take (i := 9) rfl (by kernel_rfl) (by kernel_rfl) (by kernel_rfl) (by intro c a d v w h; first | (cases d <;> exact h) | exact nomatch (show _ ∧ _ from h).1) rfl rfl rfl (fun w' hS => (E.Runs.not rfl rfl)) ?_
      refine E.GH.done (by kernel_rfl) ?_
      refine E.QG.code ?_
      refine E.CG.cond_t rfl ?_
      refine E.CG.seq ?_
      refine E.CG.list ?_
      refine E.GL.run rfl rfl rfl (E.Runs.assign rfl rfl) ?_
      refine E.GL.done ?_
      refine E.QG.code ?_
      refine E.CG.ret ?_
      refine E.QG.block_ret ?_
      refine E.QG.pass_ret ?_
      refine E.QG.pass_ret ?_
      refine E.QG.block_ret ?_
      refine E.QG.pass_ret ?_
      exact E.QG.result rfl rfl ⟨by rw [bool_no hb (fun k => h20 (k.2 y (mem_of hy)))], L⟩
  · refine E.GL.done ?_
    refine E.QG.code ?_
    refine E.CG.cond_f rfl ?_
    refine E.CG.exit ?_
    refine E.QG.pass_exit ?_
    refine E.QG.pass_exit ?_
    refine E.QG.block_here ?_
    refine E.QG.code ?_
    refine E.CG.seq ?_
    refine E.CG.list ?_
    refine E.GL.run rfl rfl rfl (E.Runs.move rfl rfl) ?_
    refine E.GL.run rfl rfl rfl (E.Runs.len rfl rfl hu22) ?_
    refine E.GL.run rfl rfl rfl (E.Runs.loads (cs := [.int .i64 V.d, .slice m.A V.rs.length m.a, .int .i64 V.h, .slice m.B V.fs.length m.b, .slice m.C V.ds.length m.c]) rfl rfl hu26 rfl info26s (blk_cells b2)) ?_
    refine E.GL.st rfl rfl rfl (E.ST.call rfl ent35 (E.evc rfl E.evn) ((slots_r V m _ ok.d ok.r ok.h).mono ?_))
    rintro e w25 ⟨rfl, l25⟩
    refine ⟨_, rfl, ?_⟩
    replace b2 := blk_below b2 l25
    replace L := below_step L l25
    refine E.GL.cmp rfl rfl rfl (fun _ h => (E.Runs.eql rfl rfl rfl h)) (fun h26 => ?_) (fun h26 => ?_)
    · refine E.GL.run rfl rfl rfl (E.Runs.assign rfl rfl) ?_
      refine E.GL.done ?_
      refine E.QG.code ?_
      refine E.CG.ret ?_
      exact E.QG.result rfl rfl ⟨by rw [hb.mpr ⟨by omega, all_done hok (by omega)⟩], L⟩
    · refine E.GL.run rfl rfl rfl (E.Runs.assign rfl rfl) ?_
      refine E.GL.done ?_
      refine E.QG.code ?_
      refine E.CG.ret ?_
      exact E.QG.result rfl rfl ⟨by rw [bool_no hb (fun k => by have := k.1; omega)], L⟩

theorem brA_yes {V : Wk} {p : List Int} (ok : WOk V) (hP : IsP V p) : brA V p = brk V p V.ds.length := by unfold brA; rw [if_pos (chkP_yes ok hP)]
end Go.Proofs.Ytdiambcjghlffaa.T
namespace Go.Proofs.Ytdiambcjghlffaa.T
open Go.RowKit Go.Proofs.YtdiambcjghlffaaW.PrintWords Go.Proofs.YtdiambcjghlffaaW.PrintMore
open Go.Proofs.Ytdiambcjghlffaa.P
set_option linter.unusedVariables false
set_option linter.unusedSimpArgs false
/-- A week with other deals. -/
def wd (V : Wk) (l : List S45) : Wk := ⟨V.d, V.rs, V.h, V.fs, l⟩
section
variable {V : Wk} {l : List S45} {p : List Int}
theorem wd_isP : IsP (wd V l) p ↔ IsP V p := Iff.rfl
theorem wd_shN (x : S45) (day h : Nat) : ∀ r, shN (wd V l) x p day h r = shN V x p day h r
  | 0 => rfl
  | r + 1 => by unfold shN; rw [wd_shN x day h r]; rfl
theorem wd_sh (x : S45) (day h : Nat) : sh (wd V l) x p day h = sh V x p day h := wd_shN x day h _
theorem wd_hsN (x : S45) (day : Nat) : ∀ k, hsN (wd V l) x p day k = hsN V x p day k
  | 0 => rfl
  | k + 1 => by unfold hsN; rw [wd_hsN x day k, wd_sh]
theorem wd_dsN (x : S45) : ∀ n, dsN (wd V l) x p n = dsN V x p n
  | 0 => rfl
  | n + 1 => by unfold dsN; rw [wd_dsN x n, wd_hsN]
theorem wd_cln (x : S45) (day : Nat) : Cln (wd V l) x p day ↔ Cln V x p day := Iff.rfl
theorem wd_keep (x : S45) : Keep (wd V l) x p ↔ Keep V x p := by
  unfold Keep
  simp only [wd_dsN, wd_cln, wd_sh]
theorem wd_tkS : ∀ i, tkS (wd V l) p i = tkS V p i
  | 0 => rfl
  | i + 1 => by unfold tkS; rw [wd_tkS i]; rfl
theorem wd_takes : takes (wd V l) p = takes V p := wd_tkS _
theorem wd_shp (h : Shp V) (hl : l.length ≤ 8) : Shp (wd V l) := ⟨h.d, h.r, h.rs, h.h, h.s, h.f, hl, h.fs⟩
theorem wd_ok (h : WOk V) (hl : l.length ≤ 8) (hd : ∀ x ∈ l, DOk V x) : WOk (wd V l) := ⟨wd_shp h.s hl, hd⟩
theorem wd_sz (h : Sz V) (hl : l.length ≤ 1000000) : Sz (wd V l) := ⟨h.r, h.f, h.c, hl⟩
end
/-- All deals are kept. -/
theorem kp_deals {V : Wk} {p : List Int} : Kp V (allS V) p ↔ ∀ x ∈ V.ds, Keep V x p := by
  rw [kp_all]
  constructor
  · intro h x hx
    obtain ⟨i, hi⟩ := List.mem_iff_getElem?.mp hx
    exact Classical.byContradiction fun q => h i (List.getElem?_eq_some_iff.1 hi).1 ((bad_iff hi).mpr q)
  · intro h i hi hb
    obtain ⟨x, hx⟩ := get_ex hi
    exact (bad_iff hx).mp hb (h x (mem_of hx))
/-- The greatest takings of some deals kept. -/
def MxD (V : Wk) (l : List S45) : Option Int → Prop
  | none => ∀ p, IsP V p → ¬ ∀ x ∈ l, Keep V x p
  | some m => (∃ p, IsP V p ∧ (∀ x ∈ l, Keep V x p) ∧ takes V p = m) ∧ ∀ p, IsP V p → (∀ x ∈ l, Keep V x p) → takes V p ≤ m
theorem mx_deals {V : Wk} {l : List S45} : ∀ {r : Option Int}, IsMx (wd V l) (allS (wd V l)) r ↔ MxD V l r
  | none => by
    unfold IsMx MxD
    simp only [kp_deals, wd_isP, wd_keep]
    exact Iff.rfl
  | some m => by
    unfold IsMx MxD
    simp only [kp_deals, wd_isP, wd_keep, wd_takes]
    exact Iff.rfl
theorem mx_set {V : Wk} {l : List S45} {s : Nat} (h : ∀ p, Kp V s p ↔ ∀ x ∈ l, Keep V x p) : ∀ {r : Option Int}, IsMx V s r ↔ MxD V l r
  | none => by unfold IsMx MxD; simp only [h]
  | some m => by unfold IsMx MxD; simp only [h]
theorem mem_erase {α : Type} : ∀ (l : List α) (d : Nat) (x : α), x ∈ l.eraseIdx d ↔ ∃ i, i ≠ d ∧ l[i]? = some x
  | [], d, x => by simp
  | a :: l, 0, x => by
    rw [List.eraseIdx_cons_zero]
    constructor
    · intro h
      obtain ⟨i, hi⟩ := List.mem_iff_getElem?.mp h
      exact ⟨i + 1, by omega, by simpa using hi⟩
    · rintro ⟨i, h1, h2⟩
      rcases i with _ | i
      · exact absurd rfl h1
      · exact List.mem_of_getElem? (by simpa using h2)
  | a :: l, d + 1, x => by
    rw [List.eraseIdx_cons_succ, List.mem_cons, mem_erase l d x]
    constructor
    · rintro (h | ⟨i, h1, h2⟩)
      · exact ⟨0, by omega, by simp [h]⟩
      · exact ⟨i + 1, by omega, by simpa using h2⟩
    · rintro ⟨i, h1, h2⟩
      rcases i with _ | i
      · simp at h2; exact .inl h2.symm
      · exact .inr ⟨i, by omega, by simpa using h2⟩
theorem erase_eq {α : Type} (l : List α) (d : Nat) : l.take d ++ l.drop (d + 1) = l.eraseIdx d := (List.eraseIdx_eq_take_drop_succ l d).symm
end Go.Proofs.Ytdiambcjghlffaa.T
namespace Go.Proofs.Ytdiambcjghlffaa.T
open Go.RowKit Go.Proofs.YtdiambcjghlffaaW.PrintWords Go.Proofs.YtdiambcjghlffaaW.PrintMore
open Go.Proofs.Ytdiambcjghlffaa.P
set_option linter.unusedVariables false
set_option linter.unusedSimpArgs false

theorem WR.grown {bs : Nat} {w w' : World} {V : Wk} {m : Wa} {g : Nat} (h : WR bs w V m) (hg : w.grownBy w' (some g)) (hb : ∃ cs, w.heap[g]? = some (.cells cs 26 (0, 0))) : WR bs w' V m := by
  obtain ⟨cs, hb⟩ := hb
  obtain ⟨xs, h1, h2⟩ := h.fs
  exact ⟨Kd.R_grown1 h.rs rfl hg (Kd.R_ne h.rs hb (by decide)), ⟨xs, Kd.R_grown1 h1 rfl hg (Kd.R_ne h1 hb (by decide)), h2.over hb (by decide) hg⟩, Kd.R_grown1 h.ds rfl hg (Kd.R_ne h.ds hb (by decide))⟩
end Go.Proofs.Ytdiambcjghlffaa.T
namespace Go.Proofs.Ytdiambcjghlffaa.T
open Go.RowKit Go.Proofs.YtdiambcjghlffaaW.PrintWords Go.Proofs.YtdiambcjghlffaaW.PrintMore
open Go.Proofs.Ytdiambcjghlffaa.P
set_option linter.unusedVariables false
set_option linter.unusedSimpArgs false

/-- The deals by their numbers. -/
def dsOf (V : Wk) (l : List Int) : List S45 := l.map fun i => V.ds.getD i.toNat z45
/-- A week with some of its deals. -/
def onl (V : Wk) (l : List Int) : Wk := wd V (dsOf V l)
theorem dsOf_len (V : Wk) (l : List Int) : (dsOf V l).length = l.length := by simp [dsOf]
theorem dsOf_app (V : Wk) (l k : List Int) : dsOf V (l ++ k) = dsOf V l ++ dsOf V k := by simp [dsOf]
/-- The parts of a week but its deals, in rows of our own. -/
structure WF (bs : Nat) (w : World) (V : Wk) (m : Wa) : Prop where
  rs : Kd.R kI 3 w bs (fun _ => True) (.slice m.A V.rs.length m.a) V.rs
  fs : ∃ xs, Kd.R kFH 49 w bs (fun _ => True) (.slice m.B V.fs.length m.b) xs ∧ Mid w bs V.fs.length xs V.fs
theorem WR.wf {bs : Nat} {w : World} {V : Wk} {m : Wa} (h : WR bs w V m) : WF bs w V m := ⟨h.rs, h.fs⟩
theorem WF.below {bs : Nat} {w w' : World} {V : Wk} {m : Wa} (h : WF bs w V m) (l : Below w.heap.size w w') : WF bs w' V m := by
  obtain ⟨xs, h1, h2⟩ := h.fs
  exact ⟨Kd.R_below h.rs l, ⟨xs, Kd.R_below h1 l, h2.below l⟩⟩
theorem WF.lower {bs bs' : Nat} {w : World} {V : Wk} {m : Wa} (h : WF bs w V m) (hb : bs' ≤ bs) : WF bs' w V m := by
  obtain ⟨xs, q1, q2⟩ := h.fs
  exact ⟨Kd.R_lower h.rs hb, ⟨xs, Kd.R_lower q1 hb, ⟨q2.len, fun j x f hx hf => ⟨(q2.row j x f hx hf).1, fun hj => Kd.R_lower ((q2.row j x f hx hf).2 hj) hb⟩⟩⟩⟩
theorem WF.grown {bs : Nat} {w w' : World} {V : Wk} {m : Wa} {g : Nat} (h : WF bs w V m) (hg : w.grownBy w' (some g)) (hb : ∃ cs, w.heap[g]? = some (.cells cs 26 (0, 0))) : WF bs w' V m := by
  obtain ⟨cs, hb⟩ := hb
  obtain ⟨xs, h1, h2⟩ := h.fs
  exact ⟨Kd.R_grown1 h.rs rfl hg (Kd.R_ne h.rs hb (by decide)), ⟨xs, Kd.R_grown1 h1 rfl hg (Kd.R_ne h1 hb (by decide)), h2.over hb (by decide) hg⟩⟩
theorem WF.over {bs b : Nat} {w w' : World} {V : Wk} {m : Wa} {u : Value} {ys : List S45} (h : WF bs w V m) (hu : Kd.R k45 45 w b (fun _ => True) u ys) (hg : w.grownBy w' u.ownBlock) : WF bs w' V m := by
  obtain ⟨xs, h1, h2⟩ := h.fs
  refine ⟨E.R_over' h.rs hu (by decide) hg, ⟨xs, E.R_over' h1 hu (by decide) hg, ?_⟩⟩
  exact ⟨h2.len, fun j x f hx hf => ⟨(h2.row j x f hx hf).1, fun hj => E.R_over' ((h2.row j x f hx hf).2 hj) hu (by decide) hg⟩⟩
set_option maxRecDepth 100000 in
theorem lit24_1 (a b c d e f g h : Int) (W : World) : (Instr.buildSlice 24 1 #[(0, .agg #[.int .i64 a, .int .i64 b, .int .i64 c, .int .i64 d, .int .i64 e, .int .i64 f, .int .i64 g, .int .i64 h])]).run Try.prog W = .ok (.slice (some ⟨W.heap.size, 0, none⟩) 1 1) (W.alloc (.cells #[.int .i64 a, .int .i64 b, .int .i64 c, .int .i64 d, .int .i64 e, .int .i64 f, .int .i64 g, .int .i64 h] 45 (0, 0))) := by
  have hu24 := Try.underlying24
  go_simp
theorem reps45 (W : World) (base : Nat) (x : S45) : Reps (k45.M W base (fun _ => False)) k45.sz [x] (dC x) := by
  have := Reps.snoc (Reps.none (k45.M W base fun _ => False) k45.sz) (p := x) (c := dC x) (k45_mkM _ _ _ x) rfl
  simpa using this
set_option maxRecDepth 100000 in
set_option maxHeartbeats 8000000 in

theorem only_calls (V : Wk) (m : Wa) (l : List Int) (A : Option Addr) (c : Nat) (w : World) (hV : WM w V m) (hs : Sz V) (hl : Kd.C kI w A l.length l) (hln : l.length ≤ 1000000) (hin : ∀ x ∈ l, 0 ≤ x ∧ x < V.ds.length) :
    Calls Try.prog 23 #[wv V m, .slice A l.length c] w fun e w' => ∃ m', e = .returned (wv (onl V l) m') ∧ WR w.heap.size w' (onl V l) m' ∧ Below w.heap.size w w' := by
  have hsd := hs.d
  have hu3 := Try.underlying3
  have hu22 := Try.underlying22
  have hu24 := Try.underlying24
  have hu26 := Try.underlying26
  have hu45 := Try.underlying45
  obtain ⟨z3, o3⟩ := info_some info3s (by decide)
  obtain ⟨z24, o24⟩ := info_some info24s (by decide)
  obtain ⟨z26, o26⟩ := info_some info26s (by decide)
  obtain ⟨z45, o45⟩ := info_some info45s (by decide)
  refine E.enter (N := 30) Try.func23 rfl Try.ntmps23 (args := [wv V m, .slice A l.length c]) (by simp) ?_
  have L := Below.refl w.heap.size w
  refine E.CG.seq ?_
  refine E.CG.list ?_
  refine E.GL.st rfl rfl rfl (E.ST.box rfl rfl fun g2 w2 e2 b2 l2 => ?_)
  have h2_L : w.heap.size ≤ g2 := by rw [e2]; exact L.size
  replace L := below_step L l2
  refine E.GL.st rfl rfl rfl (E.ST.alloc rfl info26z fun g4 w4 e4 b4 l4 => ?_)
  have h4_L : w.heap.size ≤ g4 := by rw [e4]; exact L.size
  have n4_b2 : g2 ≠ g4 := by have := blk_lt b2; omega
  replace b2 := blk_below b2 l4
  replace L := below_step L l4
  refine E.GL.done ?_
  refine E.QG.code ?_
  refine E.CG.seq ?_
  refine E.CG.list ?_
  refine E.GL.run rfl rfl rfl (E.Runs.loads (cs := [.int .i64 V.d, .slice m.A V.rs.length m.a, .int .i64 V.h, .slice m.B V.fs.length m.b, .slice m.C V.ds.length m.c]) rfl rfl hu26 rfl info26s (blk_cells b2)) ?_
  have hL7 := L.size
  refine E.GL.st rfl rfl rfl (E.ST.call rfl ent14 (E.evc rfl E.evn) ((copy_calls V m _ (hV.below L) hs).mono ?_))
  rintro e w8 ⟨mo, rfl, hR, l8⟩
  refine ⟨_, rfl, ?_⟩
  replace b2 := blk_below b2 l8
  replace b4 := blk_below b4 l8
  replace L := below_step L l8
  have hF : WF w.heap.size _ V mo := hR.wf.lower hL7
  refine E.GL.st rfl rfl rfl (E.ST.alloc rfl info26z fun g5 w5 e5 b5 l5 => ?_)
  have h5_L : w.heap.size ≤ g5 := by rw [e5]; exact L.size
  have n5_b2 : g2 ≠ g5 := by have := blk_lt b2; omega
  have n5_b4 : g4 ≠ g5 := by have := blk_lt b4; omega
  replace b2 := blk_below b2 l5
  replace b4 := blk_below b4 l5
  replace hF := hF.below l5
  replace L := below_step L l5
  refine E.GL.store_whole rfl rfl rfl rfl rfl b5 rfl info26s (week_one _ _ _ _ _ _ _ _ _ _ _) fun wS1_3 c5 lS1_3 => ?_
  replace b2 := blk_grown b2 lS1_3 (E.nes (by first | assumption | exact Ne.symm (by assumption)))
  replace b4 := blk_grown b4 lS1_3 (E.nes (by first | assumption | exact Ne.symm (by assumption)))
  replace hF := hF.grown lS1_3 (by first | exact ⟨_, b5⟩ | exact ⟨_, b4⟩ | fail)
  replace L := E.below_own L h5_L lS1_3
  replace b5 := c5
  clear c5
  refine E.GL.done ?_
  refine E.QG.code ?_
  refine E.CG.seq ?_
  refine E.CG.list ?_
  refine E.GL.run rfl rfl rfl (E.Runs.fieldAddr rfl rfl hu26 rfl (by assumption) rfl) ?_
  refine E.GL.sn rfl rfl (E.ST.storeSl (cs := [.int .i64 V.d, .slice mo.A V.rs.length mo.a, .int .i64 V.h, .slice mo.B V.fs.length mo.b, .slice mo.C V.ds.length mo.c]) rfl z24 o24 rfl rfl b5 rfl rfl fun wS c5 lS => ?_)
  replace b2 := blk_grown b2 lS (E.nes (by first | assumption | exact Ne.symm (by assumption)))
  replace b4 := blk_grown b4 lS (E.nes (by first | assumption | exact Ne.symm (by assumption)))
  replace hF := hF.grown lS ⟨_, b5⟩
  replace L := E.below_own L h5_L lS
  replace b5 := c5
  refine E.GL.done ?_
  refine E.QG.code ?_
  refine E.CG.seq ?_
  refine E.CG.seq ?_
  refine E.CG.list ?_
  refine E.GL.run rfl rfl rfl (E.Runs.assign rfl rfl) ?_
  refine E.GL.done ?_
  refine E.QG.code ?_
  refine E.CG.block ?_
  have s4_b2 := b2
  have s4_b4 := b4
  have s4_b5 := b5
  have s4_L := L
  refine E.CG.loop2 (fun (i : Nat) (v5 : Value) => [(1, .slice A l.length c), (2, .pointer (some ⟨g2, 0, none⟩)), (4, .pointer (some ⟨g4, 0, none⟩)), (5, .pointer (some ⟨g5, 0, none⟩)), (6, .int .i64 (i : Int))]) (fun i v5 w' => i ≤ l.length ∧ w'.heap[g2]? = some (.cells #[.int .i64 V.d, .slice m.A V.rs.length m.a, .int .i64 V.h, .slice m.B V.fs.length m.b, .slice m.C V.ds.length m.c] 26 (0, 0)) ∧ w'.heap[g4]? = some (.cells #[.int .i64 0, .slice none 0 0, .int .i64 0, .slice none 0 0, .slice none 0 0] 26 (0, 0)) ∧ w'.heap[g5]? = some (.cells #[.int .i64 V.d, .slice mo.A V.rs.length mo.a, .int .i64 V.h, .slice mo.B V.fs.length mo.b, v5] 26 (0, 0)) ∧ Kd.R k45 45 w' w.heap.size (fun _ => True) v5 (dsOf V (l.take i)) ∧ WF w.heap.size w' V mo ∧ Below w.heap.size w w') (fun i v5 => l.length - i) 0 (.slice none 0 0) (E.subc rfl (E.subc rfl (E.subc rfl (E.subc rfl (E.subc rfl E.subn))))) ⟨Nat.zero_le _, b2, b4, b5, Kd.R_nil _ _ _ _ _, hF, L⟩ ?_
  rintro i v5 w4 ⟨hi, b2, b4, b5, rD, hF, L⟩
  refine E.CG.seq ?_
  refine E.CG.seq ?_
  refine E.CG.list ?_
  refine E.GL.run rfl rfl rfl (E.Runs.move rfl rfl) ?_
  refine E.GL.run rfl rfl rfl (E.Runs.move rfl rfl) ?_
  refine E.GL.run rfl rfl rfl (E.Runs.len rfl rfl hu22) ?_
  refine E.GL.cmp rfl rfl rfl (fun _ h => (E.Runs.lss rfl rfl rfl h)) (fun h13 => ?_) (fun h13 => ?_)
  · obtain ⟨y, hy⟩ := get_ex (show i < l.length by omega)
    obtain ⟨hy0, hy1⟩ := hin y (mem_of hy)
    obtain ⟨Y, rfl⟩ : ∃ Y : Nat, y = Y := ⟨y.toNat, by omega⟩
    obtain ⟨ady, eAy, XY⟩ := int_at hl hy
    obtain ⟨x, hx⟩ := get_ex (show Y < V.ds.length by omega)
    obtain ⟨ad, eA, XD⟩ := deal_at hV.ds hx
    have hdx : dsOf V (l.take (i + 1)) = dsOf V (l.take i) ++ [x] := by
      rw [List.take_add_one, hy, dsOf_app]
      show _ ++ [V.ds.getD ((Y : Int)).toNat Go.Proofs.Ytdiambcjghlffaa.P.z45] = _
      rw [Int.toNat_natCast, ds_of hx]
    have htl : (dsOf V (l.take i)).length ≤ 1000000 := by rw [dsOf_len, List.length_take]; omega
    refine E.GL.done ?_
    refine E.QG.code ?_
    refine E.CG.cond_t rfl ?_
    refine E.CG.skip ?_
    refine E.QG.code ?_
    refine E.CG.seq ?_
    refine E.CG.block ?_
    refine E.CG.heldJ 13 (fun v W => v.grownBy W (v5.ownBlock)) (fun _ _ => True) (by kernel_rfl) (by kernel_rfl) (fun v => World.grownBy.refl _ _) fun v6 lD => ?_
    replace b2 := blk_below b2 lD
    replace b4 := blk_below b4 lD
    replace b5 := blk_below b5 lD
    replace rD := Kd.R_below rD lD
    replace hF := hF.below lD
    replace L := below_step L lD
    have lD6 := lD
    clear lD
    have hbase : ∀ k, v5.ownBlock = some k → w.heap.size ≤ k := Kd.R_base rD
    have ne5 : some g5 ≠ v5.ownBlock := Kd.R_ne rD b5 (by decide)
    have ne2 : some g2 ≠ v5.ownBlock := Kd.R_ne rD b2 (by decide)
    have s_b2 := b2
    have s_b4 := b4
    have s_b5 := b5
    have s_L := L
    have s_hF := hF
    have hh : v6.grownBy v6 (v5.ownBlock) := World.grownBy.refl _ _
    refine E.GJ.take1 (i := 0) rfl (by kernel_rfl) (by kernel_rfl) (by kernel_rfl) (by kernel_rfl) rfl (by kernel_rfl) (by kernel_rfl) (by intro c a d v w h; first | (cases d <;> exact h) | exact nomatch (show _ ∧ _ from h).1) rfl rfl rfl (fun w' hS => (E.Runs.fieldAddr rfl rfl hu26 rfl (by assumption) rfl)) ?_
    refine E.GJ.take1 (i := 1) rfl (by kernel_rfl) (by kernel_rfl) (by kernel_rfl) (by kernel_rfl) rfl (by kernel_rfl) (by kernel_rfl) (by intro c a d v w h; first | (cases d <;> exact h) | exact nomatch (show _ ∧ _ from h).1) rfl rfl rfl (fun w' hS => (E.Runs.load1 rfl rfl hu24 rfl (E.keeps hS (E.blkc s_b5 rfl) ne5))) ?_
    refine E.GJ.take1 (i := 2) rfl (by kernel_rfl) (by kernel_rfl) (by kernel_rfl) (by kernel_rfl) rfl (by kernel_rfl) (by kernel_rfl) (by intro c a d v w h; first | (cases d <;> exact h) | exact nomatch (show _ ∧ _ from h).1) rfl rfl rfl (fun w' hS => (E.Runs.fieldAddr rfl rfl hu26 rfl (by assumption) rfl)) ?_
    refine E.GJ.take1 (i := 3) rfl (by kernel_rfl) (by kernel_rfl) (by kernel_rfl) (by kernel_rfl) rfl (by kernel_rfl) (by kernel_rfl) (by intro c a d v w h; first | (cases d <;> exact h) | exact nomatch (show _ ∧ _ from h).1) rfl rfl rfl (fun w' hS => (E.Runs.load1 rfl rfl hu24 rfl (E.keeps hS (E.blkc s_b2 rfl) ne2))) ?_
    refine E.GJ.take1 (i := 4) rfl (by kernel_rfl) (by kernel_rfl) (by kernel_rfl) (by kernel_rfl) rfl (by kernel_rfl) (by kernel_rfl) (by intro c a d v w h; first | (cases d <;> exact h) | exact nomatch (show _ ∧ _ from h).1) rfl rfl rfl (fun w' hS => (E.Runs.move rfl rfl)) ?_
    refine E.GJ.take1 (i := 5) rfl (by kernel_rfl) (by kernel_rfl) (by kernel_rfl) (by kernel_rfl) rfl (by kernel_rfl) (by kernel_rfl) (by intro c a d v w h; first | (cases d <;> exact h) | exact nomatch (show _ ∧ _ from h).1) rfl rfl rfl (fun w' hS => (E.Runs.move rfl rfl)) ?_
    refine E.GJ.take1 (i := 6) rfl (by kernel_rfl) (by kernel_rfl) (by kernel_rfl) (by kernel_rfl) rfl (by kernel_rfl) (by kernel_rfl) (by intro c a d v w h; first | (cases d <;> exact h) | exact nomatch (show _ ∧ _ from h).1) rfl rfl rfl (fun w' hS => (E.Runs.indexAddrA (i := i) rfl rfl rfl hu22 z3 o3 (by omega) eAy rfl)) ?_
    refine E.GJ.take1 (i := 7) rfl (by kernel_rfl) (by kernel_rfl) (by kernel_rfl) (by kernel_rfl) rfl (by kernel_rfl) (by kernel_rfl) (by intro c a d v w h; first | (cases d <;> exact h) | exact nomatch (show _ ∧ _ from h).1) rfl rfl rfl (fun w' hS => (E.Runs.load rfl rfl hu3 (pw_cell_below (s_L.grown hS s_L.size hbase) XY))) ?_
    refine E.GJ.take1 (i := 8) rfl (by kernel_rfl) (by kernel_rfl) (by kernel_rfl) (by kernel_rfl) rfl (by kernel_rfl) (by kernel_rfl) (by intro c a d v w h; first | (cases d <;> exact h) | exact nomatch (show _ ∧ _ from h).1) rfl rfl rfl (fun w' hS => (E.Runs.indexAddrA (i := Y) rfl rfl rfl hu24 z45 o45 (by omega) eA rfl)) ?_
    refine E.GJ.take1 (i := 9) rfl (by kernel_rfl) (by kernel_rfl) (by kernel_rfl) (by kernel_rfl) rfl (by kernel_rfl) (by kernel_rfl) (by intro c a d v w h; first | (cases d <;> exact h) | exact nomatch (show _ ∧ _ from h).1) rfl rfl rfl (fun w' hS => (E.Runs.loads (cs := [.int .i64 x.f0, .int .i64 x.f1, .int .i64 x.f2, .int .i64 x.f3, .int .i64 x.f4, .int .i64 x.f5, .int .i64 x.f6, .int .i64 x.f7]) rfl rfl hu45 rfl info45s (fun j v hv => pw_cell_below (s_L.grown hS s_L.size hbase) (XD j v hv)))) ?_
    refine E.GJ.one (i := 10) (by kernel_rfl) (E.OJ.st rfl rfl rfl rfl (E.ST.litAt k45 v6.heap.size (w0 := v6) (ys := [x]) (inner := dC x) rfl rfl (E.epc rfl E.epn) (lit24_1 _ _ _ _ _ _ _ _) (reps45 _ _ _) (Below.refl _ _) (Nat.le_refl _) (by simp) fun u26 w26 r26 k26 l26 n26 => ⟨(E.SJ.before (by kernel_rfl)).mpr (E.gbB l26), ?_⟩))
    have gb26 : v6.grownBy w26 v5.ownBlock := E.gbB l26
    replace b2 := blk_below s_b2 l26
    replace b4 := blk_below s_b4 l26
    replace b5 := blk_below s_b5 l26
    replace rD := Kd.R_below rD l26
    replace hF := s_hF.below l26
    replace L := below_step s_L l26
    obtain ⟨A26, c26, hv26⟩ := Kd.R_slice r26
    subst hv26
    refine E.GJ.one (i := 11) (by kernel_rfl) (E.OJ.st rfl rfl rfl rfl (E.ST.appendRows k45 w.heap.size (w0 := w) (s := .tmp 17) (x := .tmp 26) rfl hu24 info45 rfl (by decide) (by decide) rfl rfl rD (Kd.R_reads' r26).2.2 made45 L L.size (by simp only [List.length_singleton]; omega) fun u27 w27 r27 k27 g27 => ⟨(E.SJ.before (by kernel_rfl)).mpr (gb26.trans g27), ?_⟩))
    replace b2 := blk_grown b2 g27 (Kd.R_ne rD b2 (by decide))
    replace b4 := blk_grown b4 g27 (Kd.R_ne rD b4 (by decide))
    replace b5 := blk_grown b5 g27 (Kd.R_ne rD b5 (by decide))
    replace hF := hF.over rD g27
    replace L := k27
    obtain ⟨A27, c27, hv27⟩ := Kd.R_slice r27
    subst hv27
    refine E.GJ.take1 (i := 12) rfl (by kernel_rfl) (by kernel_rfl) (by kernel_rfl) (by kernel_rfl) rfl (by kernel_rfl) (by kernel_rfl) (by intro c a d v w h; first | (cases d <;> exact h) | exact nomatch (show _ ∧ _ from h).1) rfl rfl rfl (fun w' hS => (E.Runs.fieldAddr rfl rfl hu26 rfl (by assumption) rfl)) ?_
    refine E.GJ.one (i := 13) (by kernel_rfl) (E.OJ.sn rfl rfl rfl (E.ST.storeSl (cs := [.int .i64 V.d, .slice mo.A V.rs.length mo.a, .int .i64 V.h, .slice mo.B V.fs.length mo.b, v5]) rfl z24 o24 rfl rfl b5 rfl rfl fun wS c5 lS => ⟨(E.SJ.behind (by kernel_rfl)).mpr trivial, ?_⟩))
    replace b2 := blk_grown b2 lS (E.nes (by first | assumption | exact Ne.symm (by assumption)))
    replace b4 := blk_grown b4 lS (E.nes (by first | assumption | exact Ne.symm (by assumption)))
    replace r27 := Kd.R_grown1 r27 rfl lS (Kd.R_ne r27 b5 (by decide))
    replace hF := hF.grown lS ⟨_, b5⟩
    replace L := E.below_own L h5_L lS
    replace b5 := c5
    refine E.GJ.done (by kernel_rfl) ?_
    refine E.QG.block_normal ?_
    refine E.QG.code ?_
    refine E.CG.list ?_
    refine E.GL.run rfl rfl rfl (E.Runs.move rfl rfl) ?_
    refine E.GL.run rfl rfl rfl (E.Runs.add rfl rfl rfl (IntWalk.i64_in _ (by omega))) ?_
    refine E.GL.run rfl rfl rfl (E.Runs.assign rfl rfl) ?_
    refine E.GL.done ?_
    exact E.QG.round2 (d := .slice none 0 0) (i + 1) _ (E.subc rfl (E.subc rfl (E.subc rfl (E.subc rfl (E.subc rfl E.subn))))) ⟨by omega, b2, b4, b5, by rw [hdx]; exact r27, hF, L⟩ (by omega)
  · obtain rfl : i = l.length := by omega
    rw [List.take_length] at rD
    obtain ⟨A6, c6, hv6⟩ := Kd.R_slice rD
    subst hv6
    refine E.GL.done ?_
    refine E.QG.code ?_
    refine E.CG.cond_f rfl ?_
    refine E.CG.exit ?_
    refine E.QG.pass_exit ?_
    refine E.QG.pass_exit ?_
    refine E.QG.block_here ?_
    refine E.QG.code ?_
    refine E.CG.seq ?_
    refine E.CG.list ?_
    refine E.GL.run rfl rfl rfl (E.Runs.loads (cs := [.int .i64 V.d, .slice mo.A V.rs.length mo.a, .int .i64 V.h, .slice mo.B V.fs.length mo.b, .slice A6 (dsOf V l).length c6]) rfl rfl hu26 rfl info26s (blk_cells b5)) ?_
    refine E.GL.store_whole rfl rfl rfl rfl rfl b4 rfl info26s (week_one _ _ _ _ _ _ _ _ _ _ _) fun wS7_1 c4 lS7_1 => ?_
    replace b2 := blk_grown b2 lS7_1 (E.nes (by first | assumption | exact Ne.symm (by assumption)))
    replace b5 := blk_grown b5 lS7_1 (E.nes (by first | assumption | exact Ne.symm (by assumption)))
    replace rD := Kd.R_grown1 rD rfl lS7_1 (by first | assumption | exact Kd.R_ne rD b4 (by decide))
    replace hF := hF.grown lS7_1 (by first | exact ⟨_, b5⟩ | exact ⟨_, b4⟩ | fail)
    replace L := E.below_own L h4_L lS7_1
    replace b4 := c4
    clear c4
    refine E.GL.done ?_
    refine E.QG.code ?_
    refine E.CG.ret ?_
    exact E.QG.result_c rfl rfl b4 hu26 rfl info26s ⟨⟨mo.A, mo.a, mo.B, mo.b, A6, c6⟩, rfl, ⟨hF.rs, hF.fs, rD⟩, L⟩

end Go.Proofs.Ytdiambcjghlffaa.T
namespace Go.Proofs.Ytdiambcjghlffaa.T
open Go.RowKit Go.Proofs.YtdiambcjghlffaaW.PrintWords Go.Proofs.YtdiambcjghlffaaW.PrintMore
open Go.Proofs.Ytdiambcjghlffaa.P
set_option linter.unusedVariables false
set_option linter.unusedSimpArgs false
theorem bit_div (s i : Nat) : s / 2 ^ i % 2 = 1 ↔ s.testBit i = true := by rw [Nat.testBit_eq_decide_div_mod_eq, decide_eq_true_eq]
theorem mem_elN {s n : Nat} {x : Int} : x ∈ elN s n ↔ ∃ i : Nat, i < n ∧ s.testBit i = true ∧ x = i := by
  unfold elN
  simp only [List.mem_map, List.mem_filter, List.mem_range, decide_eq_true_eq, bit_div]
  constructor
  · rintro ⟨i, ⟨h1, h2⟩, h3⟩; exact ⟨i, h1, h2, h3.symm⟩
  · rintro ⟨i, h1, h2, h3⟩; exact ⟨i, ⟨h1, h2⟩, h3.symm⟩
theorem elN_asc (s n : Nat) : (elN s n).Pairwise (· < ·) := by
  unfold elN
  refine List.Pairwise.map _ (fun a b (h : a < b) => (by omega : (a : Int) < (b : Int))) ?_
  exact List.Pairwise.filter _ List.pairwise_lt_range
theorem asc_at {l : List Int} (h : l.Pairwise (· < ·)) {i j : Nat} {a b : Int} (hi : l[i]? = some a) (hj : l[j]? = some b) (hij : i < j) : a < b := by
  obtain ⟨h1, rfl⟩ := List.getElem?_eq_some_iff.1 hi
  obtain ⟨h2, rfl⟩ := List.getElem?_eq_some_iff.1 hj
  exact List.pairwise_iff_getElem.mp h i j h1 h2 hij
theorem asc_ge {l : List Int} (h : l.Pairwise (· < ·)) (h0 : ∀ x ∈ l, 0 ≤ x) : ∀ (i : Nat) (x : Int), l[i]? = some x → (i : Int) ≤ x
  | 0, x, hx => h0 x (mem_of hx)
  | i + 1, x, hx => by
    obtain ⟨y, hy⟩ := get_ex (show i < l.length by have := (List.getElem?_eq_some_iff.1 hx).1; omega)
    have h1 := asc_ge h h0 i y hy
    have h2 := asc_at h hy hx (by omega)
    omega
theorem asc_len {l : List Int} {n : Nat} (h : l.Pairwise (· < ·)) (h0 : ∀ x ∈ l, 0 ≤ x ∧ x < n) : l.length ≤ n := by
  rcases Nat.eq_zero_or_pos l.length with e | e
  · omega
  · obtain ⟨x, hx⟩ := get_ex (show l.length - 1 < l.length by omega)
    have h1 := asc_ge h (fun y hy => (h0 y hy).1) _ x hx
    have h2 := (h0 x (mem_of hx)).2
    omega
theorem bit_lt {s i : Nat} (h : s < 256) (hi : s.testBit i = true) : i < 8 := by
  rcases Nat.lt_or_ge i 8 with q | q
  · exact q
  · rw [Nat.testBit_lt_two_pow (Nat.lt_of_lt_of_le h (show 256 ≤ 2 ^ i from Nat.pow_le_pow_right (n := 2) (by decide) q))] at hi
    cases hi
/-- A list of a set's deals. -/
theorem kp_list {V : Wk} {s : Nat} {l : List Int} (hs : s ≤ allS V) (hm : ∀ y : Int, y ∈ l ↔ ∃ j : Nat, s.testBit j = true ∧ y = j) (p : List Int) : Kp V s p ↔ ∀ x ∈ dsOf V l, Keep V x p := by
  constructor
  · intro h x hx
    unfold dsOf at hx
    obtain ⟨y, hy, rfl⟩ := List.mem_map.mp hx
    obtain ⟨j, hj, rfl⟩ := (hm y).mp hy
    rw [Int.toNat_natCast]
    exact Classical.byContradiction fun q => (h j hj).2 q
  · intro h j hj
    refine ⟨(all_bit V j).mp (sub_all hs j hj), fun q => q ?_⟩
    refine h _ ?_
    unfold dsOf
    exact List.mem_map.mpr ⟨(j : Int), (hm _).mpr ⟨j, hj, rfl⟩, by rw [Int.toNat_natCast]⟩
theorem elN_bits {s : Nat} (h : s < 256) (y : Int) : y ∈ elN s 8 ↔ ∃ j : Nat, s.testBit j = true ∧ y = j := by
  rw [mem_elN]
  exact ⟨fun ⟨i, _, h2, h3⟩ => ⟨i, h2, h3⟩, fun ⟨i, h2, h3⟩ => ⟨i, bit_lt h h2, h2, h3⟩⟩
/-- A set without an element. -/
def rmS (s x : Nat) : Nat := s &&& (s ^^^ 2 ^ x)
theorem rmS_bit (s x i : Nat) : (rmS s x).testBit i = true ↔ s.testBit i = true ∧ i ≠ x := by
  unfold rmS
  rw [Nat.testBit_and, Nat.testBit_xor, Nat.testBit_two_pow]
  cases h : s.testBit i with
  | false => simp
  | true =>
    by_cases e : x = i
    · subst e; simp
    · simp [e]; exact fun q => e q.symm
theorem rmS_le (s x : Nat) : rmS s x ≤ s := Nat.and_le_left
theorem elN_rm (s x : Nat) : elN (rmS s x) 8 = (elN s 8).filter (fun y => decide (y ≠ (x : Int))) := by
  unfold elN
  rw [List.filter_map, List.filter_filter]
  congr 1
  refine List.filter_congr fun i _ => ?_
  rw [Bool.eq_iff_iff]
  simp only [decide_eq_true_eq, Bool.and_eq_true, Function.comp, bit_div, rmS_bit]
  constructor
  · rintro ⟨h1, h2⟩; exact ⟨fun q => h2 (by omega), h1⟩
  · rintro ⟨h1, h2⟩; exact ⟨h2, fun q => h1 (by omega)⟩
theorem elN_less {s x : Nat} (h : s.testBit x = true) (hx : x < 8) : (elN (rmS s x) 8).length < (elN s 8).length := by
  rw [elN_rm]
  exact List.length_filter_lt_length_iff_exists.mpr ⟨(x : Int), mem_elN.mpr ⟨x, hx, h, rfl⟩, by simp⟩
/-- What the least set says. -/
structure Nm (V : Wk) (l : List Int) : Prop where
  rng : ∀ x ∈ l, 0 ≤ x ∧ x < (V.ds.length : Int)
  asc : l.Pairwise (· < ·)
  ne : l ≠ []
  no : MxD V (dsOf V l) none
  one : ∀ i, i < l.length → ∃ r, MxD V (dsOf V (l.eraseIdx i)) (some r)
  hit : ∀ p, IsP V p → ∃ x ∈ l, x ∈ brk V p V.ds.length
theorem named {V : Wk} (ok : WOk V) {l : List Int} (h : LsO V (allS V + 1) (some l)) : Nm V l := by
  have hne := h.ne
  obtain ⟨⟨s, h1, h2, h3, rfl⟩, h5⟩ := h
  have hs : s ≤ allS V := by omega
  have hbit : ∀ i, s.testBit i = true → i < V.ds.length := fun i hi => (all_bit V i).mp (sub_all hs i hi)
  refine ⟨fun x hx => ?_, elN_asc s 8, hne, (mx_set (kp_list hs (elN_bits h2))).mp h3, fun i hi => ?_, fun p hp => ?_⟩
  · obtain ⟨i, _, hb, rfl⟩ := mem_elN.mp hx
    have := hbit i hb
    omega
  · obtain ⟨y, hy⟩ := get_ex hi
    obtain ⟨x, hx8, hb, rfl⟩ := mem_elN.mp (mem_of hy)
    have hn : ¬ IsMx V (rmS s x) none := fun q => h5 (rmS s x) (by have := rmS_le s x; omega) q (.inl (elN_less hb hx8))
    obtain ⟨r, hr⟩ := mx_some ok.s hn
    refine ⟨r, (mx_set (kp_list (Nat.le_trans (rmS_le s x) hs) (fun z => ?_))).mp hr⟩
    rw [mem_erase]
    constructor
    · rintro ⟨j, hj, hz⟩
      obtain ⟨k, hk, rfl⟩ := (elN_bits h2 z).mp (mem_of hz)
      refine ⟨k, (rmS_bit s x k).mpr ⟨hk, fun e => ?_⟩, rfl⟩
      subst e
      rcases Nat.lt_or_gt_of_ne hj with q | q
      · have := asc_at (elN_asc s 8) hz hy q; omega
      · have := asc_at (elN_asc s 8) hy hz q; omega
    · rintro ⟨k, hk, rfl⟩
      obtain ⟨hk1, hk2⟩ := (rmS_bit s x k).mp hk
      obtain ⟨j, hj⟩ := List.mem_iff_getElem?.mp ((elN_bits h2 (k : Int)).mpr ⟨k, hk1, rfl⟩)
      refine ⟨j, fun e => ?_, hj⟩
      subst e
      rw [hy] at hj
      injection hj with hj
      omega
  · refine Classical.byContradiction fun q => h3 p hp fun j hj => ⟨hbit j hj, fun hb => q ⟨(j : Int), (elN_bits h2 _).mpr ⟨j, hj, rfl⟩, brk_mem.mpr ⟨j, hbit j hj, hb, rfl⟩⟩⟩
theorem Nm.len {V : Wk} {l : List Int} (h : Nm V l) : l.length ≤ V.ds.length := asc_len h.asc h.rng
theorem onl_ok {V : Wk} (ok : WOk V) {l : List Int} (hl : l.length ≤ V.ds.length) (h : ∀ x ∈ l, 0 ≤ x ∧ x < (V.ds.length : Int)) : WOk (onl V l) := by
  refine wd_ok ok (by rw [dsOf_len]; exact Nat.le_trans hl ok.s.ds) fun x hx => ?_
  unfold dsOf at hx
  obtain ⟨y, hy, rfl⟩ := List.mem_map.mp hx
  obtain ⟨h1, h2⟩ := h y hy
  obtain ⟨z, hz⟩ := get_ex (show y.toNat < V.ds.length by omega)
  rw [ds_of hz]
  exact ok.ds z (mem_of hz)
theorem onl_sz {V : Wk} (h : Sz V) {l : List Int} (hl : l.length ≤ 1000000) : Sz (onl V l) := wd_sz h (by rw [dsOf_len]; exact hl)
theorem most_onl {V : Wk} {l : List Int} {n e : Int} (ok : WOk (onl V l)) (h : MostOk (onl V l) n e) {r : Option Int} (k : MxD V (dsOf V l) r) : n = r.getD 0 ∧ e = errN r.isSome := h.one (.inr ⟨ok, r, mx_deals.mpr k, rfl, rfl⟩)
end Go.Proofs.Ytdiambcjghlffaa.T
namespace Go.Proofs.Ytdiambcjghlffaa.T
open Go.RowKit Go.Proofs.YtdiambcjghlffaaW.PrintWords Go.Proofs.YtdiambcjghlffaaW.PrintMore
open Go.Proofs.Ytdiambcjghlffaa.P
set_option linter.unusedVariables false
set_option linter.unusedSimpArgs false

end Go.Proofs.Ytdiambcjghlffaa.T
namespace Go.Proofs.Ytdiambcjghlffaa.T
open Go.RowKit Go.Proofs.YtdiambcjghlffaaW.PrintWords Go.Proofs.YtdiambcjghlffaaW.PrintMore
open Go.Proofs.Ytdiambcjghlffaa.P
set_option linter.unusedVariables false
set_option linter.unusedSimpArgs false

theorem CI_to {w : World} {A : Option Addr} {l : List Int} {k : Nat} (h : Kd.C kI w A l.length l) (hk : k ≤ l.length) : Kd.C kI w A k (l.take k) := by
  have := Kd.C_take h hk
  rwa [List.length_take, Nat.min_eq_left hk] at this
theorem CI_from {w : World} {A : Option Addr} {l : List Int} {c k : Nat} (h : Kd.C kI w A l.length l) (hc : l.length ≤ c) (hk : k + 1 ≤ l.length) : Kd.C kI w (if c = k + 1 then A else A.map (·.add ((k + 1) * 1))) (l.length - (k + 1)) (l.drop (k + 1)) := by
  have := Kd.C_drop (c := c) h hk hc
  rwa [List.length_drop] at this
theorem erase_rng {l : List Int} {n : Int} {k : Nat} (h : ∀ x ∈ l, 0 ≤ x ∧ x < n) : ∀ x ∈ l.eraseIdx k, 0 ≤ x ∧ x < n := fun x hx => h x (List.mem_of_mem_eraseIdx hx)
theorem notin_more {l : List Int} {k : Nat} {y z : Int} (h : ∀ b ∈ l.take k, b ≠ y) (hz : l[k]? = some z) (hne : z ≠ y) : ∀ b ∈ l.take (k + 1), b ≠ y := fun b hb => by
  rw [List.take_add_one, hz] at hb
  rcases List.mem_append.mp hb with h1 | h1
  · exact h b h1
  · rw [List.mem_singleton.mp h1]; exact hne
theorem none_more2 {l ll : List Int} {i : Nat} {y : Int} (h : ∀ a ∈ l.take i, a ∉ ll) (hy : l[i]? = some y) (hn : y ∉ ll) : ∀ a ∈ l.take (i + 1), a ∉ ll := fun a ha => by
  rw [List.take_add_one, hy] at ha
  rcases List.mem_append.mp ha with h1 | h1
  · exact h a h1
  · rw [List.mem_singleton.mp h1]; exact hn
theorem erase_len {l : List Int} {n k : Nat} (h : l.length ≤ n) : (l.eraseIdx k).length ≤ n := Nat.le_trans (List.length_eraseIdx_le _ _) h
set_option maxRecDepth 100000 in
set_option maxHeartbeats 8000000 in

theorem named_law (V : Wk) (m : Wa) (p : List Int) (A : Option Addr) (c : Nat) (w : World) (hV : WM w V m) (hp : Kd.C kI w A p.length p) :
    Calls Try.prog 4 #[wv V m, .slice A p.length c] w fun e w' => e = .returned (.bool true) ∧ Below w.heap.size w w' := by
  have hpm := Kd.C_max hp
  have hu3 := Try.underlying3
  have hu22 := Try.underlying22
  have hu24 := Try.underlying24
  have hu26 := Try.underlying26
  have hu30 := Try.underlying30
  have hu31 := Try.underlying31
  have hu33 := Try.underlying33
  obtain ⟨z3, o3⟩ := info_some info3s (by decide)
  obtain ⟨z22, o22⟩ := info_some info22s (by decide)
  obtain ⟨z24, o24⟩ := info_some info24s (by decide)
  obtain ⟨z26, o26⟩ := info_some info26s (by decide)
  refine E.enter (N := 171) Try.func4 rfl Try.ntmps4 (args := [wv V m, .slice A p.length c]) (by simp) ?_
  have L := Below.refl w.heap.size w
  refine E.CG.seq ?_
  refine E.CG.list ?_
  refine E.GL.st rfl rfl rfl (E.ST.box rfl rfl fun g2 w2 e2 b2 l2 => ?_)
  have h2_L : w.heap.size ≤ g2 := by rw [e2]; exact L.size
  replace L := below_step L l2
  refine E.GL.run rfl rfl rfl (E.Runs.assign rfl rfl) ?_
  refine E.GL.done ?_
  refine E.QG.code ?_
  refine E.CG.seq ?_
  refine E.CG.seq ?_
  refine E.CG.list ?_
  refine E.GL.run rfl rfl rfl (E.Runs.loads (cs := [.int .i64 V.d, .slice m.A V.rs.length m.a, .int .i64 V.h, .slice m.B V.fs.length m.b, .slice m.C V.ds.length m.c]) rfl rfl hu26 rfl info26s (blk_cells b2)) ?_
  by_cases h20 : Rdy V
  · have hs : Sz V := hg_no h20.1
    have ok := h20.2.2
    refine E.GL.st rfl rfl rfl (E.ST.call rfl ent22 (E.evc rfl E.evn) ((ready_calls V m _ (hV.below L) true (iff_of_true rfl h20)).mono ?_))
    rintro e w20 ⟨rfl, l20⟩
    refine ⟨_, rfl, ?_⟩
    replace b2 := blk_below b2 l20
    replace L := below_step L l20
    refine E.GL.run rfl rfl rfl (E.Runs.not rfl rfl) ?_
    refine E.GL.done ?_
    refine E.QG.code ?_
    refine E.CG.cond_f rfl ?_
    refine E.CG.skip ?_
    refine E.QG.code ?_
    refine E.CG.seq ?_
    refine E.CG.list ?_
    refine E.GL.run rfl rfl rfl (E.Runs.loads (cs := [.int .i64 V.d, .slice m.A V.rs.length m.a, .int .i64 V.h, .slice m.B V.fs.length m.b, .slice m.C V.ds.length m.c]) rfl rfl hu26 rfl info26s (blk_cells b2)) ?_
    refine E.GL.st rfl rfl rfl (E.ST.call rfl ent17 (E.evc rfl E.evn) ((clash_calls V m _ (hV.below L) hs).mono ?_))
    rintro e w25 ⟨v25, ll, e25, rfl, R25, hc, l25⟩
    refine ⟨_, rfl, ?_⟩
    replace b2 := blk_below b2 l25
    replace L := below_step L l25
    obtain ⟨A25, c25, hv25⟩ := Kd.R_slice R25
    subst hv25
    refine E.GL.run rfl rfl rfl (E.Runs.move rfl rfl) ?_
    rcases hc with ⟨nok, _⟩ | ⟨ok2, ⟨r, hr⟩, rfl, rfl⟩ | ⟨ok2, hno, hls, rfl⟩
    · exact absurd ok nok
    · refine E.GL.run rfl rfl rfl (E.Runs.extract rfl rfl rfl) ?_
      refine E.GL.run rfl rfl rfl (E.Runs.extract rfl rfl rfl) ?_
      refine E.GL.run rfl rfl rfl (E.Runs.assign rfl rfl) ?_
      refine E.GL.run rfl rfl rfl (E.Runs.assign rfl rfl) ?_
      refine E.GL.done ?_
      refine E.QG.code ?_
      refine E.CG.seq ?_
      refine E.CG.list ?_
      refine E.GL.run rfl rfl rfl (E.Runs.loads (cs := [.int .i64 V.d, .slice m.A V.rs.length m.a, .int .i64 V.h, .slice m.B V.fs.length m.b, .slice m.C V.ds.length m.c]) rfl rfl hu26 rfl info26s (blk_cells b2)) ?_
      refine E.GL.st rfl rfl rfl (E.ST.call rfl ent15 (E.evc rfl E.evn) ((most_calls V m _ (hV.below L) hs).mono ?_))
      rintro e w30 ⟨n30, e30, rfl, hm30, l30⟩
      refine ⟨_, rfl, ?_⟩
      replace b2 := blk_below b2 l30
      replace R25 := Kd.R_below R25 l30
      replace L := below_step L l30
      obtain ⟨rfl, rfl⟩ := (show MostOk V r 0 from .inr ⟨ok, some r, hr, rfl, rfl⟩).one hm30
      refine E.GL.run rfl rfl rfl (E.Runs.move rfl rfl) ?_
      refine E.GL.run rfl rfl rfl (E.Runs.extract rfl rfl rfl) ?_
      refine E.GL.run rfl rfl rfl (E.Runs.extract rfl rfl rfl) ?_
      refine E.GL.run rfl rfl rfl (E.Runs.assign rfl rfl) ?_
      refine E.GL.run rfl rfl rfl (E.Runs.assign rfl rfl) ?_
      refine E.GL.done ?_
      refine E.QG.code ?_
      refine E.CG.seq ?_
      refine E.CG.seq ?_
      refine E.CG.list ?_
      refine E.GL.run rfl rfl rfl (E.Runs.move rfl rfl) ?_
      refine E.GL.run rfl rfl rfl (E.Runs.eql rfl rfl rfl (decide_eq_true rfl)) ?_
      refine E.GL.done ?_
      refine E.QG.code ?_
      refine E.CG.cond_t rfl ?_
      refine E.CG.seq ?_
      refine E.CG.list ?_
      refine E.GL.run rfl rfl rfl (E.Runs.move rfl rfl) ?_
      refine E.GL.run rfl rfl rfl (E.Runs.eql rfl rfl rfl (decide_eq_true rfl)) ?_
      refine E.GL.run rfl rfl rfl (E.Runs.move rfl rfl) ?_
      refine E.GL.run rfl rfl rfl (E.Runs.move rfl rfl) ?_
      refine E.GL.run rfl rfl rfl (E.Runs.len rfl rfl hu22) ?_
      refine E.GL.run rfl rfl rfl (E.Runs.eql rfl rfl rfl (decide_eq_true rfl)) ?_
      refine E.GL.run rfl rfl rfl (E.Runs.pick_t rfl rfl rfl) ?_
      refine E.GL.run rfl rfl rfl (E.Runs.move rfl rfl) ?_
      refine E.GL.st rfl rfl rfl (E.ST.call rfl ent13 E.evn ((works_calls _).mono ?_))
      rintro e w43 ⟨rfl, l43⟩
      refine ⟨_, rfl, ?_⟩
      replace b2 := blk_below b2 l43
      replace R25 := Kd.R_below R25 l43
      replace L := below_step L l43
      refine E.GL.run rfl rfl rfl (E.Runs.pick_t rfl rfl rfl) ?_
      refine E.GL.run rfl rfl rfl (E.Runs.assign rfl rfl) ?_
      refine E.GL.done ?_
      refine E.QG.code ?_
      refine E.CG.ret ?_
      refine E.QG.pass_ret ?_
      exact E.QG.result rfl rfl ⟨rfl, L⟩
    · have hN := named ok hls
      have hNl := hN.len
      have hd8 := ok.s.ds
      have hl6 : ll.length ≤ 1000000 := by omega
      refine E.GL.run rfl rfl rfl (E.Runs.extract rfl rfl rfl) ?_
      refine E.GL.run rfl rfl rfl (E.Runs.extract rfl rfl rfl) ?_
      refine E.GL.run rfl rfl rfl (E.Runs.assign rfl rfl) ?_
      refine E.GL.run rfl rfl rfl (E.Runs.assign rfl rfl) ?_
      refine E.GL.done ?_
      refine E.QG.code ?_
      refine E.CG.seq ?_
      refine E.CG.list ?_
      refine E.GL.run rfl rfl rfl (E.Runs.loads (cs := [.int .i64 V.d, .slice m.A V.rs.length m.a, .int .i64 V.h, .slice m.B V.fs.length m.b, .slice m.C V.ds.length m.c]) rfl rfl hu26 rfl info26s (blk_cells b2)) ?_
      refine E.GL.st rfl rfl rfl (E.ST.call rfl ent15 (E.evc rfl E.evn) ((most_calls V m _ (hV.below L) hs).mono ?_))
      rintro e w30 ⟨n30, e30, rfl, hm30, l30⟩
      refine ⟨_, rfl, ?_⟩
      replace b2 := blk_below b2 l30
      replace R25 := Kd.R_below R25 l30
      replace L := below_step L l30
      obtain ⟨rfl, rfl⟩ := (show MostOk V 0 3 from .inr ⟨ok, none, hno, rfl, rfl⟩).one hm30
      refine E.GL.run rfl rfl rfl (E.Runs.move rfl rfl) ?_
      refine E.GL.run rfl rfl rfl (E.Runs.extract rfl rfl rfl) ?_
      refine E.GL.run rfl rfl rfl (E.Runs.extract rfl rfl rfl) ?_
      refine E.GL.run rfl rfl rfl (E.Runs.assign rfl rfl) ?_
      refine E.GL.run rfl rfl rfl (E.Runs.assign rfl rfl) ?_
      refine E.GL.done ?_
      refine E.QG.code ?_
      refine E.CG.seq ?_
      refine E.CG.seq ?_
      refine E.CG.list ?_
      refine E.GL.run rfl rfl rfl (E.Runs.move rfl rfl) ?_
      refine E.GL.run rfl rfl rfl (E.Runs.eql rfl rfl rfl (decide_eq_false (by decide))) ?_
      refine E.GL.done ?_
      refine E.QG.code ?_
      refine E.CG.cond_f rfl ?_
      refine E.CG.skip ?_
      refine E.QG.code ?_
      refine E.CG.seq ?_
      refine E.CG.seq ?_
      refine E.CG.list ?_
      refine E.GL.run rfl rfl rfl (E.Runs.move rfl rfl) ?_
      refine E.GL.run rfl rfl rfl (E.Runs.neq rfl rfl rfl (E.ne_f rfl)) ?_
      refine E.GL.run rfl rfl rfl (E.Runs.move rfl rfl) ?_
      refine E.GL.run rfl rfl rfl (E.Runs.move rfl rfl) ?_
      refine E.GL.run rfl rfl rfl (E.Runs.neq rfl rfl rfl (E.ne_f rfl)) ?_
      refine E.GL.run rfl rfl rfl (E.Runs.pick_f rfl rfl rfl) ?_
      refine E.GL.run rfl rfl rfl (E.Runs.move rfl rfl) ?_
      refine E.GL.run rfl rfl rfl (E.Runs.move rfl rfl) ?_
      refine E.GL.run rfl rfl rfl (E.Runs.len rfl rfl hu22) ?_
      refine E.GL.run rfl rfl rfl (E.Runs.eql rfl rfl rfl (decide_eq_false (fun e => hN.ne (List.eq_nil_of_length_eq_zero (by omega))))) ?_
      refine E.GL.run rfl rfl rfl (E.Runs.pick_f rfl rfl rfl) ?_
      refine E.GL.run rfl rfl rfl (E.Runs.move rfl rfl) ?_
      refine E.GL.run rfl rfl rfl (E.Runs.move rfl rfl) ?_
      refine E.GL.run rfl rfl rfl (E.Runs.len rfl rfl hu22) ?_
      refine E.GL.run rfl rfl rfl (E.Runs.fieldAddr rfl rfl hu26 rfl (by assumption) rfl) ?_
      refine E.GL.run rfl rfl rfl (E.Runs.load1 rfl rfl hu24 rfl (by first | assumption | exact E.blkc (by assumption) rfl | exact pw_cell_below L (by assumption))) ?_
      refine E.GL.run rfl rfl rfl (E.Runs.len rfl rfl hu24) ?_
      refine E.GL.run rfl rfl rfl (E.Runs.gtr rfl rfl rfl (decide_eq_false (by omega))) ?_
      refine E.GL.run rfl rfl rfl (E.Runs.pick_f rfl rfl rfl) ?_
      refine E.GL.done ?_
      refine E.QG.code ?_
      refine E.CG.cond_f rfl ?_
      refine E.CG.skip ?_
      refine E.QG.code ?_
      refine E.CG.seq ?_
      refine E.CG.seq ?_
      refine E.CG.list ?_
      refine E.GL.run rfl rfl rfl (E.Runs.assign rfl rfl) ?_
      refine E.GL.done ?_
      refine E.QG.code ?_
      refine E.CG.block ?_
      have s10_b2 := b2
      have s10_L := L
      refine E.CG.loop (fun (i : Nat) => [(1, .slice A p.length c), (2, .pointer (some ⟨g2, 0, none⟩)), (5, .slice A25 ll.length c25), (9, .int .i64 (i : Int))]) (fun i w' => i ≤ ll.length ∧ Below w30.heap.size w30 w') (fun i => ll.length - i) 0 (E.subc rfl (E.subc rfl (E.subc rfl (E.subc rfl E.subn)))) ⟨Nat.zero_le _, Below.refl _ _⟩ ?_
      rintro i w10 ⟨hi, lq⟩
      replace b2 := blk_below b2 lq
      replace R25 := Kd.R_below R25 lq
      replace L := below_step L lq
      refine E.CG.seq ?_
      refine E.CG.seq ?_
      refine E.CG.list ?_
      refine E.GL.run rfl rfl rfl (E.Runs.move rfl rfl) ?_
      refine E.GL.run rfl rfl rfl (E.Runs.move rfl rfl) ?_
      refine E.GL.run rfl rfl rfl (E.Runs.len rfl rfl hu22) ?_
      refine E.GL.cmp rfl rfl rfl (fun _ h => (E.Runs.lss rfl rfl rfl h)) (fun h67 => ?_) (fun h67 => ?_)
      · obtain ⟨y, hy⟩ := get_ex (show i < ll.length by omega)
        obtain ⟨ad, eA, XR⟩ := int_at (Kd.R_reads' R25).2.2 hy
        obtain ⟨hy0, hy1⟩ := hN.rng y (mem_of hy)
        refine E.GL.done ?_
        refine E.QG.code ?_
        refine E.CG.cond_t rfl ?_
        refine E.CG.skip ?_
        refine E.QG.code ?_
        refine E.CG.seq ?_
        refine E.CG.block ?_
        refine E.CG.seq ?_
        refine E.CG.quietF (by kernel_rfl) rfl (by kernel_rfl) (by kernel_rfl) ?_
        refine E.GQ.run rfl rfl rfl (E.Runs.move rfl rfl) ?_
        refine E.GQ.run rfl rfl rfl (E.Runs.move rfl rfl) ?_
        refine E.GQ.run rfl rfl rfl (E.Runs.indexAddrA (i := i) rfl rfl rfl hu22 z3 o3 (by omega) eA rfl) ?_
        refine E.GQ.run rfl rfl rfl (E.Runs.load rfl rfl hu3 XR) ?_
        refine E.GQ.run rfl rfl rfl (E.Runs.lss rfl rfl rfl (decide_eq_false (by omega))) ?_
        refine E.GQ.run rfl rfl rfl (E.Runs.move rfl rfl) ?_
        refine E.GQ.run rfl rfl rfl (E.Runs.move rfl rfl) ?_
        refine E.GQ.run rfl rfl rfl (E.Runs.move rfl rfl) ?_
        refine E.GQ.run rfl rfl rfl (E.Runs.indexAddrA (i := i) rfl rfl rfl hu22 z3 o3 (by omega) eA rfl) ?_
        refine E.GQ.run rfl rfl rfl (E.Runs.load rfl rfl hu3 XR) ?_
        refine E.GQ.run rfl rfl rfl (E.Runs.fieldAddr rfl rfl hu26 rfl (by assumption) rfl) ?_
        refine E.GQ.run rfl rfl rfl (E.Runs.load1 rfl rfl hu24 rfl (by first | assumption | exact E.blkc (by assumption) rfl | exact pw_cell_below L (by assumption) | exact pw_cell_below lq (by assumption))) ?_
        refine E.GQ.run rfl rfl rfl (E.Runs.len rfl rfl hu24) ?_
        refine E.GQ.run rfl rfl rfl (E.Runs.geq rfl rfl rfl (decide_eq_false (by omega))) ?_
        refine E.GQ.run rfl rfl rfl (E.Runs.pick_f rfl rfl rfl) ?_
        refine E.GQ.run rfl rfl rfl (E.Runs.move rfl rfl) ?_
        refine E.GQ.run rfl rfl rfl (E.Runs.move rfl rfl) ?_
        refine E.GQ.cmp rfl rfl rfl (fun _ h => (E.Runs.gtr rfl rfl rfl h)) (fun h87 => ?_) (fun h87 => ?_)
        · obtain ⟨z, hz⟩ := get_ex (show i - 1 < ll.length by omega)
          obtain ⟨ad2, eA2, XR2⟩ := int_at (Kd.R_reads' R25).2.2 hz
          have hlt := asc_at hN.asc hz hy (by omega)
          refine E.GQ.run rfl rfl rfl (E.Runs.move rfl rfl) ?_
          refine E.GQ.run rfl rfl rfl (E.Runs.move rfl rfl) ?_
          refine E.GQ.run rfl rfl rfl (E.Runs.move rfl rfl) ?_
          refine E.GQ.run rfl rfl rfl (E.Runs.indexAddrA (i := i) rfl rfl rfl hu22 z3 o3 (by omega) eA rfl) ?_
          refine E.GQ.run rfl rfl rfl (E.Runs.load rfl rfl hu3 XR) ?_
          refine E.GQ.run rfl rfl rfl (E.Runs.move rfl rfl) ?_
          refine E.GQ.run rfl rfl rfl (E.Runs.move rfl rfl) ?_
          refine E.GQ.run rfl rfl rfl (E.Runs.sub rfl rfl rfl (IntWalk.i64_in _ (by omega))) ?_
          refine E.GQ.run rfl rfl rfl (E.Runs.indexAddrA (i := (i - 1)) rfl rfl (by rw [show ((i : Int) - 1) = ((i - 1 : Nat) : Int) by omega]; rfl) hu22 z3 o3 (by omega) eA2 rfl) ?_
          refine E.GQ.run rfl rfl rfl (E.Runs.load rfl rfl hu3 XR2) ?_
          refine E.GQ.run rfl rfl rfl (E.Runs.leq rfl rfl rfl (decide_eq_false (by omega))) ?_
          refine E.GQ.run rfl rfl rfl (E.Runs.pick_t rfl rfl rfl) ?_
          refine E.GQ.run rfl rfl rfl (E.Runs.pick_f rfl rfl rfl) ?_
          refine E.GQ.doneB fun v12 lD => ?_
          replace b2 := blk_below b2 lD
          replace R25 := Kd.R_below R25 lD
          replace L := below_step L lD
          replace lq := below_step lq lD
          have lD12 := lD
          clear lD
          refine E.QG.code ?_
          refine E.CG.cond_f rfl ?_
          refine E.CG.skip ?_
          refine E.QG.block_normal ?_
          refine E.QG.code ?_
          refine E.CG.list ?_
          refine E.GL.run rfl rfl rfl (E.Runs.move rfl rfl) ?_
          refine E.GL.run rfl rfl rfl (E.Runs.add rfl rfl rfl (IntWalk.i64_in _ (by omega))) ?_
          refine E.GL.run rfl rfl rfl (E.Runs.assign rfl rfl) ?_
          refine E.GL.done ?_
          exact E.QG.round (i + 1) (E.subc rfl (E.subc rfl (E.subc rfl (E.subc rfl E.subn)))) ⟨by omega, lq⟩ (by omega)
        · refine E.GQ.run rfl rfl rfl (E.Runs.move rfl rfl) ?_
          refine E.GQ.skip rfl rfl rfl ?_
          refine E.GQ.skip rfl rfl rfl ?_
          refine E.GQ.skip rfl rfl rfl ?_
          refine E.GQ.skip rfl rfl rfl ?_
          refine E.GQ.skip rfl rfl rfl ?_
          refine E.GQ.skip rfl rfl rfl ?_
          refine E.GQ.skip rfl rfl rfl ?_
          refine E.GQ.skip rfl rfl rfl ?_
          refine E.GQ.skip rfl rfl rfl ?_
          refine E.GQ.skip rfl rfl rfl ?_
          refine E.GQ.run rfl rfl rfl (E.Runs.pick_f rfl rfl rfl) ?_
          refine E.GQ.run rfl rfl rfl (E.Runs.pick_f rfl rfl rfl) ?_
          refine E.GQ.doneB fun v12 lD => ?_
          replace b2 := blk_below b2 lD
          replace R25 := Kd.R_below R25 lD
          replace L := below_step L lD
          replace lq := below_step lq lD
          have lD12 := lD
          clear lD
          refine E.QG.code ?_
          refine E.CG.cond_f rfl ?_
          refine E.CG.skip ?_
          refine E.QG.block_normal ?_
          refine E.QG.code ?_
          refine E.CG.list ?_
          refine E.GL.run rfl rfl rfl (E.Runs.move rfl rfl) ?_
          refine E.GL.run rfl rfl rfl (E.Runs.add rfl rfl rfl (IntWalk.i64_in _ (by omega))) ?_
          refine E.GL.run rfl rfl rfl (E.Runs.assign rfl rfl) ?_
          refine E.GL.done ?_
          exact E.QG.round (i + 1) (E.subc rfl (E.subc rfl (E.subc rfl (E.subc rfl E.subn)))) ⟨by omega, lq⟩ (by omega)
      · refine E.GL.done ?_
        refine E.QG.code ?_
        refine E.CG.cond_f rfl ?_
        refine E.CG.exit ?_
        refine E.QG.pass_exit ?_
        refine E.QG.pass_exit ?_
        refine E.QG.block_here ?_
        refine E.QG.code ?_
        refine E.CG.seq ?_
        refine E.CG.seq ?_
        refine E.CG.list ?_
        refine E.GL.run rfl rfl rfl (E.Runs.loads (cs := [.int .i64 V.d, .slice m.A V.rs.length m.a, .int .i64 V.h, .slice m.B V.fs.length m.b, .slice m.C V.ds.length m.c]) rfl rfl hu26 rfl info26s (blk_cells b2)) ?_
        refine E.GL.run rfl rfl rfl (E.Runs.move rfl rfl) ?_
        refine E.GL.st rfl rfl rfl (E.ST.call rfl ent23 (E.evc rfl (E.evc rfl E.evn)) ((only_calls V m ll A25 c25 _ (hV.below L) hs (Kd.R_reads' R25).2.2 (by omega) hN.rng).mono ?_))
        rintro e w104 ⟨mo, rfl, hR104, l104⟩
        refine ⟨_, rfl, ?_⟩
        replace b2 := blk_below b2 l104
        replace R25 := Kd.R_below R25 l104
        replace L := below_step L l104
        refine E.GL.st rfl rfl rfl (E.ST.call rfl ent15 (E.evc rfl E.evn) ((most_calls (onl V ll) mo _ hR104.wm (onl_sz hs (by omega))).mono ?_))
        rintro e w105 ⟨n105, e105, rfl, hm105, l105⟩
        refine ⟨_, rfl, ?_⟩
        replace b2 := blk_below b2 l105
        replace R25 := Kd.R_below R25 l105
        replace L := below_step L l105
        obtain ⟨rfl, rfl⟩ := most_onl (onl_ok ok hN.len hN.rng) hm105 hN.no
        refine E.GL.run rfl rfl rfl (E.Runs.move rfl rfl) ?_
        refine E.GL.run rfl rfl rfl (E.Runs.extract rfl rfl rfl) ?_
        refine E.GL.run rfl rfl rfl (E.Runs.extract rfl rfl rfl) ?_
        refine E.GL.run rfl rfl rfl (E.Runs.assign rfl rfl) ?_
        refine E.GL.run rfl rfl rfl (E.Runs.assign rfl rfl) ?_
        refine E.GL.done ?_
        refine E.QG.code ?_
        refine E.CG.seq ?_
        refine E.CG.list ?_
        refine E.GL.run rfl rfl rfl (E.Runs.move rfl rfl) ?_
        refine E.GL.run rfl rfl rfl (E.Runs.neq rfl rfl rfl (E.ne_f rfl)) ?_
        refine E.GL.done ?_
        refine E.QG.code ?_
        refine E.CG.cond_f rfl ?_
        refine E.CG.skip ?_
        refine E.QG.code ?_
        refine E.CG.seq ?_
        refine E.CG.seq ?_
        refine E.CG.list ?_
        refine E.GL.run rfl rfl rfl (E.Runs.assign rfl rfl) ?_
        refine E.GL.done ?_
        refine E.QG.code ?_
        refine E.CG.block ?_
        have s18_b2 := b2
        have s18_L := L
        refine E.CG.loop (fun (k : Nat) => [(1, .slice A p.length c), (2, .pointer (some ⟨g2, 0, none⟩)), (5, .slice A25 ll.length c25), (12, .int .i64 (k : Int))]) (fun k w' => k ≤ ll.length ∧ Below w105.heap.size w105 w') (fun k => ll.length - k) 0 (E.subc rfl (E.subc rfl (E.subc rfl (E.subc rfl E.subn)))) ⟨Nat.zero_le _, Below.refl _ _⟩ ?_
        rintro k w18 ⟨hk, lp⟩
        replace b2 := blk_below b2 lp
        replace R25 := Kd.R_below R25 lp
        replace L := below_step L lp
        refine E.CG.seq ?_
        refine E.CG.seq ?_
        refine E.CG.list ?_
        refine E.GL.run rfl rfl rfl (E.Runs.move rfl rfl) ?_
        refine E.GL.run rfl rfl rfl (E.Runs.move rfl rfl) ?_
        refine E.GL.run rfl rfl rfl (E.Runs.len rfl rfl hu22) ?_
        refine E.GL.cmp rfl rfl rfl (fun _ h => (E.Runs.lss rfl rfl rfl h)) (fun h113 => ?_) (fun h113 => ?_)
        · obtain ⟨r2, hr2⟩ := hN.one k (by omega)
          refine E.GL.done ?_
          refine E.QG.code ?_
          refine E.CG.cond_t rfl ?_
          refine E.CG.skip ?_
          refine E.QG.code ?_
          refine E.CG.seq ?_
          refine E.CG.block ?_
          refine E.CG.seq ?_
          have hc25 := (Kd.R_reads' R25).2.1
          have s_R25 := R25
          refine E.CG.heldH (none) (by kernel_rfl) fun v20 lD hh => ?_
          replace b2 := blk_below b2 lD
          replace R25 := Kd.R_below R25 lD
          replace L := below_step L lD
          replace lp := below_step lp lD
          clear lD
          have s_b2 := b2
          have s_L := L
          have s_lp := lp
          refine E.GH.take (i := 0) rfl (by kernel_rfl) (by kernel_rfl) (by kernel_rfl) (by intro c a d v w h; first | (cases d <;> exact h) | exact nomatch (show _ ∧ _ from h).1) rfl rfl rfl (fun w' hS => (E.Runs.loads (cs := [.int .i64 V.d, .slice m.A V.rs.length m.a, .int .i64 V.h, .slice m.B V.fs.length m.b, .slice m.C V.ds.length m.c]) rfl rfl hu26 rfl info26s (blk_cells (blk_grown s_b2 hS E.nen)))) ?_
          refine E.GH.take (i := 2) rfl (by kernel_rfl) (by kernel_rfl) (by kernel_rfl) (by intro c a d v w h; first | (cases d <;> exact h) | exact nomatch (show _ ∧ _ from h).1) rfl rfl rfl (fun w' hS => (E.Runs.move rfl rfl)) ?_
          refine E.GH.take (i := 3) rfl (by kernel_rfl) (by kernel_rfl) (by kernel_rfl) (by intro c a d v w h; first | (cases d <;> exact h) | exact nomatch (show _ ∧ _ from h).1) rfl rfl rfl (fun w' hS => (E.Runs.move rfl rfl)) ?_
          refine E.GH.take (i := 4) rfl (by kernel_rfl) (by kernel_rfl) (by kernel_rfl) (by intro c a d v w h; first | (cases d <;> exact h) | exact nomatch (show _ ∧ _ from h).1) rfl rfl rfl (fun w' hS => (E.Runs.sliceTo (i := k) rfl rfl rfl hu22 z3 (by omega))) ?_
          refine E.GH.take (i := 6) rfl (by kernel_rfl) (by kernel_rfl) (by kernel_rfl) (by intro c a d v w h; first | (cases d <;> exact h) | exact nomatch (show _ ∧ _ from h).1) rfl rfl rfl (fun w' hS => (E.Runs.move rfl rfl)) ?_
          refine E.GH.take (i := 7) rfl (by kernel_rfl) (by kernel_rfl) (by kernel_rfl) (by intro c a d v w h; first | (cases d <;> exact h) | exact nomatch (show _ ∧ _ from h).1) rfl rfl rfl (fun w' hS => (E.Runs.move rfl rfl)) ?_
          refine E.GH.take (i := 8) rfl (by kernel_rfl) (by kernel_rfl) (by kernel_rfl) (by intro c a d v w h; first | (cases d <;> exact h) | exact nomatch (show _ ∧ _ from h).1) rfl rfl rfl (fun w' hS => (E.Runs.add rfl rfl rfl (IntWalk.i64_in _ (by omega)))) ?_
          refine E.GH.take (i := 9) rfl (by kernel_rfl) (by kernel_rfl) (by kernel_rfl) (by intro c a d v w h; first | (cases d <;> exact h) | exact nomatch (show _ ∧ _ from h).1) rfl rfl rfl (fun w' hS => (E.Runs.sliceFrom (i := k + 1) rfl rfl rfl hu22 z3 o3 (by omega) (Kd.R_reads' s_R25).2.1 rfl)) ?_
          refine E.GH.one (i := 1) (by kernel_rfl) rfl ?_
          have hCv := (Kd.R_reads' R25).2.2
          replace s_R25 := R25
          have K := Below.refl v20.heap.size v20
          refine E.GO.st rfl rfl rfl (E.ST.litAt kI v20.heap.size (w0 := v20) (ys := ([] : List Int)) (inner := []) rfl rfl E.epn lit22n (Reps.none _ _) K K.size (by simp) fun u118 w118 r118 k118 l118 n118 => ⟨E.gbB k118, ?_⟩)
          replace K := k118
          refine E.GH.one (i := 5) (by kernel_rfl) rfl ?_
          refine E.GO.st rfl rfl rfl (E.ST.appendRows kI v20.heap.size (w0 := v20) (s := .tmp 118) (x := .tmp 121) rfl hu22 info3 rfl (by decide) (by decide) rfl rfl r118 (CI_to (Kd.C_below hCv K) (by omega)) made22 K K.size (by simp only [List.length_nil]; omega) fun u122 w122 r122 k122 g122 => ⟨E.gbB k122, ?_⟩)
          replace K := k122
          rw [List.nil_append] at r122
          refine E.GH.one (i := 10) (by kernel_rfl) rfl ?_
          refine E.GO.st rfl rfl rfl (E.ST.appendRows kI v20.heap.size (w0 := v20) (s := .tmp 122) (x := .tmp 126) rfl hu22 info3 rfl (by decide) (by decide) rfl rfl r122 (CI_from (Kd.C_below hCv K) hc25 (by omega)) made22 K K.size (by rw [List.length_take]; omega) fun u127 w127 r127 k127 g127 => ⟨E.gbB k127, ?_⟩)
          replace K := k127
          rw [erase_eq] at r127
          obtain ⟨A127, c127, hv127⟩ := Kd.R_slice r127
          subst hv127
          replace hh : v20.grownBy _ none := E.gbB K
          replace b2 := blk_below s_b2 K
          replace R25 := Kd.R_below s_R25 K
          replace L := below_step s_L K
          replace lp := below_step s_lp K
          refine E.GH.one (i := 11) (by kernel_rfl) rfl ?_
          refine E.GO.st rfl rfl rfl (E.ST.call rfl ent23 (E.evc rfl (E.evc rfl E.evn)) ((only_calls V m (ll.eraseIdx k) A127 c127 _ (hV.below L) hs (Kd.R_reads' r127).2.2 (erase_len hl6) (erase_rng hN.rng)).mono ?_))
          rintro e w128 ⟨mo2, rfl, hR128, l128⟩
          refine ⟨_, rfl, hh.trans (E.gbB l128), ?_⟩
          replace hh := hh.trans (E.gbB l128)
          replace b2 := blk_below b2 l128
          replace R25 := Kd.R_below R25 l128
          replace L := below_step L l128
          replace lp := below_step lp l128
          refine E.GH.one (i := 12) (by kernel_rfl) rfl ?_
          refine E.GO.st rfl rfl rfl (E.ST.call rfl ent15 (E.evc rfl E.evn) ((most_calls (onl V (ll.eraseIdx k)) mo2 _ hR128.wm (onl_sz hs (erase_len hl6))).mono ?_))
          rintro e w129 ⟨n129, e129, rfl, hm129, l129⟩
          refine ⟨_, rfl, hh.trans (E.gbB l129), ?_⟩
          replace hh := hh.trans (E.gbB l129)
          replace b2 := blk_below b2 l129
          replace R25 := Kd.R_below R25 l129
          replace L := below_step L l129
          replace lp := below_step lp l129
          obtain ⟨rfl, rfl⟩ := most_onl (onl_ok ok (erase_len hN.len) (erase_rng hN.rng)) hm129 hr2
          refine E.GH.take (i := 13) rfl (by kernel_rfl) (by kernel_rfl) (by kernel_rfl) (by intro c a d v w h; first | (cases d <;> exact h) | exact nomatch (show _ ∧ _ from h).1) rfl rfl rfl (fun w' hS => (E.Runs.move rfl rfl)) ?_
          refine E.GH.take (i := 14) rfl (by kernel_rfl) (by kernel_rfl) (by kernel_rfl) (by intro c a d v w h; first | (cases d <;> exact h) | exact nomatch (show _ ∧ _ from h).1) rfl rfl rfl (fun w' hS => (E.Runs.extract rfl rfl rfl)) ?_
          refine E.GH.take (i := 15) rfl (by kernel_rfl) (by kernel_rfl) (by kernel_rfl) (by intro c a d v w h; first | (cases d <;> exact h) | exact nomatch (show _ ∧ _ from h).1) rfl rfl rfl (fun w' hS => (E.Runs.extract rfl rfl rfl)) ?_
          refine E.GH.take (i := 16) rfl (by kernel_rfl) (by kernel_rfl) (by kernel_rfl) (by intro c a d v w h; first | (cases d <;> exact h) | exact nomatch (show _ ∧ _ from h).1) rfl rfl rfl (fun w' hS => (E.Runs.assign rfl rfl)) ?_
          refine E.GH.take (i := 17) rfl (by kernel_rfl) (by kernel_rfl) (by kernel_rfl) (by intro c a d v w h; first | (cases d <;> exact h) | exact nomatch (show _ ∧ _ from h).1) rfl rfl rfl (fun w' hS => (E.Runs.assign rfl rfl)) ?_
          refine E.GH.done (by kernel_rfl) ?_
          refine E.QG.code ?_
          refine E.CG.seq ?_
          refine E.CG.list ?_
          refine E.GL.run rfl rfl rfl (E.Runs.move rfl rfl) ?_
          refine E.GL.run rfl rfl rfl (E.Runs.neq rfl rfl rfl (E.ne_f rfl)) ?_
          refine E.GL.done ?_
          refine E.QG.code ?_
          refine E.CG.cond_f rfl ?_
          refine E.CG.skip ?_
          refine E.QG.block_normal ?_
          refine E.QG.code ?_
          refine E.CG.list ?_
          refine E.GL.run rfl rfl rfl (E.Runs.move rfl rfl) ?_
          refine E.GL.run rfl rfl rfl (E.Runs.add rfl rfl rfl (IntWalk.i64_in _ (by omega))) ?_
          refine E.GL.run rfl rfl rfl (E.Runs.assign rfl rfl) ?_
          refine E.GL.done ?_
          exact E.QG.round (k + 1) (E.subc rfl (E.subc rfl (E.subc rfl (E.subc rfl E.subn)))) ⟨by omega, lp⟩ (by omega)
        · refine E.GL.done ?_
          refine E.QG.code ?_
          refine E.CG.cond_f rfl ?_
          refine E.CG.exit ?_
          refine E.QG.pass_exit ?_
          refine E.QG.pass_exit ?_
          refine E.QG.block_here ?_
          refine E.QG.code ?_
          refine E.CG.seq ?_
          refine E.CG.seq ?_
          refine E.CG.list ?_
          refine E.GL.run rfl rfl rfl (E.Runs.loads (cs := [.int .i64 V.d, .slice m.A V.rs.length m.a, .int .i64 V.h, .slice m.B V.fs.length m.b, .slice m.C V.ds.length m.c]) rfl rfl hu26 rfl info26s (blk_cells b2)) ?_
          refine E.GL.run rfl rfl rfl (E.Runs.move rfl rfl) ?_
          by_cases h136 : IsP V p
          · have hpl := h136.1
            have hsl := (slots_nat ok.s).2.1
            have hbl : (brA V p).length ≤ 1000000 := brA_len hs
            refine E.GL.st rfl rfl rfl (E.ST.call rfl ent24 (E.evc rfl (E.evc rfl E.evn)) ((isProgram_any V m p A c _ (hV.below L) hs (Kd.C_below hp L) hpm ok.s true (iff_of_true rfl h136)).mono ?_))
            rintro e w136 ⟨rfl, l136⟩
            refine ⟨_, rfl, ?_⟩
            replace b2 := blk_below b2 l136
            replace R25 := Kd.R_below R25 l136
            replace L := below_step L l136
            refine E.GL.run rfl rfl rfl (E.Runs.not rfl rfl) ?_
            refine E.GL.done ?_
            refine E.QG.code ?_
            refine E.CG.cond_f rfl ?_
            refine E.CG.skip ?_
            refine E.QG.code ?_
            refine E.CG.seq ?_
            refine E.CG.list ?_
            refine E.GL.run rfl rfl rfl (E.Runs.loads (cs := [.int .i64 V.d, .slice m.A V.rs.length m.a, .int .i64 V.h, .slice m.B V.fs.length m.b, .slice m.C V.ds.length m.c]) rfl rfl hu26 rfl info26s (blk_cells b2)) ?_
            refine E.GL.run rfl rfl rfl (E.Runs.move rfl rfl) ?_
            refine E.GL.st rfl rfl rfl (E.ST.call rfl ent25 (E.evc rfl (E.evc rfl E.evn)) ((broken_o V m p A c _ (hV.below L) hs (Kd.C_below hp L) (by omega)).mono ?_))
            rintro e w142 ⟨v142, rfl, R142, l142⟩
            refine ⟨_, rfl, ?_⟩
            replace b2 := blk_below b2 l142
            replace R25 := Kd.R_below R25 l142
            replace L := below_step L l142
            obtain ⟨A142, c142, hv142⟩ := Kd.R_slice R142
            subst hv142
            refine E.GL.run rfl rfl rfl (E.Runs.move rfl rfl) ?_
            refine E.GL.run rfl rfl rfl (E.Runs.extract rfl rfl rfl) ?_
            refine E.GL.run rfl rfl rfl (E.Runs.extract rfl rfl rfl) ?_
            refine E.GL.run rfl rfl rfl (E.Runs.assign rfl rfl) ?_
            refine E.GL.run rfl rfl rfl (E.Runs.assign rfl rfl) ?_
            refine E.GL.done ?_
            refine E.QG.code ?_
            refine E.CG.seq ?_
            refine E.CG.seq ?_
            refine E.CG.list ?_
            refine E.GL.run rfl rfl rfl (E.Runs.assign rfl rfl) ?_
            refine E.GL.done ?_
            refine E.QG.code ?_
            refine E.CG.block ?_
            have s27_b2 := b2
            have s27_L := L
            refine E.CG.loop (fun (i : Nat) => [(1, .slice A p.length c), (2, .pointer (some ⟨g2, 0, none⟩)), (5, .slice A25 ll.length c25), (15, .slice A142 (brA V p).length c142), (16, .int .i64 (chkP V p)), (17, .int .i64 (i : Int))]) (fun i w' => i ≤ (brA V p).length ∧ (∀ a ∈ (brA V p).take i, a ∉ ll) ∧ Below w142.heap.size w142 w') (fun i => (brA V p).length - i) 0 (E.subc rfl (E.subc rfl (E.subc rfl (E.subc rfl (E.subc rfl (E.subc rfl E.subn)))))) ⟨Nat.zero_le _, (fun a ha => by cases ha), Below.refl _ _⟩ ?_
            rintro i w27 ⟨hi, hna, lr⟩
            replace b2 := blk_below b2 lr
            replace R25 := Kd.R_below R25 lr
            replace R142 := Kd.R_below R142 lr
            replace L := below_step L lr
            refine E.CG.seq ?_
            refine E.CG.seq ?_
            refine E.CG.list ?_
            refine E.GL.run rfl rfl rfl (E.Runs.move rfl rfl) ?_
            refine E.GL.run rfl rfl rfl (E.Runs.move rfl rfl) ?_
            refine E.GL.run rfl rfl rfl (E.Runs.len rfl rfl hu22) ?_
            refine E.GL.cmp rfl rfl rfl (fun _ h => (E.Runs.lss rfl rfl rfl h)) (fun h148 => ?_) (fun h148 => ?_)
            · obtain ⟨y, hy⟩ := get_ex (show i < (brA V p).length by omega)
              obtain ⟨ad, eA, XR⟩ := int_at (Kd.R_reads' R142).2.2 hy
              refine E.GL.done ?_
              refine E.QG.code ?_
              refine E.CG.cond_t rfl ?_
              refine E.CG.skip ?_
              refine E.QG.code ?_
              refine E.CG.seq ?_
              refine E.CG.block ?_
              refine E.CG.seq ?_
              refine E.CG.list ?_
              refine E.GL.run rfl rfl rfl (E.Runs.assign rfl rfl) ?_
              refine E.GL.done ?_
              refine E.QG.code ?_
              refine E.CG.block ?_
              have s30_b2 := b2
              have s30_L := L
              have s30_lr := lr
              refine E.CG.loop (fun (k : Nat) => [(1, .slice A p.length c), (2, .pointer (some ⟨g2, 0, none⟩)), (5, .slice A25 ll.length c25), (15, .slice A142 (brA V p).length c142), (16, .int .i64 (chkP V p)), (17, .int .i64 (i : Int)), (18, .int .i64 (k : Int))]) (fun k w' => k ≤ ll.length ∧ (∀ b ∈ ll.take k, b ≠ y) ∧ Below w27.heap.size w27 w') (fun k => ll.length - k) 0 (E.subc rfl (E.subc rfl (E.subc rfl (E.subc rfl (E.subc rfl (E.subc rfl (E.subc rfl E.subn))))))) ⟨Nat.zero_le _, (fun a ha => by cases ha), Below.refl _ _⟩ ?_
              rintro k w30 ⟨hk, hni, lt⟩
              replace b2 := blk_below b2 lt
              replace R25 := Kd.R_below R25 lt
              replace R142 := Kd.R_below R142 lt
              replace L := below_step L lt
              replace lr := below_step lr lt
              refine E.CG.seq ?_
              refine E.CG.seq ?_
              refine E.CG.list ?_
              refine E.GL.run rfl rfl rfl (E.Runs.move rfl rfl) ?_
              refine E.GL.run rfl rfl rfl (E.Runs.move rfl rfl) ?_
              refine E.GL.run rfl rfl rfl (E.Runs.len rfl rfl hu22) ?_
              refine E.GL.cmp rfl rfl rfl (fun _ h => (E.Runs.lss rfl rfl rfl h)) (fun h154 => ?_) (fun h154 => ?_)
              · obtain ⟨z, hz⟩ := get_ex (show k < ll.length by omega)
                obtain ⟨ad2, eA2, XR2⟩ := int_at (Kd.R_reads' R25).2.2 hz
                have XR3 := (int_at (Kd.R_reads' R142).2.2 hy)
                obtain ⟨ad3, eA3, XR3⟩ := XR3
                refine E.GL.done ?_
                refine E.QG.code ?_
                refine E.CG.cond_t rfl ?_
                refine E.CG.skip ?_
                refine E.QG.code ?_
                refine E.CG.seq ?_
                refine E.CG.block ?_
                refine E.CG.seq ?_
                refine E.CG.quietF (by kernel_rfl) rfl (by kernel_rfl) (by kernel_rfl) ?_
                refine E.GQ.run rfl rfl rfl (E.Runs.move rfl rfl) ?_
                refine E.GQ.run rfl rfl rfl (E.Runs.move rfl rfl) ?_
                refine E.GQ.run rfl rfl rfl (E.Runs.indexAddrA (i := i) rfl rfl rfl hu22 z3 o3 (by omega) eA3 rfl) ?_
                refine E.GQ.run rfl rfl rfl (E.Runs.load rfl rfl hu3 XR3) ?_
                refine E.GQ.run rfl rfl rfl (E.Runs.move rfl rfl) ?_
                refine E.GQ.run rfl rfl rfl (E.Runs.move rfl rfl) ?_
                refine E.GQ.run rfl rfl rfl (E.Runs.indexAddrA (i := k) rfl rfl rfl hu22 z3 o3 (by omega) eA2 rfl) ?_
                refine E.GQ.run rfl rfl rfl (E.Runs.load rfl rfl hu3 XR2) ?_
                refine E.GQ.cmp rfl rfl rfl (fun _ h => (E.Runs.eql rfl rfl rfl h)) (fun h165 => ?_) (fun h165 => ?_)
                · refine E.GQ.doneB fun v32 lD => ?_
                  replace b2 := blk_below b2 lD
                  replace R25 := Kd.R_below R25 lD
                  replace R142 := Kd.R_below R142 lD
                  replace L := below_step L lD
                  replace lr := below_step lr lD
                  replace lt := below_step lt lD
                  have lD32 := lD
                  clear lD
                  refine E.QG.code ?_
                  refine E.CG.cond_t rfl ?_
                  refine E.CG.seq ?_
                  refine E.CG.list ?_
                  refine E.GL.run rfl rfl rfl (E.Runs.move rfl rfl) ?_
                  refine E.GL.run rfl rfl rfl (E.Runs.eql rfl rfl rfl (decide_eq_true (chkP_yes ok h136))) ?_
                  refine E.GL.run rfl rfl rfl (E.Runs.move rfl rfl) ?_
                  refine E.GL.st rfl rfl rfl (E.ST.call rfl ent13 E.evn ((works_calls _).mono ?_))
                  rintro e w169 ⟨rfl, l169⟩
                  refine ⟨_, rfl, ?_⟩
                  replace b2 := blk_below b2 l169
                  replace R25 := Kd.R_below R25 l169
                  replace R142 := Kd.R_below R142 l169
                  replace L := below_step L l169
                  replace lr := below_step lr l169
                  replace lt := below_step lt l169
                  refine E.GL.run rfl rfl rfl (E.Runs.pick_t rfl rfl rfl) ?_
                  refine E.GL.run rfl rfl rfl (E.Runs.assign rfl rfl) ?_
                  refine E.GL.done ?_
                  refine E.QG.code ?_
                  refine E.CG.ret ?_
                  refine E.QG.block_ret ?_
                  refine E.QG.pass_ret ?_
                  refine E.QG.pass_ret ?_
                  refine E.QG.block_ret ?_
                  refine E.QG.block_ret ?_
                  refine E.QG.pass_ret ?_
                  refine E.QG.pass_ret ?_
                  refine E.QG.block_ret ?_
                  refine E.QG.pass_ret ?_
                  exact E.QG.result rfl rfl ⟨rfl, L⟩
                · refine E.GQ.doneB fun v32 lD => ?_
                  replace b2 := blk_below b2 lD
                  replace R25 := Kd.R_below R25 lD
                  replace R142 := Kd.R_below R142 lD
                  replace L := below_step L lD
                  replace lr := below_step lr lD
                  replace lt := below_step lt lD
                  have lD32 := lD
                  clear lD
                  refine E.QG.code ?_
                  refine E.CG.cond_f rfl ?_
                  refine E.CG.skip ?_
                  refine E.QG.block_normal ?_
                  refine E.QG.code ?_
                  refine E.CG.list ?_
                  refine E.GL.run rfl rfl rfl (E.Runs.move rfl rfl) ?_
                  refine E.GL.run rfl rfl rfl (E.Runs.add rfl rfl rfl (IntWalk.i64_in _ (by omega))) ?_
                  refine E.GL.run rfl rfl rfl (E.Runs.assign rfl rfl) ?_
                  refine E.GL.done ?_
                  exact E.QG.round (k + 1) (E.subc rfl (E.subc rfl (E.subc rfl (E.subc rfl (E.subc rfl (E.subc rfl (E.subc rfl E.subn))))))) ⟨by omega, notin_more hni hz (fun e => h165 e.symm), lt⟩ (by omega)
              · rw [List.take_of_length_le (by omega)] at hni
                refine E.GL.done ?_
                refine E.QG.code ?_
                refine E.CG.cond_f rfl ?_
                refine E.CG.exit ?_
                refine E.QG.pass_exit ?_
                refine E.QG.pass_exit ?_
                refine E.QG.block_here ?_
                refine E.QG.block_normal ?_
                refine E.QG.code ?_
                refine E.CG.list ?_
                refine E.GL.run rfl rfl rfl (E.Runs.move rfl rfl) ?_
                refine E.GL.run rfl rfl rfl (E.Runs.add rfl rfl rfl (IntWalk.i64_in _ (by omega))) ?_
                refine E.GL.run rfl rfl rfl (E.Runs.assign rfl rfl) ?_
                refine E.GL.done ?_
                exact E.QG.round (i + 1) (E.subc rfl (E.subc rfl (E.subc rfl (E.subc rfl (E.subc rfl (E.subc rfl E.subn)))))) ⟨by omega, none_more2 hna hy (fun q => hni y q rfl), lr⟩ (by omega)
            · exact absurd (hN.hit p h136) (fun ⟨x, h1, h2⟩ => hna x (by rw [List.take_of_length_le (by omega), brA_yes ok h136]; exact h2) h1)
          · refine E.GL.st rfl rfl rfl (E.ST.call rfl ent24 (E.evc rfl (E.evc rfl E.evn)) ((isProgram_any V m p A c _ (hV.below L) hs (Kd.C_below hp L) hpm ok.s false (iff_of_false Bool.false_ne_true h136)).mono ?_))
            rintro e w136 ⟨rfl, l136⟩
            refine ⟨_, rfl, ?_⟩
            replace b2 := blk_below b2 l136
            replace R25 := Kd.R_below R25 l136
            replace L := below_step L l136
            refine E.GL.run rfl rfl rfl (E.Runs.not rfl rfl) ?_
            refine E.GL.done ?_
            refine E.QG.code ?_
            refine E.CG.cond_t rfl ?_
            refine E.CG.seq ?_
            refine E.CG.list ?_
            refine E.GL.st rfl rfl rfl (E.ST.call rfl ent13 E.evn ((works_calls _).mono ?_))
            rintro e w138 ⟨rfl, l138⟩
            refine ⟨_, rfl, ?_⟩
            replace b2 := blk_below b2 l138
            replace R25 := Kd.R_below R25 l138
            replace L := below_step L l138
            refine E.GL.run rfl rfl rfl (E.Runs.assign rfl rfl) ?_
            refine E.GL.done ?_
            refine E.QG.code ?_
            refine E.CG.ret ?_
            refine E.QG.pass_ret ?_
            exact E.QG.result rfl rfl ⟨rfl, L⟩
  · refine E.GL.st rfl rfl rfl (E.ST.call rfl ent22 (E.evc rfl E.evn) ((ready_calls V m _ (hV.below L) false (iff_of_false Bool.false_ne_true h20)).mono ?_))
    rintro e w20 ⟨rfl, l20⟩
    refine ⟨_, rfl, ?_⟩
    replace b2 := blk_below b2 l20
    replace L := below_step L l20
    refine E.GL.run rfl rfl rfl (E.Runs.not rfl rfl) ?_
    refine E.GL.done ?_
    refine E.QG.code ?_
    refine E.CG.cond_t rfl ?_
    refine E.CG.seq ?_
    refine E.CG.list ?_
    refine E.GL.st rfl rfl rfl (E.ST.call rfl ent13 E.evn ((works_calls _).mono ?_))
    rintro e w22 ⟨rfl, l22⟩
    refine ⟨_, rfl, ?_⟩
    replace b2 := blk_below b2 l22
    replace L := below_step L l22
    refine E.GL.run rfl rfl rfl (E.Runs.assign rfl rfl) ?_
    refine E.GL.done ?_
    refine E.QG.code ?_
    refine E.CG.ret ?_
    refine E.QG.pass_ret ?_
    exact E.QG.result rfl rfl ⟨rfl, L⟩

end Go.Proofs.Ytdiambcjghlffaa.T
