/- Texts of this claim, put together: A22, A23, A24, B2, B3, B4, B5, B6, B7, B8, E21, B9, O1. -/
import Derived.Test.YtiplichdhcmjdaaG4
import Derived.Test.YtiplichdhcmjdaaRows
import Derived.ProofKit
import Derived.OpenShut
import Derived.ChangeOld
import Derived.SizedLaws
import Derived.Deep.Slices
namespace Go.Proofs.Ytiplichdhcmjdaa.T
open Go.RowKit Go.Proofs.YtiplichdhcmjdaaW.PrintWords Go.Proofs.YtiplichdhcmjdaaW.PrintMore
open Go.Proofs.Ytiplichdhcmjdaa.P
set_option linter.unusedVariables false
set_option linter.unusedSimpArgs false

set_option maxRecDepth 100000 in
theorem build25 (A B C : Option Addr) (n c m d k e : Nat) (W : World) : (Instr.build 25 #[(0, .slice A n c), (1, .slice B m d), (2, .slice C k e)]).run Try.prog W = .ok (.agg #[.slice A n c, .slice B m d, .slice C k e, .slice none 0 0]) W := by
  have hu22 := Try.underlying22
  have hu23 := Try.underlying23
  have hu25 := Try.underlying25
  go_simp
set_option maxRecDepth 100000 in
theorem lit23 (A : Option Addr) (n c : Nat) (f1 f2 f3 f4 f5 : Int) (W : World) : (Instr.buildSlice 23 1 #[(0, .agg #[.slice A n c, .int .i64 f1, .int .i64 f2, .int .i64 f3, .int .i64 f4, .int .i64 f5])]).run Try.prog W = .ok (.slice (some ⟨W.heap.size, 0, none⟩) 1 1) (W.alloc (.cells #[.slice A n c, .int .i64 f1, .int .i64 f2, .int .i64 f3, .int .i64 f4, .int .i64 f5] 40 (0, 0))) := by
  have hu23 := Try.underlying23
  go_simp
theorem info40b : (Try.prog.info? 40).map (fun i => (i.zero, i.size, i.bytes)) = some (some (.agg #[.slice none 0 0, .int .i64 0, .int .i64 0, .int .i64 0, .int .i64 0, .int .i64 0]), 6, 64) := by kernel_rfl
/-- An evening in rows of our own. -/
structure EvR (bs : Nat) (w : World) (V : Ev) (m : Ea) : Prop where
  r : E.Cb bs w (.slice m.A V.ps.length m.a) (.slice m.B V.qs.length m.b) (.slice m.C V.ts.length m.c) V.ps V.qs V.ts
  cs : Kd.R k40 40 w bs (fun _ => True) (.slice m.D V.cs.length m.d) V.cs
theorem EvR.ev {bs : Nat} {w : World} {V : Ev} {m : Ea} (h : EvR bs w V m) : EvM w V m := ⟨(Kd.R_reads' h.r.a).2.2, (Kd.R_reads' h.r.b).2.2, (Kd.R_reads' h.r.c).2.2, (Kd.R_reads' h.cs).2.2⟩
theorem EvR.cap {bs : Nat} {w : World} {V : Ev} {m : Ea} (h : EvR bs w V m) : V.qs.length ≤ m.b := (Kd.R_reads' h.r.b).2.1
set_option maxRecDepth 100000 in
set_option maxHeartbeats 8000000 in

theorem copy_calls (V : Ev) (m : Ea) (w : World) (hV : EvM w V m) (hs : Sz V) :
    Calls Try.prog 21 #[hv V m] w fun e w' => ∃ m', e = .returned (hv V m') ∧ EvR w.heap.size w' V m' ∧ Below w.heap.size w w' := by
  have hsc := hs.c
  have hu3 := Try.underlying3
  have hu22 := Try.underlying22
  have hu23 := Try.underlying23
  have hu25 := Try.underlying25
  have hu40 := Try.underlying40
  obtain ⟨z3, o3⟩ := info_some info3s (by decide)
  obtain ⟨z22, o22⟩ := info_some info22s (by decide)
  obtain ⟨z23, o23⟩ := info_some info23s (by decide)
  obtain ⟨z25, o25⟩ := info_some info25s (by decide)
  obtain ⟨z40, o40⟩ := info_some info40s (by decide)
  refine E.enter (N := 43) Try.func21 rfl Try.ntmps21 (args := [hv V m]) (by simp) ?_
  have L := Below.refl w.heap.size w
  refine E.CG.seq ?_
  refine E.CG.list ?_
  refine E.GL.st rfl rfl rfl (E.ST.box rfl rfl fun g1 w1 e1 b1 l1 => ?_)
  have h1_L : w.heap.size ≤ g1 := by rw [e1]; exact L.size
  replace L := below_step L l1
  refine E.GL.st rfl rfl rfl (E.ST.alloc rfl info25z fun g2 w2 e2 b2 l2 => ?_)
  have h2_L : w.heap.size ≤ g2 := by rw [e2]; exact L.size
  have n2_b1 : g1 ≠ g2 := by have := blk_lt b1; omega
  replace b1 := blk_below b1 l2
  replace L := below_step L l2
  refine E.GL.done ?_
  refine E.QG.code ?_
  refine E.CG.seq ?_
  have s1b1 := b1
  have s1b2 := b2
  have hwv0 := L.size
  refine E.CG.cut1 (fun (g3 : Nat) => [(1, .pointer (some ⟨g1, 0, none⟩)), (2, .pointer (some ⟨g2, 0, none⟩)), (3, .pointer (some ⟨g3, 0, none⟩))]) (fun g3 w' => ∃ m' : Ea, E.Cb w.heap.size w' (.slice m'.A V.ps.length m'.a) (.slice m'.B V.qs.length m'.b) (.slice m'.C V.ts.length m'.c) V.ps V.qs V.ts ∧ w'.heap[g3]? = some (.cells #[.slice m'.A V.ps.length m'.a, .slice m'.B V.qs.length m'.b, .slice m'.C V.ts.length m'.c, .slice none 0 0] 25 (0, 0)) ∧ w2.heap.size ≤ g3 ∧ Below w2.heap.size w2 w') ?_ ?_
  · refine E.CG.heldH none (by kernel_rfl) fun v1 lD hh0 => ?_
    refine E.GH.named fun cops cQ hops hQ => ?_
    have hcalm : E.Calm cQ := by rw [hQ]; exact E.calm_cut1
    clear hh0
    have b1 := blk_below b1 lD
    have hwv := Nat.le_trans hwv0 lD.size
    have hVv := hV.below (below_step L lD)
    have SF : ∀ (g3 : Nat) (A' : Option Addr) (a' : Nat) (B' : Option Addr) (b' : Nat) (C' : Option Addr) (c' : Nat) (W : World), v1.grownBy W none → Below v1.heap.size v1 W → E.Cb v1.heap.size W (.slice A' V.ps.length a') (.slice B' V.qs.length b') (.slice C' V.ts.length c') V.ps V.qs V.ts → W.heap[g3]? = some (.cells #[.slice none 0 0, .slice none 0 0, .slice none 0 0, .slice none 0 0] 25 (0, 0)) → v1.heap.size ≤ g3 → E.GH Try.prog cops cQ 43 (fun W => v1.grownBy W none) 1 #[true, true, true, true, true, true, true, true, true, true, true, true, true, true, false] [(1, .pointer (some ⟨g1, 0, none⟩)), (2, .pointer (some ⟨g2, 0, none⟩)), (3, .pointer (some ⟨g3, 0, none⟩)), (18, .agg #[.slice A' V.ps.length a', .slice B' V.qs.length b', .slice C' V.ts.length c', .slice none 0 0])] W := by
      intro g3 A' a' B' b' C' c' W hh K hC b3 h3
      refine E.GH.one (i := 14) (by rw [hops]; kernel_rfl) ((congrArg (fun (o : Array Oper) => o[14]?) hops).trans rfl) ?_
      refine E.GO.sn rfl rfl (E.ST.storeS (off := 0) (cells := [.slice A' V.ps.length a', .slice B' V.qs.length b', .slice C' V.ts.length c', .slice none 0 0]) rfl rfl rfl b3 rfl info25s (slices4_one _ _ _ _ _ _ _ _ _ _ _ _) rfl fun wS c3 lS => ⟨E.gb_row hh lS (fun i hi => by cases hi; exact h3), ?_⟩)
      refine E.GH.done (by rw [hops]; kernel_rfl) ?_
      rw [hQ]
      exact E.QG.meet1 g3 (E.subc rfl (E.subc rfl (E.subc rfl E.subn))) ⟨⟨A', a', B', b', C', c', none, 0⟩, (hC.over b3 (by decide) lS).lower hwv, c3, Nat.le_trans lD.size h3, below_step' lD lD.size (E.below_own K h3 lS)⟩
    have S1111110 : ∀ (g3 : Nat) (va vb vc : Value) (W : World), v1.grownBy W none → Below v1.heap.size v1 W → E.Cb v1.heap.size W va vb vc V.ps V.qs V.ts → E.GH Try.prog cops cQ 43 (fun W => v1.grownBy W none) 3 #[true, true, true, true, true, true, true, true, true, true, true, true, false, false, false] [(1, .pointer (some ⟨g1, 0, none⟩)), (2, .pointer (some ⟨g2, 0, none⟩)), (8, .slice m.A V.ps.length m.a), (12, .slice m.B V.qs.length m.b), (16, .slice m.C V.ts.length m.c), (9, va), (13, vb), (17, vc)] W := by
      intro g3 va vb vc W hh K hC
      obtain ⟨A', a', hva⟩ := Kd.R_slice hC.a
      obtain ⟨B', b', hvb⟩ := Kd.R_slice hC.b
      obtain ⟨C', c', hvc⟩ := Kd.R_slice hC.c
      subst hva hvb hvc
      refine E.GH.take (i := 12) ((congrArg (fun (o : Array Oper) => o[12]?) hops).trans rfl) (by rw [hops]; kernel_rfl) (by rw [hops]; kernel_rfl) (by rw [hops]; kernel_rfl) hcalm rfl rfl rfl (fun w' hS => E.Runs.build rfl (E.epc rfl (E.epc rfl (E.epc rfl E.epn))) (build25 _ _ _ _ _ _ _ _ _)) ?_
      refine E.GH.all (rs := [13]) (by rw [hops]; kernel_rfl) (by simp) (E.GHs.cons ((congrArg (fun (o : Array Oper) => o[13]?) hops).trans rfl) ?_ (E.GHs.nil))
      · refine E.GO.st rfl rfl rfl (E.ST.alloc rfl info25z fun g3 w3 e3 b3 l3 => ⟨hh.trans (E.gbB l3), ?_⟩)
        exact E.GH.meet (SF g3 A' a' B' b' C' c' w3 (hh.trans (E.gbB l3)) (below_step K l3) (hC.below l3) b3 (by rw [e3]; exact K.size)) (by kernel_rfl) (E.subc rfl (E.subc rfl (E.subc rfl (E.subc rfl E.subn))))
    have S1111101 : ∀ (g3 : Nat) (va vb vc : Value) (W : World), v1.grownBy W none → Below v1.heap.size v1 W → E.Cb v1.heap.size W va vb vc V.ps V.qs [] → W.heap[g3]? = some (.cells #[.slice none 0 0, .slice none 0 0, .slice none 0 0, .slice none 0 0] 25 (0, 0)) → v1.heap.size ≤ g3 → E.GH Try.prog cops cQ 43 (fun W => v1.grownBy W none) 3 #[true, true, true, true, true, true, true, true, true, true, true, false, false, true, false] [(1, .pointer (some ⟨g1, 0, none⟩)), (2, .pointer (some ⟨g2, 0, none⟩)), (8, .slice m.A V.ps.length m.a), (12, .slice m.B V.qs.length m.b), (16, .slice m.C V.ts.length m.c), (3, .pointer (some ⟨g3, 0, none⟩)), (9, va), (13, vb), (14, vc)] W := by
      intro g3 va vb vc W hh K hC b3 h3
      refine E.GH.all (rs := [11]) (by rw [hops]; kernel_rfl) (by simp) (E.GHs.cons ((congrArg (fun (o : Array Oper) => o[11]?) hops).trans rfl) ?_ (E.GHs.nil))
      · refine E.GO.st rfl rfl rfl (E.ST.appendAt kI v1.heap.size (w0 := v1) (s := .tmp 14) (x := .tmp 16) rfl hu22 info3 rfl (by decide) (by decide) rfl rfl hC.c (Kd.C_below hVv.ts K) made22 K K.size (by have := hs.t; simp only [List.length_nil]; omega) fun u w3 r k gr n => ⟨E.gb_row hh gr (fun i hi => Kd.R_base hC.c i hi), ?_⟩)
        rw [List.nil_append] at r
        have b3' := blk_grown b3 gr (Kd.R_ne hC.c b3 (by decide))
        have hh2 := (E.gb_row hh gr (fun i hi => Kd.R_base hC.c i hi))
        have hC2 := (hC.s13.grow r gr n).s13
        clear hh hC r gr n
        obtain ⟨A', a', hva⟩ := Kd.R_slice hC2.a
        obtain ⟨B', b', hvb⟩ := Kd.R_slice hC2.b
        obtain ⟨C', c', hvc⟩ := Kd.R_slice hC2.c
        subst hva hvb hvc
        refine E.GH.take (i := 12) ((congrArg (fun (o : Array Oper) => o[12]?) hops).trans rfl) (by rw [hops]; kernel_rfl) (by rw [hops]; kernel_rfl) (by rw [hops]; kernel_rfl) hcalm rfl rfl rfl (fun w' hS => E.Runs.build rfl (E.epc rfl (E.epc rfl (E.epc rfl E.epn))) (build25 _ _ _ _ _ _ _ _ _)) ?_
        exact E.GH.meet (SF g3 A' a' B' b' C' c' w3 hh2 k hC2 b3' h3) (by kernel_rfl) (E.subc rfl (E.subc rfl (E.subc rfl (E.subc rfl E.subn))))
    have S1111100 : ∀ (g3 : Nat) (va vb vc : Value) (W : World), v1.grownBy W none → Below v1.heap.size v1 W → E.Cb v1.heap.size W va vb vc V.ps V.qs [] → E.GH Try.prog cops cQ 43 (fun W => v1.grownBy W none) 4 #[true, true, true, true, true, true, true, true, true, true, true, false, false, false, false] [(1, .pointer (some ⟨g1, 0, none⟩)), (2, .pointer (some ⟨g2, 0, none⟩)), (8, .slice m.A V.ps.length m.a), (12, .slice m.B V.qs.length m.b), (16, .slice m.C V.ts.length m.c), (9, va), (13, vb), (14, vc)] W := by
      intro g3 va vb vc W hh K hC
      refine E.GH.all (rs := [11, 13]) (by rw [hops]; kernel_rfl) (by simp) (E.GHs.cons ((congrArg (fun (o : Array Oper) => o[11]?) hops).trans rfl) ?_ (E.GHs.cons ((congrArg (fun (o : Array Oper) => o[13]?) hops).trans rfl) ?_ (E.GHs.nil)))
      · refine E.GO.st rfl rfl rfl (E.ST.appendAt kI v1.heap.size (w0 := v1) (s := .tmp 14) (x := .tmp 16) rfl hu22 info3 rfl (by decide) (by decide) rfl rfl hC.c (Kd.C_below hVv.ts K) made22 K K.size (by have := hs.t; simp only [List.length_nil]; omega) fun u w3 r k gr n => ⟨E.gb_row hh gr (fun i hi => Kd.R_base hC.c i hi), ?_⟩)
        rw [List.nil_append] at r
        exact E.GH.meet (S1111110 0 va vb u w3 (E.gb_row hh gr (fun i hi => Kd.R_base hC.c i hi)) k ((hC.s13.grow r gr n).s13)) (by kernel_rfl) (E.subc rfl (E.subc rfl (E.subc rfl (E.subc rfl (E.subc rfl (E.subc rfl (E.subc rfl (E.subc rfl (E.subn)))))))))
      · refine E.GO.st rfl rfl rfl (E.ST.alloc rfl info25z fun g3 w3 e3 b3 l3 => ⟨hh.trans (E.gbB l3), ?_⟩)
        exact E.GH.meet (S1111101 g3 va vb vc w3 (hh.trans (E.gbB l3)) (below_step K l3) (hC.below l3) b3 (by rw [e3]; exact K.size)) (by kernel_rfl) (E.subc rfl (E.subc rfl (E.subc rfl (E.subc rfl (E.subc rfl (E.subc rfl (E.subc rfl (E.subc rfl (E.subc rfl (E.subn))))))))))
    have S1111001 : ∀ (g3 : Nat) (va vb vc : Value) (W : World), v1.grownBy W none → Below v1.heap.size v1 W → E.Cb v1.heap.size W va vb vc V.ps [] [] → W.heap[g3]? = some (.cells #[.slice none 0 0, .slice none 0 0, .slice none 0 0, .slice none 0 0] 25 (0, 0)) → v1.heap.size ≤ g3 → E.GH Try.prog cops cQ 43 (fun W => v1.grownBy W none) 4 #[true, true, true, true, true, true, true, false, true, true, true, false, false, true, false] [(1, .pointer (some ⟨g1, 0, none⟩)), (2, .pointer (some ⟨g2, 0, none⟩)), (8, .slice m.A V.ps.length m.a), (12, .slice m.B V.qs.length m.b), (16, .slice m.C V.ts.length m.c), (3, .pointer (some ⟨g3, 0, none⟩)), (9, va), (10, vb), (14, vc)] W := by
      intro g3 va vb vc W hh K hC b3 h3
      refine E.GH.all (rs := [7]) (by rw [hops]; kernel_rfl) (by simp) (E.GHs.cons ((congrArg (fun (o : Array Oper) => o[7]?) hops).trans rfl) ?_ (E.GHs.nil))
      · refine E.GO.st rfl rfl rfl (E.ST.appendAt kI v1.heap.size (w0 := v1) (s := .tmp 10) (x := .tmp 12) rfl hu22 info3 rfl (by decide) (by decide) rfl rfl hC.b (Kd.C_below hVv.qs K) made22 K K.size (by have := hs.q; simp only [List.length_nil]; omega) fun u w3 r k gr n => ⟨E.gb_row hh gr (fun i hi => Kd.R_base hC.b i hi), ?_⟩)
        rw [List.nil_append] at r
        exact E.GH.meet (S1111101 g3 va u vc w3 (E.gb_row hh gr (fun i hi => Kd.R_base hC.b i hi)) k ((hC.s12.grow r gr n).s12) (blk_grown b3 gr (Kd.R_ne hC.b b3 (by decide))) h3) (by kernel_rfl) (E.subc rfl (E.subc rfl (E.subc rfl (E.subc rfl (E.subc rfl (E.subc rfl (E.subc rfl (E.subc rfl (E.subc rfl (E.subn))))))))))
    have S1101101 : ∀ (g3 : Nat) (va vb vc : Value) (W : World), v1.grownBy W none → Below v1.heap.size v1 W → E.Cb v1.heap.size W va vb (.slice none 0 0) V.ps V.qs [] → W.heap[g3]? = some (.cells #[.slice none 0 0, .slice none 0 0, .slice none 0 0, .slice none 0 0] 25 (0, 0)) → v1.heap.size ≤ g3 → E.GH Try.prog cops cQ 43 (fun W => v1.grownBy W none) 4 #[true, true, true, true, true, true, true, true, false, true, true, false, false, true, false] [(1, .pointer (some ⟨g1, 0, none⟩)), (2, .pointer (some ⟨g2, 0, none⟩)), (8, .slice m.A V.ps.length m.a), (12, .slice m.B V.qs.length m.b), (16, .slice m.C V.ts.length m.c), (3, .pointer (some ⟨g3, 0, none⟩)), (9, va), (13, vb)] W := by
      intro g3 va vb vc W hh K hC b3 h3
      refine E.GH.all (rs := [8]) (by rw [hops]; kernel_rfl) (by simp) (E.GHs.cons ((congrArg (fun (o : Array Oper) => o[8]?) hops).trans rfl) ?_ (E.GHs.nil))
      · refine E.GO.st rfl rfl rfl (E.ST.litAt kI v1.heap.size (w0 := v1) (ys := ([] : List Int)) (inner := []) rfl rfl E.epn lit22n (Reps.none _ _) K K.size (by simp) fun u w3 r k l n => ⟨hh.trans (E.gbB l), ?_⟩)
        exact E.GH.meet (S1111101 g3 va vb u w3 (hh.trans (E.gbB l)) k ((hC.s13.make r l n).s13) (blk_below b3 l) h3) (by kernel_rfl) (E.subc rfl (E.subc rfl (E.subc rfl (E.subc rfl (E.subc rfl (E.subc rfl (E.subc rfl (E.subc rfl (E.subc rfl (E.subn))))))))))
    have S1111000 : ∀ (g3 : Nat) (va vb vc : Value) (W : World), v1.grownBy W none → Below v1.heap.size v1 W → E.Cb v1.heap.size W va vb vc V.ps [] [] → E.GH Try.prog cops cQ 43 (fun W => v1.grownBy W none) 5 #[true, true, true, true, true, true, true, false, true, true, true, false, false, false, false] [(1, .pointer (some ⟨g1, 0, none⟩)), (2, .pointer (some ⟨g2, 0, none⟩)), (8, .slice m.A V.ps.length m.a), (12, .slice m.B V.qs.length m.b), (16, .slice m.C V.ts.length m.c), (9, va), (10, vb), (14, vc)] W := by
      intro g3 va vb vc W hh K hC
      refine E.GH.all (rs := [7, 13]) (by rw [hops]; kernel_rfl) (by simp) (E.GHs.cons ((congrArg (fun (o : Array Oper) => o[7]?) hops).trans rfl) ?_ (E.GHs.cons ((congrArg (fun (o : Array Oper) => o[13]?) hops).trans rfl) ?_ (E.GHs.nil)))
      · refine E.GO.st rfl rfl rfl (E.ST.appendAt kI v1.heap.size (w0 := v1) (s := .tmp 10) (x := .tmp 12) rfl hu22 info3 rfl (by decide) (by decide) rfl rfl hC.b (Kd.C_below hVv.qs K) made22 K K.size (by have := hs.q; simp only [List.length_nil]; omega) fun u w3 r k gr n => ⟨E.gb_row hh gr (fun i hi => Kd.R_base hC.b i hi), ?_⟩)
        rw [List.nil_append] at r
        exact E.GH.meet (S1111100 0 va u vc w3 (E.gb_row hh gr (fun i hi => Kd.R_base hC.b i hi)) k ((hC.s12.grow r gr n).s12)) (by kernel_rfl) (E.subc rfl (E.subc rfl (E.subc rfl (E.subc rfl (E.subc rfl (E.subc rfl (E.subc rfl (E.subc rfl (E.subn)))))))))
      · refine E.GO.st rfl rfl rfl (E.ST.alloc rfl info25z fun g3 w3 e3 b3 l3 => ⟨hh.trans (E.gbB l3), ?_⟩)
        exact E.GH.meet (S1111001 g3 va vb vc w3 (hh.trans (E.gbB l3)) (below_step K l3) (hC.below l3) b3 (by rw [e3]; exact K.size)) (by kernel_rfl) (E.subc rfl (E.subc rfl (E.subc rfl (E.subc rfl (E.subc rfl (E.subc rfl (E.subc rfl (E.subc rfl (E.subc rfl (E.subn))))))))))
    have S1110001 : ∀ (g3 : Nat) (va vb vc : Value) (W : World), v1.grownBy W none → Below v1.heap.size v1 W → E.Cb v1.heap.size W va vb vc [] [] [] → W.heap[g3]? = some (.cells #[.slice none 0 0, .slice none 0 0, .slice none 0 0, .slice none 0 0] 25 (0, 0)) → v1.heap.size ≤ g3 → E.GH Try.prog cops cQ 43 (fun W => v1.grownBy W none) 5 #[true, true, true, false, true, true, true, false, true, true, true, false, false, true, false] [(1, .pointer (some ⟨g1, 0, none⟩)), (2, .pointer (some ⟨g2, 0, none⟩)), (8, .slice m.A V.ps.length m.a), (12, .slice m.B V.qs.length m.b), (16, .slice m.C V.ts.length m.c), (3, .pointer (some ⟨g3, 0, none⟩)), (6, va), (10, vb), (14, vc)] W := by
      intro g3 va vb vc W hh K hC b3 h3
      refine E.GH.all (rs := [3]) (by rw [hops]; kernel_rfl) (by simp) (E.GHs.cons ((congrArg (fun (o : Array Oper) => o[3]?) hops).trans rfl) ?_ (E.GHs.nil))
      · refine E.GO.st rfl rfl rfl (E.ST.appendAt kI v1.heap.size (w0 := v1) (s := .tmp 6) (x := .tmp 8) rfl hu22 info3 rfl (by decide) (by decide) rfl rfl hC.a (Kd.C_below hVv.ps K) made22 K K.size (by have := hs.p; simp only [List.length_nil]; omega) fun u w3 r k gr n => ⟨E.gb_row hh gr (fun i hi => Kd.R_base hC.a i hi), ?_⟩)
        rw [List.nil_append] at r
        exact E.GH.meet (S1111001 g3 u vb vc w3 (E.gb_row hh gr (fun i hi => Kd.R_base hC.a i hi)) k ((hC.grow r gr n)) (blk_grown b3 gr (Kd.R_ne hC.a b3 (by decide))) h3) (by kernel_rfl) (E.subc rfl (E.subc rfl (E.subc rfl (E.subc rfl (E.subc rfl (E.subc rfl (E.subc rfl (E.subc rfl (E.subc rfl (E.subn))))))))))
    have S1101100 : ∀ (g3 : Nat) (va vb vc : Value) (W : World), v1.grownBy W none → Below v1.heap.size v1 W → E.Cb v1.heap.size W va vb (.slice none 0 0) V.ps V.qs [] → E.GH Try.prog cops cQ 43 (fun W => v1.grownBy W none) 5 #[true, true, true, true, true, true, true, true, false, true, true, false, false, false, false] [(1, .pointer (some ⟨g1, 0, none⟩)), (2, .pointer (some ⟨g2, 0, none⟩)), (8, .slice m.A V.ps.length m.a), (12, .slice m.B V.qs.length m.b), (16, .slice m.C V.ts.length m.c), (9, va), (13, vb)] W := by
      intro g3 va vb vc W hh K hC
      refine E.GH.all (rs := [8, 13]) (by rw [hops]; kernel_rfl) (by simp) (E.GHs.cons ((congrArg (fun (o : Array Oper) => o[8]?) hops).trans rfl) ?_ (E.GHs.cons ((congrArg (fun (o : Array Oper) => o[13]?) hops).trans rfl) ?_ (E.GHs.nil)))
      · refine E.GO.st rfl rfl rfl (E.ST.litAt kI v1.heap.size (w0 := v1) (ys := ([] : List Int)) (inner := []) rfl rfl E.epn lit22n (Reps.none _ _) K K.size (by simp) fun u w3 r k l n => ⟨hh.trans (E.gbB l), ?_⟩)
        exact E.GH.meet (S1111100 0 va vb u w3 (hh.trans (E.gbB l)) k ((hC.s13.make r l n).s13)) (by kernel_rfl) (E.subc rfl (E.subc rfl (E.subc rfl (E.subc rfl (E.subc rfl (E.subc rfl (E.subc rfl (E.subc rfl (E.subn)))))))))
      · refine E.GO.st rfl rfl rfl (E.ST.alloc rfl info25z fun g3 w3 e3 b3 l3 => ⟨hh.trans (E.gbB l3), ?_⟩)
        exact E.GH.meet (S1101101 g3 va vb vc w3 (hh.trans (E.gbB l3)) (below_step K l3) (hC.below l3) b3 (by rw [e3]; exact K.size)) (by kernel_rfl) (E.subc rfl (E.subc rfl (E.subc rfl (E.subc rfl (E.subc rfl (E.subc rfl (E.subc rfl (E.subc rfl (E.subn)))))))))
    have S1101001 : ∀ (g3 : Nat) (va vb vc : Value) (W : World), v1.grownBy W none → Below v1.heap.size v1 W → E.Cb v1.heap.size W va vb (.slice none 0 0) V.ps [] [] → W.heap[g3]? = some (.cells #[.slice none 0 0, .slice none 0 0, .slice none 0 0, .slice none 0 0] 25 (0, 0)) → v1.heap.size ≤ g3 → E.GH Try.prog cops cQ 43 (fun W => v1.grownBy W none) 5 #[true, true, true, true, true, true, true, false, false, true, true, false, false, true, false] [(1, .pointer (some ⟨g1, 0, none⟩)), (2, .pointer (some ⟨g2, 0, none⟩)), (8, .slice m.A V.ps.length m.a), (12, .slice m.B V.qs.length m.b), (16, .slice m.C V.ts.length m.c), (3, .pointer (some ⟨g3, 0, none⟩)), (9, va), (10, vb)] W := by
      intro g3 va vb vc W hh K hC b3 h3
      refine E.GH.all (rs := [7, 8]) (by rw [hops]; kernel_rfl) (by simp) (E.GHs.cons ((congrArg (fun (o : Array Oper) => o[7]?) hops).trans rfl) ?_ (E.GHs.cons ((congrArg (fun (o : Array Oper) => o[8]?) hops).trans rfl) ?_ (E.GHs.nil)))
      · refine E.GO.st rfl rfl rfl (E.ST.appendAt kI v1.heap.size (w0 := v1) (s := .tmp 10) (x := .tmp 12) rfl hu22 info3 rfl (by decide) (by decide) rfl rfl hC.b (Kd.C_below hVv.qs K) made22 K K.size (by have := hs.q; simp only [List.length_nil]; omega) fun u w3 r k gr n => ⟨E.gb_row hh gr (fun i hi => Kd.R_base hC.b i hi), ?_⟩)
        rw [List.nil_append] at r
        exact E.GH.meet (S1101101 g3 va u vc w3 (E.gb_row hh gr (fun i hi => Kd.R_base hC.b i hi)) k ((hC.s12.grow r gr n).s12) (blk_grown b3 gr (Kd.R_ne hC.b b3 (by decide))) h3) (by kernel_rfl) (E.subc rfl (E.subc rfl (E.subc rfl (E.subc rfl (E.subc rfl (E.subc rfl (E.subc rfl (E.subc rfl (E.subn)))))))))
      · refine E.GO.st rfl rfl rfl (E.ST.litAt kI v1.heap.size (w0 := v1) (ys := ([] : List Int)) (inner := []) rfl rfl E.epn lit22n (Reps.none _ _) K K.size (by simp) fun u w3 r k l n => ⟨hh.trans (E.gbB l), ?_⟩)
        exact E.GH.meet (S1111001 g3 va vb u w3 (hh.trans (E.gbB l)) k ((hC.s13.make r l n).s13) (blk_below b3 l) h3) (by kernel_rfl) (E.subc rfl (E.subc rfl (E.subc rfl (E.subc rfl (E.subc rfl (E.subc rfl (E.subc rfl (E.subc rfl (E.subc rfl (E.subn))))))))))
    have S1011001 : ∀ (g3 : Nat) (va vb vc : Value) (W : World), v1.grownBy W none → Below v1.heap.size v1 W → E.Cb v1.heap.size W va (.slice none 0 0) vc V.ps [] [] → W.heap[g3]? = some (.cells #[.slice none 0 0, .slice none 0 0, .slice none 0 0, .slice none 0 0] 25 (0, 0)) → v1.heap.size ≤ g3 → E.GH Try.prog cops cQ 43 (fun W => v1.grownBy W none) 5 #[true, true, true, true, false, true, true, false, true, true, true, false, false, true, false] [(1, .pointer (some ⟨g1, 0, none⟩)), (2, .pointer (some ⟨g2, 0, none⟩)), (8, .slice m.A V.ps.length m.a), (12, .slice m.B V.qs.length m.b), (16, .slice m.C V.ts.length m.c), (3, .pointer (some ⟨g3, 0, none⟩)), (9, va), (14, vc)] W := by
      intro g3 va vb vc W hh K hC b3 h3
      refine E.GH.all (rs := [4]) (by rw [hops]; kernel_rfl) (by simp) (E.GHs.cons ((congrArg (fun (o : Array Oper) => o[4]?) hops).trans rfl) ?_ (E.GHs.nil))
      · refine E.GO.st rfl rfl rfl (E.ST.litAt kI v1.heap.size (w0 := v1) (ys := ([] : List Int)) (inner := []) rfl rfl E.epn lit22n (Reps.none _ _) K K.size (by simp) fun u w3 r k l n => ⟨hh.trans (E.gbB l), ?_⟩)
        exact E.GH.meet (S1111001 g3 va u vc w3 (hh.trans (E.gbB l)) k ((hC.s12.make r l n).s12) (blk_below b3 l) h3) (by kernel_rfl) (E.subc rfl (E.subc rfl (E.subc rfl (E.subc rfl (E.subc rfl (E.subc rfl (E.subc rfl (E.subc rfl (E.subc rfl (E.subn))))))))))
    have S1110000 : ∀ (g3 : Nat) (va vb vc : Value) (W : World), v1.grownBy W none → Below v1.heap.size v1 W → E.Cb v1.heap.size W va vb vc [] [] [] → E.GH Try.prog cops cQ 43 (fun W => v1.grownBy W none) 6 #[true, true, true, false, true, true, true, false, true, true, true, false, false, false, false] [(1, .pointer (some ⟨g1, 0, none⟩)), (2, .pointer (some ⟨g2, 0, none⟩)), (8, .slice m.A V.ps.length m.a), (12, .slice m.B V.qs.length m.b), (16, .slice m.C V.ts.length m.c), (6, va), (10, vb), (14, vc)] W := by
      intro g3 va vb vc W hh K hC
      refine E.GH.all (rs := [3, 13]) (by rw [hops]; kernel_rfl) (by simp) (E.GHs.cons ((congrArg (fun (o : Array Oper) => o[3]?) hops).trans rfl) ?_ (E.GHs.cons ((congrArg (fun (o : Array Oper) => o[13]?) hops).trans rfl) ?_ (E.GHs.nil)))
      · refine E.GO.st rfl rfl rfl (E.ST.appendAt kI v1.heap.size (w0 := v1) (s := .tmp 6) (x := .tmp 8) rfl hu22 info3 rfl (by decide) (by decide) rfl rfl hC.a (Kd.C_below hVv.ps K) made22 K K.size (by have := hs.p; simp only [List.length_nil]; omega) fun u w3 r k gr n => ⟨E.gb_row hh gr (fun i hi => Kd.R_base hC.a i hi), ?_⟩)
        rw [List.nil_append] at r
        exact E.GH.meet (S1111000 0 u vb vc w3 (E.gb_row hh gr (fun i hi => Kd.R_base hC.a i hi)) k ((hC.grow r gr n))) (by kernel_rfl) (E.subc rfl (E.subc rfl (E.subc rfl (E.subc rfl (E.subc rfl (E.subc rfl (E.subc rfl (E.subc rfl (E.subn)))))))))
      · refine E.GO.st rfl rfl rfl (E.ST.alloc rfl info25z fun g3 w3 e3 b3 l3 => ⟨hh.trans (E.gbB l3), ?_⟩)
        exact E.GH.meet (S1110001 g3 va vb vc w3 (hh.trans (E.gbB l3)) (below_step K l3) (hC.below l3) b3 (by rw [e3]; exact K.size)) (by kernel_rfl) (E.subc rfl (E.subc rfl (E.subc rfl (E.subc rfl (E.subc rfl (E.subc rfl (E.subc rfl (E.subc rfl (E.subc rfl (E.subn))))))))))
    have S1101000 : ∀ (g3 : Nat) (va vb vc : Value) (W : World), v1.grownBy W none → Below v1.heap.size v1 W → E.Cb v1.heap.size W va vb (.slice none 0 0) V.ps [] [] → E.GH Try.prog cops cQ 43 (fun W => v1.grownBy W none) 6 #[true, true, true, true, true, true, true, false, false, true, true, false, false, false, false] [(1, .pointer (some ⟨g1, 0, none⟩)), (2, .pointer (some ⟨g2, 0, none⟩)), (8, .slice m.A V.ps.length m.a), (12, .slice m.B V.qs.length m.b), (16, .slice m.C V.ts.length m.c), (9, va), (10, vb)] W := by
      intro g3 va vb vc W hh K hC
      refine E.GH.all (rs := [7, 8, 13]) (by rw [hops]; kernel_rfl) (by simp) (E.GHs.cons ((congrArg (fun (o : Array Oper) => o[7]?) hops).trans rfl) ?_ (E.GHs.cons ((congrArg (fun (o : Array Oper) => o[8]?) hops).trans rfl) ?_ (E.GHs.cons ((congrArg (fun (o : Array Oper) => o[13]?) hops).trans rfl) ?_ (E.GHs.nil))))
      · refine E.GO.st rfl rfl rfl (E.ST.appendAt kI v1.heap.size (w0 := v1) (s := .tmp 10) (x := .tmp 12) rfl hu22 info3 rfl (by decide) (by decide) rfl rfl hC.b (Kd.C_below hVv.qs K) made22 K K.size (by have := hs.q; simp only [List.length_nil]; omega) fun u w3 r k gr n => ⟨E.gb_row hh gr (fun i hi => Kd.R_base hC.b i hi), ?_⟩)
        rw [List.nil_append] at r
        exact E.GH.meet (S1101100 0 va u vc w3 (E.gb_row hh gr (fun i hi => Kd.R_base hC.b i hi)) k ((hC.s12.grow r gr n).s12)) (by kernel_rfl) (E.subc rfl (E.subc rfl (E.subc rfl (E.subc rfl (E.subc rfl (E.subc rfl (E.subc rfl (E.subn))))))))
      · refine E.GO.st rfl rfl rfl (E.ST.litAt kI v1.heap.size (w0 := v1) (ys := ([] : List Int)) (inner := []) rfl rfl E.epn lit22n (Reps.none _ _) K K.size (by simp) fun u w3 r k l n => ⟨hh.trans (E.gbB l), ?_⟩)
        exact E.GH.meet (S1111000 0 va vb u w3 (hh.trans (E.gbB l)) k ((hC.s13.make r l n).s13)) (by kernel_rfl) (E.subc rfl (E.subc rfl (E.subc rfl (E.subc rfl (E.subc rfl (E.subc rfl (E.subc rfl (E.subc rfl (E.subn)))))))))
      · refine E.GO.st rfl rfl rfl (E.ST.alloc rfl info25z fun g3 w3 e3 b3 l3 => ⟨hh.trans (E.gbB l3), ?_⟩)
        exact E.GH.meet (S1101001 g3 va vb vc w3 (hh.trans (E.gbB l3)) (below_step K l3) (hC.below l3) b3 (by rw [e3]; exact K.size)) (by kernel_rfl) (E.subc rfl (E.subc rfl (E.subc rfl (E.subc rfl (E.subc rfl (E.subc rfl (E.subc rfl (E.subc rfl (E.subn)))))))))
    have S1100001 : ∀ (g3 : Nat) (va vb vc : Value) (W : World), v1.grownBy W none → Below v1.heap.size v1 W → E.Cb v1.heap.size W va vb (.slice none 0 0) [] [] [] → W.heap[g3]? = some (.cells #[.slice none 0 0, .slice none 0 0, .slice none 0 0, .slice none 0 0] 25 (0, 0)) → v1.heap.size ≤ g3 → E.GH Try.prog cops cQ 43 (fun W => v1.grownBy W none) 6 #[true, true, true, false, true, true, true, false, false, true, true, false, false, true, false] [(1, .pointer (some ⟨g1, 0, none⟩)), (2, .pointer (some ⟨g2, 0, none⟩)), (8, .slice m.A V.ps.length m.a), (12, .slice m.B V.qs.length m.b), (16, .slice m.C V.ts.length m.c), (3, .pointer (some ⟨g3, 0, none⟩)), (6, va), (10, vb)] W := by
      intro g3 va vb vc W hh K hC b3 h3
      refine E.GH.all (rs := [3, 8]) (by rw [hops]; kernel_rfl) (by simp) (E.GHs.cons ((congrArg (fun (o : Array Oper) => o[3]?) hops).trans rfl) ?_ (E.GHs.cons ((congrArg (fun (o : Array Oper) => o[8]?) hops).trans rfl) ?_ (E.GHs.nil)))
      · refine E.GO.st rfl rfl rfl (E.ST.appendAt kI v1.heap.size (w0 := v1) (s := .tmp 6) (x := .tmp 8) rfl hu22 info3 rfl (by decide) (by decide) rfl rfl hC.a (Kd.C_below hVv.ps K) made22 K K.size (by have := hs.p; simp only [List.length_nil]; omega) fun u w3 r k gr n => ⟨E.gb_row hh gr (fun i hi => Kd.R_base hC.a i hi), ?_⟩)
        rw [List.nil_append] at r
        exact E.GH.meet (S1101001 g3 u vb vc w3 (E.gb_row hh gr (fun i hi => Kd.R_base hC.a i hi)) k ((hC.grow r gr n)) (blk_grown b3 gr (Kd.R_ne hC.a b3 (by decide))) h3) (by kernel_rfl) (E.subc rfl (E.subc rfl (E.subc rfl (E.subc rfl (E.subc rfl (E.subc rfl (E.subc rfl (E.subc rfl (E.subn)))))))))
      · refine E.GO.st rfl rfl rfl (E.ST.litAt kI v1.heap.size (w0 := v1) (ys := ([] : List Int)) (inner := []) rfl rfl E.epn lit22n (Reps.none _ _) K K.size (by simp) fun u w3 r k l n => ⟨hh.trans (E.gbB l), ?_⟩)
        exact E.GH.meet (S1110001 g3 va vb u w3 (hh.trans (E.gbB l)) k ((hC.s13.make r l n).s13) (blk_below b3 l) h3) (by kernel_rfl) (E.subc rfl (E.subc rfl (E.subc rfl (E.subc rfl (E.subc rfl (E.subc rfl (E.subc rfl (E.subc rfl (E.subc rfl (E.subn))))))))))
    have S1011000 : ∀ (g3 : Nat) (va vb vc : Value) (W : World), v1.grownBy W none → Below v1.heap.size v1 W → E.Cb v1.heap.size W va (.slice none 0 0) vc V.ps [] [] → E.GH Try.prog cops cQ 43 (fun W => v1.grownBy W none) 6 #[true, true, true, true, false, true, true, false, true, true, true, false, false, false, false] [(1, .pointer (some ⟨g1, 0, none⟩)), (2, .pointer (some ⟨g2, 0, none⟩)), (8, .slice m.A V.ps.length m.a), (12, .slice m.B V.qs.length m.b), (16, .slice m.C V.ts.length m.c), (9, va), (14, vc)] W := by
      intro g3 va vb vc W hh K hC
      refine E.GH.all (rs := [4, 13]) (by rw [hops]; kernel_rfl) (by simp) (E.GHs.cons ((congrArg (fun (o : Array Oper) => o[4]?) hops).trans rfl) ?_ (E.GHs.cons ((congrArg (fun (o : Array Oper) => o[13]?) hops).trans rfl) ?_ (E.GHs.nil)))
      · refine E.GO.st rfl rfl rfl (E.ST.litAt kI v1.heap.size (w0 := v1) (ys := ([] : List Int)) (inner := []) rfl rfl E.epn lit22n (Reps.none _ _) K K.size (by simp) fun u w3 r k l n => ⟨hh.trans (E.gbB l), ?_⟩)
        exact E.GH.meet (S1111000 0 va u vc w3 (hh.trans (E.gbB l)) k ((hC.s12.make r l n).s12)) (by kernel_rfl) (E.subc rfl (E.subc rfl (E.subc rfl (E.subc rfl (E.subc rfl (E.subc rfl (E.subc rfl (E.subc rfl (E.subn)))))))))
      · refine E.GO.st rfl rfl rfl (E.ST.alloc rfl info25z fun g3 w3 e3 b3 l3 => ⟨hh.trans (E.gbB l3), ?_⟩)
        exact E.GH.meet (S1011001 g3 va vb vc w3 (hh.trans (E.gbB l3)) (below_step K l3) (hC.below l3) b3 (by rw [e3]; exact K.size)) (by kernel_rfl) (E.subc rfl (E.subc rfl (E.subc rfl (E.subc rfl (E.subc rfl (E.subc rfl (E.subc rfl (E.subc rfl (E.subn)))))))))
    have S1010001 : ∀ (g3 : Nat) (va vb vc : Value) (W : World), v1.grownBy W none → Below v1.heap.size v1 W → E.Cb v1.heap.size W va (.slice none 0 0) vc [] [] [] → W.heap[g3]? = some (.cells #[.slice none 0 0, .slice none 0 0, .slice none 0 0, .slice none 0 0] 25 (0, 0)) → v1.heap.size ≤ g3 → E.GH Try.prog cops cQ 43 (fun W => v1.grownBy W none) 6 #[true, true, true, false, false, true, true, false, true, true, true, false, false, true, false] [(1, .pointer (some ⟨g1, 0, none⟩)), (2, .pointer (some ⟨g2, 0, none⟩)), (8, .slice m.A V.ps.length m.a), (12, .slice m.B V.qs.length m.b), (16, .slice m.C V.ts.length m.c), (3, .pointer (some ⟨g3, 0, none⟩)), (6, va), (14, vc)] W := by
      intro g3 va vb vc W hh K hC b3 h3
      refine E.GH.all (rs := [3, 4]) (by rw [hops]; kernel_rfl) (by simp) (E.GHs.cons ((congrArg (fun (o : Array Oper) => o[3]?) hops).trans rfl) ?_ (E.GHs.cons ((congrArg (fun (o : Array Oper) => o[4]?) hops).trans rfl) ?_ (E.GHs.nil)))
      · refine E.GO.st rfl rfl rfl (E.ST.appendAt kI v1.heap.size (w0 := v1) (s := .tmp 6) (x := .tmp 8) rfl hu22 info3 rfl (by decide) (by decide) rfl rfl hC.a (Kd.C_below hVv.ps K) made22 K K.size (by have := hs.p; simp only [List.length_nil]; omega) fun u w3 r k gr n => ⟨E.gb_row hh gr (fun i hi => Kd.R_base hC.a i hi), ?_⟩)
        rw [List.nil_append] at r
        exact E.GH.meet (S1011001 g3 u vb vc w3 (E.gb_row hh gr (fun i hi => Kd.R_base hC.a i hi)) k ((hC.grow r gr n)) (blk_grown b3 gr (Kd.R_ne hC.a b3 (by decide))) h3) (by kernel_rfl) (E.subc rfl (E.subc rfl (E.subc rfl (E.subc rfl (E.subc rfl (E.subc rfl (E.subc rfl (E.subc rfl (E.subn)))))))))
      · refine E.GO.st rfl rfl rfl (E.ST.litAt kI v1.heap.size (w0 := v1) (ys := ([] : List Int)) (inner := []) rfl rfl E.epn lit22n (Reps.none _ _) K K.size (by simp) fun u w3 r k l n => ⟨hh.trans (E.gbB l), ?_⟩)
        exact E.GH.meet (S1110001 g3 va u vc w3 (hh.trans (E.gbB l)) k ((hC.s12.make r l n).s12) (blk_below b3 l) h3) (by kernel_rfl) (E.subc rfl (E.subc rfl (E.subc rfl (E.subc rfl (E.subc rfl (E.subc rfl (E.subc rfl (E.subc rfl (E.subc rfl (E.subn))))))))))
    have S1001001 : ∀ (g3 : Nat) (va vb vc : Value) (W : World), v1.grownBy W none → Below v1.heap.size v1 W → E.Cb v1.heap.size W va (.slice none 0 0) (.slice none 0 0) V.ps [] [] → W.heap[g3]? = some (.cells #[.slice none 0 0, .slice none 0 0, .slice none 0 0, .slice none 0 0] 25 (0, 0)) → v1.heap.size ≤ g3 → E.GH Try.prog cops cQ 43 (fun W => v1.grownBy W none) 6 #[true, true, true, true, false, true, true, false, false, true, true, false, false, true, false] [(1, .pointer (some ⟨g1, 0, none⟩)), (2, .pointer (some ⟨g2, 0, none⟩)), (8, .slice m.A V.ps.length m.a), (12, .slice m.B V.qs.length m.b), (16, .slice m.C V.ts.length m.c), (3, .pointer (some ⟨g3, 0, none⟩)), (9, va)] W := by
      intro g3 va vb vc W hh K hC b3 h3
      refine E.GH.all (rs := [4, 8]) (by rw [hops]; kernel_rfl) (by simp) (E.GHs.cons ((congrArg (fun (o : Array Oper) => o[4]?) hops).trans rfl) ?_ (E.GHs.cons ((congrArg (fun (o : Array Oper) => o[8]?) hops).trans rfl) ?_ (E.GHs.nil)))
      · refine E.GO.st rfl rfl rfl (E.ST.litAt kI v1.heap.size (w0 := v1) (ys := ([] : List Int)) (inner := []) rfl rfl E.epn lit22n (Reps.none _ _) K K.size (by simp) fun u w3 r k l n => ⟨hh.trans (E.gbB l), ?_⟩)
        exact E.GH.meet (S1101001 g3 va u vc w3 (hh.trans (E.gbB l)) k ((hC.s12.make r l n).s12) (blk_below b3 l) h3) (by kernel_rfl) (E.subc rfl (E.subc rfl (E.subc rfl (E.subc rfl (E.subc rfl (E.subc rfl (E.subc rfl (E.subc rfl (E.subn)))))))))
      · refine E.GO.st rfl rfl rfl (E.ST.litAt kI v1.heap.size (w0 := v1) (ys := ([] : List Int)) (inner := []) rfl rfl E.epn lit22n (Reps.none _ _) K K.size (by simp) fun u w3 r k l n => ⟨hh.trans (E.gbB l), ?_⟩)
        exact E.GH.meet (S1011001 g3 va vb u w3 (hh.trans (E.gbB l)) k ((hC.s13.make r l n).s13) (blk_below b3 l) h3) (by kernel_rfl) (E.subc rfl (E.subc rfl (E.subc rfl (E.subc rfl (E.subc rfl (E.subc rfl (E.subc rfl (E.subc rfl (E.subn)))))))))
    have S0110001 : ∀ (g3 : Nat) (va vb vc : Value) (W : World), v1.grownBy W none → Below v1.heap.size v1 W → E.Cb v1.heap.size W (.slice none 0 0) vb vc [] [] [] → W.heap[g3]? = some (.cells #[.slice none 0 0, .slice none 0 0, .slice none 0 0, .slice none 0 0] 25 (0, 0)) → v1.heap.size ≤ g3 → E.GH Try.prog cops cQ 43 (fun W => v1.grownBy W none) 6 #[false, true, true, false, true, true, true, false, true, true, true, false, false, true, false] [(1, .pointer (some ⟨g1, 0, none⟩)), (2, .pointer (some ⟨g2, 0, none⟩)), (8, .slice m.A V.ps.length m.a), (12, .slice m.B V.qs.length m.b), (16, .slice m.C V.ts.length m.c), (3, .pointer (some ⟨g3, 0, none⟩)), (10, vb), (14, vc)] W := by
      intro g3 va vb vc W hh K hC b3 h3
      refine E.GH.all (rs := [0]) (by rw [hops]; kernel_rfl) (by simp) (E.GHs.cons ((congrArg (fun (o : Array Oper) => o[0]?) hops).trans rfl) ?_ (E.GHs.nil))
      · refine E.GO.st rfl rfl rfl (E.ST.litAt kI v1.heap.size (w0 := v1) (ys := ([] : List Int)) (inner := []) rfl rfl E.epn lit22n (Reps.none _ _) K K.size (by simp) fun u w3 r k l n => ⟨hh.trans (E.gbB l), ?_⟩)
        exact E.GH.meet (S1110001 g3 u vb vc w3 (hh.trans (E.gbB l)) k ((hC.make r l n)) (blk_below b3 l) h3) (by kernel_rfl) (E.subc rfl (E.subc rfl (E.subc rfl (E.subc rfl (E.subc rfl (E.subc rfl (E.subc rfl (E.subc rfl (E.subc rfl (E.subn))))))))))
    have S1100000 : ∀ (g3 : Nat) (va vb vc : Value) (W : World), v1.grownBy W none → Below v1.heap.size v1 W → E.Cb v1.heap.size W va vb (.slice none 0 0) [] [] [] → E.GH Try.prog cops cQ 43 (fun W => v1.grownBy W none) 7 #[true, true, true, false, true, true, true, false, false, true, true, false, false, false, false] [(1, .pointer (some ⟨g1, 0, none⟩)), (2, .pointer (some ⟨g2, 0, none⟩)), (8, .slice m.A V.ps.length m.a), (12, .slice m.B V.qs.length m.b), (16, .slice m.C V.ts.length m.c), (6, va), (10, vb)] W := by
      intro g3 va vb vc W hh K hC
      refine E.GH.all (rs := [3, 8, 13]) (by rw [hops]; kernel_rfl) (by simp) (E.GHs.cons ((congrArg (fun (o : Array Oper) => o[3]?) hops).trans rfl) ?_ (E.GHs.cons ((congrArg (fun (o : Array Oper) => o[8]?) hops).trans rfl) ?_ (E.GHs.cons ((congrArg (fun (o : Array Oper) => o[13]?) hops).trans rfl) ?_ (E.GHs.nil))))
      · refine E.GO.st rfl rfl rfl (E.ST.appendAt kI v1.heap.size (w0 := v1) (s := .tmp 6) (x := .tmp 8) rfl hu22 info3 rfl (by decide) (by decide) rfl rfl hC.a (Kd.C_below hVv.ps K) made22 K K.size (by have := hs.p; simp only [List.length_nil]; omega) fun u w3 r k gr n => ⟨E.gb_row hh gr (fun i hi => Kd.R_base hC.a i hi), ?_⟩)
        rw [List.nil_append] at r
        exact E.GH.meet (S1101000 0 u vb vc w3 (E.gb_row hh gr (fun i hi => Kd.R_base hC.a i hi)) k ((hC.grow r gr n))) (by kernel_rfl) (E.subc rfl (E.subc rfl (E.subc rfl (E.subc rfl (E.subc rfl (E.subc rfl (E.subc rfl (E.subn))))))))
      · refine E.GO.st rfl rfl rfl (E.ST.litAt kI v1.heap.size (w0 := v1) (ys := ([] : List Int)) (inner := []) rfl rfl E.epn lit22n (Reps.none _ _) K K.size (by simp) fun u w3 r k l n => ⟨hh.trans (E.gbB l), ?_⟩)
        exact E.GH.meet (S1110000 0 va vb u w3 (hh.trans (E.gbB l)) k ((hC.s13.make r l n).s13)) (by kernel_rfl) (E.subc rfl (E.subc rfl (E.subc rfl (E.subc rfl (E.subc rfl (E.subc rfl (E.subc rfl (E.subc rfl (E.subn)))))))))
      · refine E.GO.st rfl rfl rfl (E.ST.alloc rfl info25z fun g3 w3 e3 b3 l3 => ⟨hh.trans (E.gbB l3), ?_⟩)
        exact E.GH.meet (S1100001 g3 va vb vc w3 (hh.trans (E.gbB l3)) (below_step K l3) (hC.below l3) b3 (by rw [e3]; exact K.size)) (by kernel_rfl) (E.subc rfl (E.subc rfl (E.subc rfl (E.subc rfl (E.subc rfl (E.subc rfl (E.subc rfl (E.subc rfl (E.subn)))))))))
    have S1010000 : ∀ (g3 : Nat) (va vb vc : Value) (W : World), v1.grownBy W none → Below v1.heap.size v1 W → E.Cb v1.heap.size W va (.slice none 0 0) vc [] [] [] → E.GH Try.prog cops cQ 43 (fun W => v1.grownBy W none) 7 #[true, true, true, false, false, true, true, false, true, true, true, false, false, false, false] [(1, .pointer (some ⟨g1, 0, none⟩)), (2, .pointer (some ⟨g2, 0, none⟩)), (8, .slice m.A V.ps.length m.a), (12, .slice m.B V.qs.length m.b), (16, .slice m.C V.ts.length m.c), (6, va), (14, vc)] W := by
      intro g3 va vb vc W hh K hC
      refine E.GH.all (rs := [3, 4, 13]) (by rw [hops]; kernel_rfl) (by simp) (E.GHs.cons ((congrArg (fun (o : Array Oper) => o[3]?) hops).trans rfl) ?_ (E.GHs.cons ((congrArg (fun (o : Array Oper) => o[4]?) hops).trans rfl) ?_ (E.GHs.cons ((congrArg (fun (o : Array Oper) => o[13]?) hops).trans rfl) ?_ (E.GHs.nil))))
      · refine E.GO.st rfl rfl rfl (E.ST.appendAt kI v1.heap.size (w0 := v1) (s := .tmp 6) (x := .tmp 8) rfl hu22 info3 rfl (by decide) (by decide) rfl rfl hC.a (Kd.C_below hVv.ps K) made22 K K.size (by have := hs.p; simp only [List.length_nil]; omega) fun u w3 r k gr n => ⟨E.gb_row hh gr (fun i hi => Kd.R_base hC.a i hi), ?_⟩)
        rw [List.nil_append] at r
        exact E.GH.meet (S1011000 0 u vb vc w3 (E.gb_row hh gr (fun i hi => Kd.R_base hC.a i hi)) k ((hC.grow r gr n))) (by kernel_rfl) (E.subc rfl (E.subc rfl (E.subc rfl (E.subc rfl (E.subc rfl (E.subc rfl (E.subc rfl (E.subn))))))))
      · refine E.GO.st rfl rfl rfl (E.ST.litAt kI v1.heap.size (w0 := v1) (ys := ([] : List Int)) (inner := []) rfl rfl E.epn lit22n (Reps.none _ _) K K.size (by simp) fun u w3 r k l n => ⟨hh.trans (E.gbB l), ?_⟩)
        exact E.GH.meet (S1110000 0 va u vc w3 (hh.trans (E.gbB l)) k ((hC.s12.make r l n).s12)) (by kernel_rfl) (E.subc rfl (E.subc rfl (E.subc rfl (E.subc rfl (E.subc rfl (E.subc rfl (E.subc rfl (E.subc rfl (E.subn)))))))))
      · refine E.GO.st rfl rfl rfl (E.ST.alloc rfl info25z fun g3 w3 e3 b3 l3 => ⟨hh.trans (E.gbB l3), ?_⟩)
        exact E.GH.meet (S1010001 g3 va vb vc w3 (hh.trans (E.gbB l3)) (below_step K l3) (hC.below l3) b3 (by rw [e3]; exact K.size)) (by kernel_rfl) (E.subc rfl (E.subc rfl (E.subc rfl (E.subc rfl (E.subc rfl (E.subc rfl (E.subc rfl (E.subc rfl (E.subn)))))))))
    have S1001000 : ∀ (g3 : Nat) (va vb vc : Value) (W : World), v1.grownBy W none → Below v1.heap.size v1 W → E.Cb v1.heap.size W va (.slice none 0 0) (.slice none 0 0) V.ps [] [] → E.GH Try.prog cops cQ 43 (fun W => v1.grownBy W none) 7 #[true, true, true, true, false, true, true, false, false, true, true, false, false, false, false] [(1, .pointer (some ⟨g1, 0, none⟩)), (2, .pointer (some ⟨g2, 0, none⟩)), (8, .slice m.A V.ps.length m.a), (12, .slice m.B V.qs.length m.b), (16, .slice m.C V.ts.length m.c), (9, va)] W := by
      intro g3 va vb vc W hh K hC
      refine E.GH.all (rs := [4, 8, 13]) (by rw [hops]; kernel_rfl) (by simp) (E.GHs.cons ((congrArg (fun (o : Array Oper) => o[4]?) hops).trans rfl) ?_ (E.GHs.cons ((congrArg (fun (o : Array Oper) => o[8]?) hops).trans rfl) ?_ (E.GHs.cons ((congrArg (fun (o : Array Oper) => o[13]?) hops).trans rfl) ?_ (E.GHs.nil))))
      · refine E.GO.st rfl rfl rfl (E.ST.litAt kI v1.heap.size (w0 := v1) (ys := ([] : List Int)) (inner := []) rfl rfl E.epn lit22n (Reps.none _ _) K K.size (by simp) fun u w3 r k l n => ⟨hh.trans (E.gbB l), ?_⟩)
        exact E.GH.meet (S1101000 0 va u vc w3 (hh.trans (E.gbB l)) k ((hC.s12.make r l n).s12)) (by kernel_rfl) (E.subc rfl (E.subc rfl (E.subc rfl (E.subc rfl (E.subc rfl (E.subc rfl (E.subc rfl (E.subn))))))))
      · refine E.GO.st rfl rfl rfl (E.ST.litAt kI v1.heap.size (w0 := v1) (ys := ([] : List Int)) (inner := []) rfl rfl E.epn lit22n (Reps.none _ _) K K.size (by simp) fun u w3 r k l n => ⟨hh.trans (E.gbB l), ?_⟩)
        exact E.GH.meet (S1011000 0 va vb u w3 (hh.trans (E.gbB l)) k ((hC.s13.make r l n).s13)) (by kernel_rfl) (E.subc rfl (E.subc rfl (E.subc rfl (E.subc rfl (E.subc rfl (E.subc rfl (E.subc rfl (E.subn))))))))
      · refine E.GO.st rfl rfl rfl (E.ST.alloc rfl info25z fun g3 w3 e3 b3 l3 => ⟨hh.trans (E.gbB l3), ?_⟩)
        exact E.GH.meet (S1001001 g3 va vb vc w3 (hh.trans (E.gbB l3)) (below_step K l3) (hC.below l3) b3 (by rw [e3]; exact K.size)) (by kernel_rfl) (E.subc rfl (E.subc rfl (E.subc rfl (E.subc rfl (E.subc rfl (E.subc rfl (E.subc rfl (E.subn))))))))
    have S1000001 : ∀ (g3 : Nat) (va vb vc : Value) (W : World), v1.grownBy W none → Below v1.heap.size v1 W → E.Cb v1.heap.size W va (.slice none 0 0) (.slice none 0 0) [] [] [] → W.heap[g3]? = some (.cells #[.slice none 0 0, .slice none 0 0, .slice none 0 0, .slice none 0 0] 25 (0, 0)) → v1.heap.size ≤ g3 → E.GH Try.prog cops cQ 43 (fun W => v1.grownBy W none) 7 #[true, true, true, false, false, true, true, false, false, true, true, false, false, true, false] [(1, .pointer (some ⟨g1, 0, none⟩)), (2, .pointer (some ⟨g2, 0, none⟩)), (8, .slice m.A V.ps.length m.a), (12, .slice m.B V.qs.length m.b), (16, .slice m.C V.ts.length m.c), (3, .pointer (some ⟨g3, 0, none⟩)), (6, va)] W := by
      intro g3 va vb vc W hh K hC b3 h3
      refine E.GH.all (rs := [3, 4, 8]) (by rw [hops]; kernel_rfl) (by simp) (E.GHs.cons ((congrArg (fun (o : Array Oper) => o[3]?) hops).trans rfl) ?_ (E.GHs.cons ((congrArg (fun (o : Array Oper) => o[4]?) hops).trans rfl) ?_ (E.GHs.cons ((congrArg (fun (o : Array Oper) => o[8]?) hops).trans rfl) ?_ (E.GHs.nil))))
      · refine E.GO.st rfl rfl rfl (E.ST.appendAt kI v1.heap.size (w0 := v1) (s := .tmp 6) (x := .tmp 8) rfl hu22 info3 rfl (by decide) (by decide) rfl rfl hC.a (Kd.C_below hVv.ps K) made22 K K.size (by have := hs.p; simp only [List.length_nil]; omega) fun u w3 r k gr n => ⟨E.gb_row hh gr (fun i hi => Kd.R_base hC.a i hi), ?_⟩)
        rw [List.nil_append] at r
        exact E.GH.meet (S1001001 g3 u vb vc w3 (E.gb_row hh gr (fun i hi => Kd.R_base hC.a i hi)) k ((hC.grow r gr n)) (blk_grown b3 gr (Kd.R_ne hC.a b3 (by decide))) h3) (by kernel_rfl) (E.subc rfl (E.subc rfl (E.subc rfl (E.subc rfl (E.subc rfl (E.subc rfl (E.subc rfl (E.subn))))))))
      · refine E.GO.st rfl rfl rfl (E.ST.litAt kI v1.heap.size (w0 := v1) (ys := ([] : List Int)) (inner := []) rfl rfl E.epn lit22n (Reps.none _ _) K K.size (by simp) fun u w3 r k l n => ⟨hh.trans (E.gbB l), ?_⟩)
        exact E.GH.meet (S1100001 g3 va u vc w3 (hh.trans (E.gbB l)) k ((hC.s12.make r l n).s12) (blk_below b3 l) h3) (by kernel_rfl) (E.subc rfl (E.subc rfl (E.subc rfl (E.subc rfl (E.subc rfl (E.subc rfl (E.subc rfl (E.subc rfl (E.subn)))))))))
      · refine E.GO.st rfl rfl rfl (E.ST.litAt kI v1.heap.size (w0 := v1) (ys := ([] : List Int)) (inner := []) rfl rfl E.epn lit22n (Reps.none _ _) K K.size (by simp) fun u w3 r k l n => ⟨hh.trans (E.gbB l), ?_⟩)
        exact E.GH.meet (S1010001 g3 va vb u w3 (hh.trans (E.gbB l)) k ((hC.s13.make r l n).s13) (blk_below b3 l) h3) (by kernel_rfl) (E.subc rfl (E.subc rfl (E.subc rfl (E.subc rfl (E.subc rfl (E.subc rfl (E.subc rfl (E.subc rfl (E.subn)))))))))
    have S0110000 : ∀ (g3 : Nat) (va vb vc : Value) (W : World), v1.grownBy W none → Below v1.heap.size v1 W → E.Cb v1.heap.size W (.slice none 0 0) vb vc [] [] [] → E.GH Try.prog cops cQ 43 (fun W => v1.grownBy W none) 7 #[false, true, true, false, true, true, true, false, true, true, true, false, false, false, false] [(1, .pointer (some ⟨g1, 0, none⟩)), (2, .pointer (some ⟨g2, 0, none⟩)), (8, .slice m.A V.ps.length m.a), (12, .slice m.B V.qs.length m.b), (16, .slice m.C V.ts.length m.c), (10, vb), (14, vc)] W := by
      intro g3 va vb vc W hh K hC
      refine E.GH.all (rs := [0, 13]) (by rw [hops]; kernel_rfl) (by simp) (E.GHs.cons ((congrArg (fun (o : Array Oper) => o[0]?) hops).trans rfl) ?_ (E.GHs.cons ((congrArg (fun (o : Array Oper) => o[13]?) hops).trans rfl) ?_ (E.GHs.nil)))
      · refine E.GO.st rfl rfl rfl (E.ST.litAt kI v1.heap.size (w0 := v1) (ys := ([] : List Int)) (inner := []) rfl rfl E.epn lit22n (Reps.none _ _) K K.size (by simp) fun u w3 r k l n => ⟨hh.trans (E.gbB l), ?_⟩)
        exact E.GH.meet (S1110000 0 u vb vc w3 (hh.trans (E.gbB l)) k ((hC.make r l n))) (by kernel_rfl) (E.subc rfl (E.subc rfl (E.subc rfl (E.subc rfl (E.subc rfl (E.subc rfl (E.subc rfl (E.subc rfl (E.subn)))))))))
      · refine E.GO.st rfl rfl rfl (E.ST.alloc rfl info25z fun g3 w3 e3 b3 l3 => ⟨hh.trans (E.gbB l3), ?_⟩)
        exact E.GH.meet (S0110001 g3 va vb vc w3 (hh.trans (E.gbB l3)) (below_step K l3) (hC.below l3) b3 (by rw [e3]; exact K.size)) (by kernel_rfl) (E.subc rfl (E.subc rfl (E.subc rfl (E.subc rfl (E.subc rfl (E.subc rfl (E.subc rfl (E.subc rfl (E.subn)))))))))
    have S0100001 : ∀ (g3 : Nat) (va vb vc : Value) (W : World), v1.grownBy W none → Below v1.heap.size v1 W → E.Cb v1.heap.size W (.slice none 0 0) vb (.slice none 0 0) [] [] [] → W.heap[g3]? = some (.cells #[.slice none 0 0, .slice none 0 0, .slice none 0 0, .slice none 0 0] 25 (0, 0)) → v1.heap.size ≤ g3 → E.GH Try.prog cops cQ 43 (fun W => v1.grownBy W none) 7 #[false, true, true, false, true, true, true, false, false, true, true, false, false, true, false] [(1, .pointer (some ⟨g1, 0, none⟩)), (2, .pointer (some ⟨g2, 0, none⟩)), (8, .slice m.A V.ps.length m.a), (12, .slice m.B V.qs.length m.b), (16, .slice m.C V.ts.length m.c), (3, .pointer (some ⟨g3, 0, none⟩)), (10, vb)] W := by
      intro g3 va vb vc W hh K hC b3 h3
      refine E.GH.all (rs := [0, 8]) (by rw [hops]; kernel_rfl) (by simp) (E.GHs.cons ((congrArg (fun (o : Array Oper) => o[0]?) hops).trans rfl) ?_ (E.GHs.cons ((congrArg (fun (o : Array Oper) => o[8]?) hops).trans rfl) ?_ (E.GHs.nil)))
      · refine E.GO.st rfl rfl rfl (E.ST.litAt kI v1.heap.size (w0 := v1) (ys := ([] : List Int)) (inner := []) rfl rfl E.epn lit22n (Reps.none _ _) K K.size (by simp) fun u w3 r k l n => ⟨hh.trans (E.gbB l), ?_⟩)
        exact E.GH.meet (S1100001 g3 u vb vc w3 (hh.trans (E.gbB l)) k ((hC.make r l n)) (blk_below b3 l) h3) (by kernel_rfl) (E.subc rfl (E.subc rfl (E.subc rfl (E.subc rfl (E.subc rfl (E.subc rfl (E.subc rfl (E.subc rfl (E.subn)))))))))
      · refine E.GO.st rfl rfl rfl (E.ST.litAt kI v1.heap.size (w0 := v1) (ys := ([] : List Int)) (inner := []) rfl rfl E.epn lit22n (Reps.none _ _) K K.size (by simp) fun u w3 r k l n => ⟨hh.trans (E.gbB l), ?_⟩)
        exact E.GH.meet (S0110001 g3 va vb u w3 (hh.trans (E.gbB l)) k ((hC.s13.make r l n).s13) (blk_below b3 l) h3) (by kernel_rfl) (E.subc rfl (E.subc rfl (E.subc rfl (E.subc rfl (E.subc rfl (E.subc rfl (E.subc rfl (E.subc rfl (E.subn)))))))))
    have S0010001 : ∀ (g3 : Nat) (va vb vc : Value) (W : World), v1.grownBy W none → Below v1.heap.size v1 W → E.Cb v1.heap.size W (.slice none 0 0) (.slice none 0 0) vc [] [] [] → W.heap[g3]? = some (.cells #[.slice none 0 0, .slice none 0 0, .slice none 0 0, .slice none 0 0] 25 (0, 0)) → v1.heap.size ≤ g3 → E.GH Try.prog cops cQ 43 (fun W => v1.grownBy W none) 7 #[false, true, true, false, false, true, true, false, true, true, true, false, false, true, false] [(1, .pointer (some ⟨g1, 0, none⟩)), (2, .pointer (some ⟨g2, 0, none⟩)), (8, .slice m.A V.ps.length m.a), (12, .slice m.B V.qs.length m.b), (16, .slice m.C V.ts.length m.c), (3, .pointer (some ⟨g3, 0, none⟩)), (14, vc)] W := by
      intro g3 va vb vc W hh K hC b3 h3
      refine E.GH.all (rs := [0, 4]) (by rw [hops]; kernel_rfl) (by simp) (E.GHs.cons ((congrArg (fun (o : Array Oper) => o[0]?) hops).trans rfl) ?_ (E.GHs.cons ((congrArg (fun (o : Array Oper) => o[4]?) hops).trans rfl) ?_ (E.GHs.nil)))
      · refine E.GO.st rfl rfl rfl (E.ST.litAt kI v1.heap.size (w0 := v1) (ys := ([] : List Int)) (inner := []) rfl rfl E.epn lit22n (Reps.none _ _) K K.size (by simp) fun u w3 r k l n => ⟨hh.trans (E.gbB l), ?_⟩)
        exact E.GH.meet (S1010001 g3 u vb vc w3 (hh.trans (E.gbB l)) k ((hC.make r l n)) (blk_below b3 l) h3) (by kernel_rfl) (E.subc rfl (E.subc rfl (E.subc rfl (E.subc rfl (E.subc rfl (E.subc rfl (E.subc rfl (E.subc rfl (E.subn)))))))))
      · refine E.GO.st rfl rfl rfl (E.ST.litAt kI v1.heap.size (w0 := v1) (ys := ([] : List Int)) (inner := []) rfl rfl E.epn lit22n (Reps.none _ _) K K.size (by simp) fun u w3 r k l n => ⟨hh.trans (E.gbB l), ?_⟩)
        exact E.GH.meet (S0110001 g3 va u vc w3 (hh.trans (E.gbB l)) k ((hC.s12.make r l n).s12) (blk_below b3 l) h3) (by kernel_rfl) (E.subc rfl (E.subc rfl (E.subc rfl (E.subc rfl (E.subc rfl (E.subc rfl (E.subc rfl (E.subc rfl (E.subn)))))))))
    have S1000000 : ∀ (g3 : Nat) (va vb vc : Value) (W : World), v1.grownBy W none → Below v1.heap.size v1 W → E.Cb v1.heap.size W va (.slice none 0 0) (.slice none 0 0) [] [] [] → E.GH Try.prog cops cQ 43 (fun W => v1.grownBy W none) 8 #[true, true, true, false, false, true, true, false, false, true, true, false, false, false, false] [(1, .pointer (some ⟨g1, 0, none⟩)), (2, .pointer (some ⟨g2, 0, none⟩)), (8, .slice m.A V.ps.length m.a), (12, .slice m.B V.qs.length m.b), (16, .slice m.C V.ts.length m.c), (6, va)] W := by
      intro g3 va vb vc W hh K hC
      refine E.GH.all (rs := [3, 4, 8, 13]) (by rw [hops]; kernel_rfl) (by simp) (E.GHs.cons ((congrArg (fun (o : Array Oper) => o[3]?) hops).trans rfl) ?_ (E.GHs.cons ((congrArg (fun (o : Array Oper) => o[4]?) hops).trans rfl) ?_ (E.GHs.cons ((congrArg (fun (o : Array Oper) => o[8]?) hops).trans rfl) ?_ (E.GHs.cons ((congrArg (fun (o : Array Oper) => o[13]?) hops).trans rfl) ?_ (E.GHs.nil)))))
      · refine E.GO.st rfl rfl rfl (E.ST.appendAt kI v1.heap.size (w0 := v1) (s := .tmp 6) (x := .tmp 8) rfl hu22 info3 rfl (by decide) (by decide) rfl rfl hC.a (Kd.C_below hVv.ps K) made22 K K.size (by have := hs.p; simp only [List.length_nil]; omega) fun u w3 r k gr n => ⟨E.gb_row hh gr (fun i hi => Kd.R_base hC.a i hi), ?_⟩)
        rw [List.nil_append] at r
        exact E.GH.meet (S1001000 0 u vb vc w3 (E.gb_row hh gr (fun i hi => Kd.R_base hC.a i hi)) k ((hC.grow r gr n))) (by kernel_rfl) (E.subc rfl (E.subc rfl (E.subc rfl (E.subc rfl (E.subc rfl (E.subc rfl (E.subn)))))))
      · refine E.GO.st rfl rfl rfl (E.ST.litAt kI v1.heap.size (w0 := v1) (ys := ([] : List Int)) (inner := []) rfl rfl E.epn lit22n (Reps.none _ _) K K.size (by simp) fun u w3 r k l n => ⟨hh.trans (E.gbB l), ?_⟩)
        exact E.GH.meet (S1100000 0 va u vc w3 (hh.trans (E.gbB l)) k ((hC.s12.make r l n).s12)) (by kernel_rfl) (E.subc rfl (E.subc rfl (E.subc rfl (E.subc rfl (E.subc rfl (E.subc rfl (E.subc rfl (E.subn))))))))
      · refine E.GO.st rfl rfl rfl (E.ST.litAt kI v1.heap.size (w0 := v1) (ys := ([] : List Int)) (inner := []) rfl rfl E.epn lit22n (Reps.none _ _) K K.size (by simp) fun u w3 r k l n => ⟨hh.trans (E.gbB l), ?_⟩)
        exact E.GH.meet (S1010000 0 va vb u w3 (hh.trans (E.gbB l)) k ((hC.s13.make r l n).s13)) (by kernel_rfl) (E.subc rfl (E.subc rfl (E.subc rfl (E.subc rfl (E.subc rfl (E.subc rfl (E.subc rfl (E.subn))))))))
      · refine E.GO.st rfl rfl rfl (E.ST.alloc rfl info25z fun g3 w3 e3 b3 l3 => ⟨hh.trans (E.gbB l3), ?_⟩)
        exact E.GH.meet (S1000001 g3 va vb vc w3 (hh.trans (E.gbB l3)) (below_step K l3) (hC.below l3) b3 (by rw [e3]; exact K.size)) (by kernel_rfl) (E.subc rfl (E.subc rfl (E.subc rfl (E.subc rfl (E.subc rfl (E.subc rfl (E.subc rfl (E.subn))))))))
    have S0100000 : ∀ (g3 : Nat) (va vb vc : Value) (W : World), v1.grownBy W none → Below v1.heap.size v1 W → E.Cb v1.heap.size W (.slice none 0 0) vb (.slice none 0 0) [] [] [] → E.GH Try.prog cops cQ 43 (fun W => v1.grownBy W none) 8 #[false, true, true, false, true, true, true, false, false, true, true, false, false, false, false] [(1, .pointer (some ⟨g1, 0, none⟩)), (2, .pointer (some ⟨g2, 0, none⟩)), (8, .slice m.A V.ps.length m.a), (12, .slice m.B V.qs.length m.b), (16, .slice m.C V.ts.length m.c), (10, vb)] W := by
      intro g3 va vb vc W hh K hC
      refine E.GH.all (rs := [0, 8, 13]) (by rw [hops]; kernel_rfl) (by simp) (E.GHs.cons ((congrArg (fun (o : Array Oper) => o[0]?) hops).trans rfl) ?_ (E.GHs.cons ((congrArg (fun (o : Array Oper) => o[8]?) hops).trans rfl) ?_ (E.GHs.cons ((congrArg (fun (o : Array Oper) => o[13]?) hops).trans rfl) ?_ (E.GHs.nil))))
      · refine E.GO.st rfl rfl rfl (E.ST.litAt kI v1.heap.size (w0 := v1) (ys := ([] : List Int)) (inner := []) rfl rfl E.epn lit22n (Reps.none _ _) K K.size (by simp) fun u w3 r k l n => ⟨hh.trans (E.gbB l), ?_⟩)
        exact E.GH.meet (S1100000 0 u vb vc w3 (hh.trans (E.gbB l)) k ((hC.make r l n))) (by kernel_rfl) (E.subc rfl (E.subc rfl (E.subc rfl (E.subc rfl (E.subc rfl (E.subc rfl (E.subc rfl (E.subn))))))))
      · refine E.GO.st rfl rfl rfl (E.ST.litAt kI v1.heap.size (w0 := v1) (ys := ([] : List Int)) (inner := []) rfl rfl E.epn lit22n (Reps.none _ _) K K.size (by simp) fun u w3 r k l n => ⟨hh.trans (E.gbB l), ?_⟩)
        exact E.GH.meet (S0110000 0 va vb u w3 (hh.trans (E.gbB l)) k ((hC.s13.make r l n).s13)) (by kernel_rfl) (E.subc rfl (E.subc rfl (E.subc rfl (E.subc rfl (E.subc rfl (E.subc rfl (E.subc rfl (E.subn))))))))
      · refine E.GO.st rfl rfl rfl (E.ST.alloc rfl info25z fun g3 w3 e3 b3 l3 => ⟨hh.trans (E.gbB l3), ?_⟩)
        exact E.GH.meet (S0100001 g3 va vb vc w3 (hh.trans (E.gbB l3)) (below_step K l3) (hC.below l3) b3 (by rw [e3]; exact K.size)) (by kernel_rfl) (E.subc rfl (E.subc rfl (E.subc rfl (E.subc rfl (E.subc rfl (E.subc rfl (E.subc rfl (E.subn))))))))
    have S0010000 : ∀ (g3 : Nat) (va vb vc : Value) (W : World), v1.grownBy W none → Below v1.heap.size v1 W → E.Cb v1.heap.size W (.slice none 0 0) (.slice none 0 0) vc [] [] [] → E.GH Try.prog cops cQ 43 (fun W => v1.grownBy W none) 8 #[false, true, true, false, false, true, true, false, true, true, true, false, false, false, false] [(1, .pointer (some ⟨g1, 0, none⟩)), (2, .pointer (some ⟨g2, 0, none⟩)), (8, .slice m.A V.ps.length m.a), (12, .slice m.B V.qs.length m.b), (16, .slice m.C V.ts.length m.c), (14, vc)] W := by
      intro g3 va vb vc W hh K hC
      refine E.GH.all (rs := [0, 4, 13]) (by rw [hops]; kernel_rfl) (by simp) (E.GHs.cons ((congrArg (fun (o : Array Oper) => o[0]?) hops).trans rfl) ?_ (E.GHs.cons ((congrArg (fun (o : Array Oper) => o[4]?) hops).trans rfl) ?_ (E.GHs.cons ((congrArg (fun (o : Array Oper) => o[13]?) hops).trans rfl) ?_ (E.GHs.nil))))
      · refine E.GO.st rfl rfl rfl (E.ST.litAt kI v1.heap.size (w0 := v1) (ys := ([] : List Int)) (inner := []) rfl rfl E.epn lit22n (Reps.none _ _) K K.size (by simp) fun u w3 r k l n => ⟨hh.trans (E.gbB l), ?_⟩)
        exact E.GH.meet (S1010000 0 u vb vc w3 (hh.trans (E.gbB l)) k ((hC.make r l n))) (by kernel_rfl) (E.subc rfl (E.subc rfl (E.subc rfl (E.subc rfl (E.subc rfl (E.subc rfl (E.subc rfl (E.subn))))))))
      · refine E.GO.st rfl rfl rfl (E.ST.litAt kI v1.heap.size (w0 := v1) (ys := ([] : List Int)) (inner := []) rfl rfl E.epn lit22n (Reps.none _ _) K K.size (by simp) fun u w3 r k l n => ⟨hh.trans (E.gbB l), ?_⟩)
        exact E.GH.meet (S0110000 0 va u vc w3 (hh.trans (E.gbB l)) k ((hC.s12.make r l n).s12)) (by kernel_rfl) (E.subc rfl (E.subc rfl (E.subc rfl (E.subc rfl (E.subc rfl (E.subc rfl (E.subc rfl (E.subn))))))))
      · refine E.GO.st rfl rfl rfl (E.ST.alloc rfl info25z fun g3 w3 e3 b3 l3 => ⟨hh.trans (E.gbB l3), ?_⟩)
        exact E.GH.meet (S0010001 g3 va vb vc w3 (hh.trans (E.gbB l3)) (below_step K l3) (hC.below l3) b3 (by rw [e3]; exact K.size)) (by kernel_rfl) (E.subc rfl (E.subc rfl (E.subc rfl (E.subc rfl (E.subc rfl (E.subc rfl (E.subc rfl (E.subn))))))))
    have S0000001 : ∀ (g3 : Nat) (va vb vc : Value) (W : World), v1.grownBy W none → Below v1.heap.size v1 W → E.Cb v1.heap.size W (.slice none 0 0) (.slice none 0 0) (.slice none 0 0) [] [] [] → W.heap[g3]? = some (.cells #[.slice none 0 0, .slice none 0 0, .slice none 0 0, .slice none 0 0] 25 (0, 0)) → v1.heap.size ≤ g3 → E.GH Try.prog cops cQ 43 (fun W => v1.grownBy W none) 8 #[false, true, true, false, false, true, true, false, false, true, true, false, false, true, false] [(1, .pointer (some ⟨g1, 0, none⟩)), (2, .pointer (some ⟨g2, 0, none⟩)), (8, .slice m.A V.ps.length m.a), (12, .slice m.B V.qs.length m.b), (16, .slice m.C V.ts.length m.c), (3, .pointer (some ⟨g3, 0, none⟩))] W := by
      intro g3 va vb vc W hh K hC b3 h3
      refine E.GH.all (rs := [0, 4, 8]) (by rw [hops]; kernel_rfl) (by simp) (E.GHs.cons ((congrArg (fun (o : Array Oper) => o[0]?) hops).trans rfl) ?_ (E.GHs.cons ((congrArg (fun (o : Array Oper) => o[4]?) hops).trans rfl) ?_ (E.GHs.cons ((congrArg (fun (o : Array Oper) => o[8]?) hops).trans rfl) ?_ (E.GHs.nil))))
      · refine E.GO.st rfl rfl rfl (E.ST.litAt kI v1.heap.size (w0 := v1) (ys := ([] : List Int)) (inner := []) rfl rfl E.epn lit22n (Reps.none _ _) K K.size (by simp) fun u w3 r k l n => ⟨hh.trans (E.gbB l), ?_⟩)
        exact E.GH.meet (S1000001 g3 u vb vc w3 (hh.trans (E.gbB l)) k ((hC.make r l n)) (blk_below b3 l) h3) (by kernel_rfl) (E.subc rfl (E.subc rfl (E.subc rfl (E.subc rfl (E.subc rfl (E.subc rfl (E.subc rfl (E.subn))))))))
      · refine E.GO.st rfl rfl rfl (E.ST.litAt kI v1.heap.size (w0 := v1) (ys := ([] : List Int)) (inner := []) rfl rfl E.epn lit22n (Reps.none _ _) K K.size (by simp) fun u w3 r k l n => ⟨hh.trans (E.gbB l), ?_⟩)
        exact E.GH.meet (S0100001 g3 va u vc w3 (hh.trans (E.gbB l)) k ((hC.s12.make r l n).s12) (blk_below b3 l) h3) (by kernel_rfl) (E.subc rfl (E.subc rfl (E.subc rfl (E.subc rfl (E.subc rfl (E.subc rfl (E.subc rfl (E.subn))))))))
      · refine E.GO.st rfl rfl rfl (E.ST.litAt kI v1.heap.size (w0 := v1) (ys := ([] : List Int)) (inner := []) rfl rfl E.epn lit22n (Reps.none _ _) K K.size (by simp) fun u w3 r k l n => ⟨hh.trans (E.gbB l), ?_⟩)
        exact E.GH.meet (S0010001 g3 va vb u w3 (hh.trans (E.gbB l)) k ((hC.s13.make r l n).s13) (blk_below b3 l) h3) (by kernel_rfl) (E.subc rfl (E.subc rfl (E.subc rfl (E.subc rfl (E.subc rfl (E.subc rfl (E.subc rfl (E.subn))))))))
    have S0000000 : ∀ (g3 : Nat) (va vb vc : Value) (W : World), v1.grownBy W none → Below v1.heap.size v1 W → E.Cb v1.heap.size W (.slice none 0 0) (.slice none 0 0) (.slice none 0 0) [] [] [] → E.GH Try.prog cops cQ 43 (fun W => v1.grownBy W none) 9 #[false, true, true, false, false, true, true, false, false, true, true, false, false, false, false] [(1, .pointer (some ⟨g1, 0, none⟩)), (2, .pointer (some ⟨g2, 0, none⟩)), (8, .slice m.A V.ps.length m.a), (12, .slice m.B V.qs.length m.b), (16, .slice m.C V.ts.length m.c)] W := by
      intro g3 va vb vc W hh K hC
      refine E.GH.all (rs := [0, 4, 8, 13]) (by rw [hops]; kernel_rfl) (by simp) (E.GHs.cons ((congrArg (fun (o : Array Oper) => o[0]?) hops).trans rfl) ?_ (E.GHs.cons ((congrArg (fun (o : Array Oper) => o[4]?) hops).trans rfl) ?_ (E.GHs.cons ((congrArg (fun (o : Array Oper) => o[8]?) hops).trans rfl) ?_ (E.GHs.cons ((congrArg (fun (o : Array Oper) => o[13]?) hops).trans rfl) ?_ (E.GHs.nil)))))
      · refine E.GO.st rfl rfl rfl (E.ST.litAt kI v1.heap.size (w0 := v1) (ys := ([] : List Int)) (inner := []) rfl rfl E.epn lit22n (Reps.none _ _) K K.size (by simp) fun u w3 r k l n => ⟨hh.trans (E.gbB l), ?_⟩)
        exact E.GH.meet (S1000000 0 u vb vc w3 (hh.trans (E.gbB l)) k ((hC.make r l n))) (by kernel_rfl) (E.subc rfl (E.subc rfl (E.subc rfl (E.subc rfl (E.subc rfl (E.subc rfl (E.subn)))))))
      · refine E.GO.st rfl rfl rfl (E.ST.litAt kI v1.heap.size (w0 := v1) (ys := ([] : List Int)) (inner := []) rfl rfl E.epn lit22n (Reps.none _ _) K K.size (by simp) fun u w3 r k l n => ⟨hh.trans (E.gbB l), ?_⟩)
        exact E.GH.meet (S0100000 0 va u vc w3 (hh.trans (E.gbB l)) k ((hC.s12.make r l n).s12)) (by kernel_rfl) (E.subc rfl (E.subc rfl (E.subc rfl (E.subc rfl (E.subc rfl (E.subc rfl (E.subn)))))))
      · refine E.GO.st rfl rfl rfl (E.ST.litAt kI v1.heap.size (w0 := v1) (ys := ([] : List Int)) (inner := []) rfl rfl E.epn lit22n (Reps.none _ _) K K.size (by simp) fun u w3 r k l n => ⟨hh.trans (E.gbB l), ?_⟩)
        exact E.GH.meet (S0010000 0 va vb u w3 (hh.trans (E.gbB l)) k ((hC.s13.make r l n).s13)) (by kernel_rfl) (E.subc rfl (E.subc rfl (E.subc rfl (E.subc rfl (E.subc rfl (E.subc rfl (E.subn)))))))
      · refine E.GO.st rfl rfl rfl (E.ST.alloc rfl info25z fun g3 w3 e3 b3 l3 => ⟨hh.trans (E.gbB l3), ?_⟩)
        exact E.GH.meet (S0000001 g3 va vb vc w3 (hh.trans (E.gbB l3)) (below_step K l3) (hC.below l3) b3 (by rw [e3]; exact K.size)) (by kernel_rfl) (E.subc rfl (E.subc rfl (E.subc rfl (E.subc rfl (E.subc rfl (E.subc rfl (E.subn)))))))
    refine E.GH.take (i := 1) ((congrArg (fun (o : Array Oper) => o[1]?) hops).trans rfl) (by rw [hops]; kernel_rfl) (by rw [hops]; kernel_rfl) (by rw [hops]; kernel_rfl) hcalm rfl rfl rfl (fun w' hS => E.Runs.fieldAddr rfl rfl hu25 rfl (by assumption) rfl) ?_
    refine E.GH.take (i := 2) ((congrArg (fun (o : Array Oper) => o[2]?) hops).trans rfl) (by rw [hops]; kernel_rfl) (by rw [hops]; kernel_rfl) (by rw [hops]; kernel_rfl) hcalm rfl rfl rfl (fun w' hS => E.Runs.load1 rfl rfl hu22 rfl (E.blkc (blk_grown b1 hS E.nen) rfl)) ?_
    refine E.GH.take (i := 5) ((congrArg (fun (o : Array Oper) => o[5]?) hops).trans rfl) (by rw [hops]; kernel_rfl) (by rw [hops]; kernel_rfl) (by rw [hops]; kernel_rfl) hcalm rfl rfl rfl (fun w' hS => E.Runs.fieldAddr rfl rfl hu25 rfl (by assumption) rfl) ?_
    refine E.GH.take (i := 6) ((congrArg (fun (o : Array Oper) => o[6]?) hops).trans rfl) (by rw [hops]; kernel_rfl) (by rw [hops]; kernel_rfl) (by rw [hops]; kernel_rfl) hcalm rfl rfl rfl (fun w' hS => E.Runs.load1 rfl rfl hu22 rfl (E.blkc (blk_grown b1 hS E.nen) rfl)) ?_
    refine E.GH.take (i := 9) ((congrArg (fun (o : Array Oper) => o[9]?) hops).trans rfl) (by rw [hops]; kernel_rfl) (by rw [hops]; kernel_rfl) (by rw [hops]; kernel_rfl) hcalm rfl rfl rfl (fun w' hS => E.Runs.fieldAddr rfl rfl hu25 rfl (by assumption) rfl) ?_
    refine E.GH.take (i := 10) ((congrArg (fun (o : Array Oper) => o[10]?) hops).trans rfl) (by rw [hops]; kernel_rfl) (by rw [hops]; kernel_rfl) (by rw [hops]; kernel_rfl) hcalm rfl rfl rfl (fun w' hS => E.Runs.load1 rfl rfl hu22 rfl (E.blkc (blk_grown b1 hS E.nen) rfl)) ?_
    exact E.GH.meet (S0000000 0 (.slice none 0 0) (.slice none 0 0) (.slice none 0 0) v1 (World.grownBy.refl _ _) (Below.refl _ _) (E.Cb.start _ _)) (by kernel_rfl) (E.subc rfl (E.subc rfl (E.subc rfl (E.subc rfl (E.subc rfl (E.subn))))))
  rintro g3 w11 ⟨m', hCb, b3, h3K, K⟩
  replace b1 := blk_below b1 K
  replace b2 := blk_below b2 K
  have h3_b1 : g1 ≠ g3 := by have := blk_lt s1b1; omega
  have h3_b2 : g2 ≠ g3 := by have := blk_lt s1b2; omega
  have h3_L : w.heap.size ≤ g3 := Nat.le_trans hwv0 h3K
  replace L := below_step L K
  refine E.QG.code ?_
  refine E.CG.seq ?_
  refine E.CG.seq ?_
  refine E.CG.list ?_
  refine E.GL.run rfl rfl rfl (E.Runs.assign rfl rfl) ?_
  refine E.GL.done ?_
  refine E.QG.code ?_
  refine E.CG.block ?_
  have s3_b1 := b1
  have s3_b2 := b2
  have s3_b3 := b3
  have s3_L := L
  refine E.CG.loop2 (fun (i : Nat) (v3 : Value) => [(1, .pointer (some ⟨g1, 0, none⟩)), (2, .pointer (some ⟨g2, 0, none⟩)), (3, .pointer (some ⟨g3, 0, none⟩)), (4, .int .i64 (i : Int))]) (fun i v3 w' => i ≤ V.cs.length ∧ w'.heap[g1]? = some (.cells #[.slice m.A V.ps.length m.a, .slice m.B V.qs.length m.b, .slice m.C V.ts.length m.c, .slice m.D V.cs.length m.d] 25 (0, 0)) ∧ w'.heap[g2]? = some (.cells #[.slice none 0 0, .slice none 0 0, .slice none 0 0, .slice none 0 0] 25 (0, 0)) ∧ w'.heap[g3]? = some (.cells #[.slice m'.A V.ps.length m'.a, .slice m'.B V.qs.length m'.b, .slice m'.C V.ts.length m'.c, v3] 25 (0, 0)) ∧ Kd.R k40 40 w' w.heap.size (fun _ => True) (v3) (V.cs.take i) ∧ E.Cb w.heap.size w' (.slice m'.A V.ps.length m'.a) (.slice m'.B V.qs.length m'.b) (.slice m'.C V.ts.length m'.c) V.ps V.qs V.ts ∧ Below w.heap.size w w') (fun i v3 => V.cs.length - i) 0 (.slice none 0 0) (E.subc rfl (E.subc rfl (E.subc rfl (E.subc rfl E.subn)))) ⟨Nat.zero_le _, b1, b2, b3, Kd.R_nil _ _ _ _ _, hCb, L⟩ ?_
  rintro i v3 w3 ⟨hi, b1, b2, b3, hD, hCb, L⟩
  refine E.CG.seq ?_
  refine E.CG.seq ?_
  refine E.CG.list ?_
  refine E.GL.run rfl rfl rfl (E.Runs.move rfl rfl) ?_
  refine E.GL.run rfl rfl rfl (E.Runs.fieldAddr rfl rfl hu25 rfl (by assumption) rfl) ?_
  refine E.GL.run rfl rfl rfl (E.Runs.load1 rfl rfl hu23 rfl (by first | assumption | exact E.blkc (by assumption) rfl | exact pw_cell_below L (by assumption))) ?_
  refine E.GL.run rfl rfl rfl (E.Runs.len rfl rfl hu23) ?_
  refine E.GL.cmp rfl rfl rfl (fun _ h => (E.Runs.lss rfl rfl rfl h)) (fun h23 => ?_) (fun h23 => ?_)
  · obtain ⟨c, hc⟩ := get_ex (show i < V.cs.length by omega)
    obtain ⟨ad, a0, k0, eA, _, hx0, X⟩ := till_at hV.cs hc
    have hsz := hs.s c (List.mem_of_getElem? hc)
    have Kr := Below.refl w3.heap.size w3
    have hL3 := L.size
    have s5b1 := b1
    have s5b2 := b2
    have s5b3 := b3
    have s5hD := hD
    have s5hCb := hCb
    have s5L := L
    refine E.GL.done ?_
    refine E.QG.code ?_
    refine E.CG.cond_t rfl ?_
    refine E.CG.skip ?_
    refine E.QG.code ?_
    refine E.CG.seq ?_
    refine E.CG.block ?_
    refine E.CG.seq ?_
    refine E.CG.list ?_
    refine E.GL.run rfl rfl rfl (E.Runs.fieldAddr rfl rfl hu25 rfl (by assumption) rfl) ?_
    refine E.GL.run rfl rfl rfl (E.Runs.load1 rfl rfl hu23 rfl (by first | assumption | exact E.blkc (by assumption) rfl | exact pw_cell_below L (by assumption) | exact pw_cell_below Kr (by assumption))) ?_
    refine E.GL.run rfl rfl rfl (E.Runs.move rfl rfl) ?_
    refine E.GL.run rfl rfl rfl (E.Runs.indexAddrA (i := i) rfl rfl rfl hu23 z40 o40 (by omega) eA rfl) ?_
    refine E.GL.run rfl rfl rfl (E.Runs.loads (cs := [.slice a0 c.f0.length k0, .int .i64 c.f1, .int .i64 c.f2, .int .i64 c.f3, .int .i64 c.f4, .int .i64 c.f5]) rfl rfl hu40 rfl info40s (fun j v hv => pw_cell_below L (X j v hv))) ?_
    refine E.GL.st rfl rfl rfl (E.ST.alloc rfl info40z fun g5 w5 e5 b5 l5 => ?_)
    have h5_L : w.heap.size ≤ g5 := by rw [e5]; exact L.size
    have h5_Kr : w3.heap.size ≤ g5 := by rw [e5]; exact Kr.size
    have n5_b1 : g1 ≠ g5 := by have := blk_lt b1; omega
    have n5_b2 : g2 ≠ g5 := by have := blk_lt b2; omega
    have n5_b3 : g3 ≠ g5 := by have := blk_lt b3; omega
    replace b1 := blk_below b1 l5
    replace b2 := blk_below b2 l5
    replace b3 := blk_below b3 l5
    replace L := below_step L l5
    replace Kr := below_step Kr l5
    refine E.GL.store_whole rfl rfl rfl rfl rfl b5 rfl info40s (cells6_one _ _ _ _ _ _ _ _) fun wS5_6 c5 lS5_6 => ?_
    replace b1 := blk_grown b1 lS5_6 (E.nes (by first | assumption | exact Ne.symm (by assumption)))
    replace b2 := blk_grown b2 lS5_6 (E.nes (by first | assumption | exact Ne.symm (by assumption)))
    replace b3 := blk_grown b3 lS5_6 (E.nes (by first | assumption | exact Ne.symm (by assumption)))
    replace L := E.below_own L h5_L lS5_6
    replace Kr := E.below_own Kr h5_Kr lS5_6
    replace b5 := c5
    clear c5
    refine E.GL.done ?_
    refine E.QG.code ?_
    refine E.CG.seq ?_
    refine E.CG.list ?_
    refine E.GL.st rfl rfl rfl (E.ST.litAt kI w3.heap.size (w0 := w3) (ys := ([] : List Int)) (inner := []) rfl rfl E.epn lit22n (Reps.none _ _) Kr Kr.size (by simp) fun u31 w31 r31 k31 l31 n31 => ?_)
    replace b5 := blk_below b5 l31
    replace L := below_step L l31
    replace Kr := k31
    refine E.GL.run rfl rfl rfl (E.Runs.fieldAddr rfl rfl hu40 rfl (by assumption) rfl) ?_
    refine E.GL.run rfl rfl rfl (E.Runs.load1 rfl rfl hu22 rfl (by first | assumption | exact E.blkc (by assumption) rfl | exact pw_cell_below L (by assumption) | exact pw_cell_below Kr (by assumption))) ?_
    refine E.GL.st rfl rfl rfl (E.ST.appendRows kI w3.heap.size (w0 := w3) (s := .tmp 31) (x := .tmp 33) rfl hu22 info3 rfl (by decide) (by decide) rfl rfl r31 (Kd.C_below hx0 L) made22 Kr Kr.size (by simp only [List.length_nil]; omega) fun u34 w34 R34 k34 g34 => ?_)
    replace b5 := blk_grown b5 g34 (Kd.R_ne r31 b5 (by decide))
    replace Kr := k34
    rw [List.nil_append] at R34
    obtain ⟨A34, c34, hv34⟩ := Kd.R_slice R34
    subst hv34
    refine E.GL.run rfl rfl rfl (E.Runs.fieldAddr rfl rfl hu40 rfl (by assumption) rfl) ?_
    refine E.GL.sn rfl rfl (E.ST.storeSl (cs := [.slice a0 c.f0.length k0, .int .i64 c.f1, .int .i64 c.f2, .int .i64 c.f3, .int .i64 c.f4, .int .i64 c.f5]) rfl z22 o22 rfl rfl b5 rfl rfl fun wS6 c5 lS6 => ?_)
    replace Kr := E.below_own Kr h5_Kr lS6
    replace R34 := Kd.R_grown1 R34 rfl lS6 (Kd.R_ne R34 b5 (by decide))
    replace b5 := c5
    replace b1 := blk_below s5b1 Kr
    replace b2 := blk_below s5b2 Kr
    replace b3 := blk_below s5b3 Kr
    replace hD := Kd.R_below s5hD Kr
    replace hCb := s5hCb.below Kr
    replace L := below_step s5L Kr
    refine E.GL.done ?_
    refine E.QG.code ?_
    refine E.CG.list ?_
    refine E.GL.run rfl rfl rfl (E.Runs.fieldAddr rfl rfl hu25 rfl (by assumption) rfl) ?_
    refine E.GL.run rfl rfl rfl (E.Runs.load1 rfl rfl hu23 rfl (by first | assumption | exact E.blkc (by assumption) rfl | exact pw_cell_below L (by assumption) | exact pw_cell_below Kr (by assumption))) ?_
    refine E.GL.run rfl rfl rfl (E.Runs.loads (cs := [.slice A34 c.f0.length c34, .int .i64 c.f1, .int .i64 c.f2, .int .i64 c.f3, .int .i64 c.f4, .int .i64 c.f5]) rfl rfl hu40 rfl info40s (blk_cells b5)) ?_
    refine E.GL.st rfl rfl rfl (E.ST.lit rfl (E.epc rfl E.epn) (lit23 _ _ _ _ _ _ _ _) ?_)
    refine E.GL.st rfl rfl rfl (E.ST.appendR k40 w.heap.size (w0 := w) (s := .tmp 37) (x := .tmp 39) rfl hu23 info40b rfl (by decide) (by decide) c rfl rfl (k40_mkM _ _ _ c (E.apart_R (Kd.R_lower R34 hL3) hD (by decide))) hD L L.size (by rw [List.length_take]; omega) fun u40 w40 r40 k40' gr40 at40 => ?_)
    replace b1 := blk_grown b1 gr40 (Kd.R_ne hD b1 (by decide))
    replace b2 := blk_grown b2 gr40 (Kd.R_ne hD b2 (by decide))
    replace b3 := blk_grown b3 gr40 (Kd.R_ne hD b3 (by decide))
    replace hCb := hCb.rowed hD (by decide) gr40
    replace L := k40'
    replace hD := r40
    rw [E.take_snoc hc] at hD
    obtain ⟨D', d', hv40⟩ := Kd.R_slice hD
    rw [List.length_take, Nat.min_eq_left (show i + 1 ≤ V.cs.length by omega)] at hv40
    subst hv40
    refine E.GL.run rfl rfl rfl (E.Runs.fieldAddr rfl rfl hu25 rfl (by assumption) rfl) ?_
    refine E.GL.sn rfl rfl (E.ST.storeSl (cs := [.slice m'.A V.ps.length m'.a, .slice m'.B V.qs.length m'.b, .slice m'.C V.ts.length m'.c, v3]) rfl z23 o23 rfl rfl b3 rfl rfl fun wS7 c3 lS7 => ?_)
    replace b1 := blk_grown b1 lS7 (E.nes h3_b1)
    replace b2 := blk_grown b2 lS7 (E.nes h3_b2)
    replace hD := E.R_over hD b3 (by decide) lS7
    replace hCb := hCb.over b3 (by decide) lS7
    replace L := E.below_own L h3_L lS7
    replace b3 := c3
    refine E.GL.done ?_
    refine E.QG.block_normal ?_
    refine E.QG.code ?_
    refine E.CG.list ?_
    refine E.GL.run rfl rfl rfl (E.Runs.move rfl rfl) ?_
    refine E.GL.run rfl rfl rfl (E.Runs.add rfl rfl rfl (IntWalk.i64_in _ (by omega))) ?_
    refine E.GL.run rfl rfl rfl (E.Runs.assign rfl rfl) ?_
    refine E.GL.done ?_
    exact E.QG.round2 (d := .slice none 0 0) (i + 1) _ (E.subc rfl (E.subc rfl (E.subc rfl (E.subc rfl E.subn)))) ⟨by omega, b1, b2, b3, hD, hCb, L⟩ (by omega)
  · obtain rfl : i = V.cs.length := by omega
    rw [List.take_length] at hD
    obtain ⟨D, d, rfl⟩ := Kd.R_slice hD
    refine E.GL.done ?_
    refine E.QG.code ?_
    refine E.CG.cond_f rfl ?_
    refine E.CG.exit ?_
    refine E.QG.pass_exit ?_
    refine E.QG.pass_exit ?_
    refine E.QG.block_here ?_
    refine E.QG.code ?_
    refine E.CG.seq ?_
    have s8b2 := b2
    refine E.CG.list ?_
    refine E.GL.run rfl rfl rfl (E.Runs.loads (cs := [.slice m'.A V.ps.length m'.a, .slice m'.B V.qs.length m'.b, .slice m'.C V.ts.length m'.c, .slice D V.cs.length d]) rfl rfl hu25 rfl info25s (blk_cells b3)) ?_
    refine E.GL.store_whole rfl rfl rfl rfl rfl b2 rfl info25s (slices4_one _ _ _ _ _ _ _ _ _ _ _ _) fun wS8_1 c2 lS8_1 => ?_
    replace b1 := blk_grown b1 lS8_1 (E.nes (by first | assumption | exact Ne.symm (by assumption)))
    replace b3 := blk_grown b3 lS8_1 (E.nes (by first | assumption | exact Ne.symm (by assumption)))
    replace L := E.below_own L h2_L lS8_1
    replace b2 := c2
    clear c2
    refine E.GL.done ?_
    refine E.QG.code ?_
    refine E.CG.ret ?_
    exact E.QG.result_c rfl rfl b2 hu25 rfl info25s ⟨⟨m'.A, m'.a, m'.B, m'.b, m'.C, m'.c, D, d⟩, rfl, ⟨hCb.over s8b2 (by decide) lS8_1, E.R_over hD s8b2 (by decide) lS8_1⟩, L⟩

end Go.Proofs.Ytiplichdhcmjdaa.T
namespace Go.Proofs.Ytiplichdhcmjdaa.T
open Go.RowKit Go.Proofs.YtiplichdhcmjdaaW.PrintWords Go.Proofs.YtiplichdhcmjdaaW.PrintMore
open Go.Proofs.Ytiplichdhcmjdaa.P
set_option linter.unusedVariables false
set_option linter.unusedSimpArgs false

/-- The chapter's example. -/
abbrev eV : Ev := ⟨[5, 8], [7, 6], [7, 5], [⟨[4, 2], 100, 106, 0, 10, 46⟩, ⟨[3, 3], 200, 208, 1, 0, 47⟩]⟩
def eL : List (List (List Int)) := [[[4, 2], [3, 4]]]
theorem ex_ok : VOk eV := by decide
theorem ex_sz : Sz eV := ex_ok.sz
theorem ex_parts : partsA eV = (1, 1) := by kernel_rfl
theorem ex_chk : chkV eV = 0 := chkV_yes ex_ok
theorem ex_0 : trL eV eV.cs.length 0 ((0 : Nat) : Int) (bl eV.qs) = [] := by kernel_rfl
theorem ex_1 : trL eV eV.cs.length 0 ((1 : Nat) : Int) (bl eV.qs) = eL := by kernel_rfl
theorem ex_lik : LikR eV eL 1 := by
  have h0 : ∀ t, Truth eV t → ((0 : Nat) : Int) ≤ flT eV 0 t := fun t _ => (flT_01 eV t 0).1
  have h1 := tr_none ex_ok h0 ex_0
  have h2 := tr_some ex_ok h1 (by rw [ex_1]; exact List.cons_ne_nil _ _)
  rw [ex_1] at h2
  exact h2
theorem ex_lk : (∃ t, Truth eV t) ∧ fewN eV = 1 ∧ LkS eV eL := by
  rcases ex_lik with h | h
  · exact absurd h.2.1 (List.cons_ne_nil _ _)
  · exact ⟨h.1, h.2.2.1.symm, h.2.2.2.1⟩
theorem ex_err : errV eV = 0 := by
  obtain ⟨⟨t, ht⟩, _⟩ := ex_lk
  exact errV_ok ex_ok ht
theorem ex_few : fewA eV = 1 := by unfold fewA; rw [if_pos ex_err, ex_lk.2.1]
theorem ex_errT : errT eV 1 1 = 0 := by
  obtain ⟨⟨t, ht⟩, _⟩ := ex_lk
  exact errT_ok ex_ok (by decide) ht
theorem ex_span : loV eV 1 1 (fun b => b.get (1 : Int).toNat) = 4 ∧ hiV eV 1 1 (fun b => b.get (1 : Int).toNat) = 4 := by
  have h := span_r (q := fun b => b.get (1 : Int).toNat) (till := 1) (sh := 1) ex_ok ex_lk.2.2 (by decide) ex_errT (f := fRe 1 1) (fun t b _ k1 _ => fRe_q (by decide) (by decide) k1) (o0 := [[4, 2], [3, 4]]) (List.mem_singleton.mpr rfl)
  exact ⟨h.1.trans (by kernel_rfl), h.2.trans (by kernel_rfl)⟩
theorem ex_susp : tA eV (suspP eV) = [1] := by
  obtain ⟨⟨t, ht⟩, _, hS⟩ := ex_lk
  have h0 : ¬ suspP eV 0 := fun h => absurd ((cnt_susp ex_ok hS (by decide)).mpr h) (by decide)
  have h1 : suspP eV 1 := (cnt_susp ex_ok hS (by decide)).mp (by decide)
  rw [tA_ok ex_ok ht]
  show tL eV (suspP eV) 2 = _
  rw [tL_yes h1, tL_no h0]
  rfl
set_option maxRecDepth 100000 in
theorem lit22_2 (a b : Int) (W : World) : (Instr.buildSlice 22 2 #[(0, .int .i64 a), (1, .int .i64 b)]).run Try.prog W = .ok (.slice (some ⟨W.heap.size, 0, none⟩) 2 2) (W.alloc (.cells (([a, b] : List Int).map (Value.int .i64)).toArray 3 (0, 0))) := by
  have hu22 := Try.underlying22
  go_simp
def six40 (A : Option Addr) (x : S40) (k : Nat) : List Value := [.slice A x.f0.length k, .int .i64 x.f1, .int .i64 x.f2, .int .i64 x.f3, .int .i64 x.f4, .int .i64 x.f5]
set_option maxRecDepth 100000 in
theorem lit23_2 (A B : Option Addr) (n c m d a1 a2 a3 a4 a5 b1 b2 b3 b4 b5 : Nat) (W : World) : (Instr.buildSlice 23 2 #[(0, .agg #[.slice A n c, .int .i64 a1, .int .i64 a2, .int .i64 a3, .int .i64 a4, .int .i64 a5]), (1, .agg #[.slice B m d, .int .i64 b1, .int .i64 b2, .int .i64 b3, .int .i64 b4, .int .i64 b5])]).run Try.prog W = .ok (.slice (some ⟨W.heap.size, 0, none⟩) 2 2) (W.alloc (.cells #[.slice A n c, .int .i64 a1, .int .i64 a2, .int .i64 a3, .int .i64 a4, .int .i64 a5, .slice B m d, .int .i64 b1, .int .i64 b2, .int .i64 b3, .int .i64 b4, .int .i64 b5] 40 (0, 0))) := by
  have hu23 := Try.underlying23
  go_simp
set_option maxRecDepth 100000 in
theorem build40a (A : Option Addr) (n c : Nat) (a b d e : Int) (W : World) : (Instr.build 40 #[(0, .slice A n c), (1, .int .i64 a), (2, .int .i64 b), (4, .int .i64 d), (5, .int .i64 e)]).run Try.prog W = .ok (.agg #[.slice A n c, .int .i64 a, .int .i64 b, .int .i64 0, .int .i64 d, .int .i64 e]) W := by
  have hu3 := Try.underlying3
  have hu22 := Try.underlying22
  have hu40 := Try.underlying40
  go_simp
set_option maxRecDepth 100000 in
theorem build40b (A : Option Addr) (n c : Nat) (a b d e : Int) (W : World) : (Instr.build 40 #[(0, .slice A n c), (1, .int .i64 a), (2, .int .i64 b), (3, .int .i64 d), (5, .int .i64 e)]).run Try.prog W = .ok (.agg #[.slice A n c, .int .i64 a, .int .i64 b, .int .i64 d, .int .i64 0, .int .i64 e]) W := by
  have hu3 := Try.underlying3
  have hu22 := Try.underlying22
  have hu40 := Try.underlying40
  go_simp
set_option maxRecDepth 100000 in
theorem build25f (A B C D : Option Addr) (n c m d k e l f : Nat) (W : World) : (Instr.build 25 #[(0, .slice A n c), (1, .slice B m d), (2, .slice C k e), (3, .slice D l f)]).run Try.prog W = .ok (.agg #[.slice A n c, .slice B m d, .slice C k e, .slice D l f]) W := by
  have hu22 := Try.underlying22
  have hu23 := Try.underlying23
  have hu25 := Try.underlying25
  go_simp
theorem C_tills {w : World} {g : Nat} {A B : Option Addr} {x y : S40} {k k' : Nat} (hx : Kd.C kI w A x.f0.length x.f0) (hy : Kd.C kI w B y.f0.length y.f0) (h1 : x.f0.length ≤ k) (h2 : y.f0.length ≤ k') (hb : w.heap[g]? = some (.cells (six40 A x k ++ six40 B y k').toArray 40 (0, 0))) : Kd.C k40 w (some ⟨g, 0, none⟩) 2 [x, y] := by
  refine ⟨rfl, by omega, fun _ => ⟨_, rfl, ?_⟩⟩
  intro j p hj
  rcases j with _ | _ | j
  · obtain rfl : x = p := by simpa using hj
    refine ⟨six40 A x k, rfl, k40_mk w x h1 hx, fun i u hu => ?_⟩
    have hi : i < 6 := (List.getElem?_eq_some_iff.1 hu).1
    rw [Addr.add_mid, Nat.zero_add, blk_cell hb]
    rw [List.getElem?_toArray, List.getElem?_append_left (by show _ < 6; omega)]
    rw [Nat.zero_mul, Nat.zero_add]
    exact hu
  · obtain rfl : y = p := by simpa using hj
    refine ⟨six40 B y k', rfl, k40_mk w y h2 hy, fun i u hu => ?_⟩
    have hi : i < 6 := (List.getElem?_eq_some_iff.1 hu).1
    rw [Addr.add_mid, Nat.zero_add, blk_cell hb]
    rw [List.getElem?_toArray, List.getElem?_append_right (by show 6 ≤ _; show 6 ≤ (0 + 1) * 6 + i; omega)]
    show (six40 B y k')[(0 + 1) * 6 + i - 6]? = some u
    rw [show (0 + 1) * 6 + i - 6 = i by omega]
    exact hu
  · simp at hj
set_option maxRecDepth 100000 in
set_option maxHeartbeats 8000000 in

theorem example_calls (w : World) :
    Calls Try.prog 43 #[] w fun e w' => ∃ m, e = .returned (hv eV m) ∧ EvM w' eV m ∧ Below w.heap.size w w' := by
  have hu25 := Try.underlying25
  refine E.enter (N := 10) Try.func43 rfl Try.ntmps43 (args := []) (by simp) ?_
  have L := Below.refl w.heap.size w
  refine E.CG.seq ?_
  refine E.CG.list ?_
  refine E.GL.st rfl rfl rfl (E.ST.alloc rfl info25z fun g0 w0 e0 b0 l0 => ?_)
  have h0_L : w.heap.size ≤ g0 := by rw [e0]; exact L.size
  replace L := below_step L l0
  refine E.GL.done ?_
  refine E.QG.code ?_
  refine E.CG.seq ?_
  refine E.CG.list ?_
  refine E.GL.st rfl rfl rfl (E.ST.litB (cs := (([5, 8] : List Int).map (Value.int .i64)).toArray) rfl (E.epc rfl (E.epc rfl E.epn)) (lit22_2 _ _) fun g1 w1 e1 b1 l1 => ?_)
  have h1_L : w.heap.size ≤ g1 := by rw [e1]; exact L.size
  have n1_b0 : g0 ≠ g1 := by have := blk_lt b0; omega
  replace b0 := blk_below b0 l1
  replace L := below_step L l1
  refine E.GL.st rfl rfl rfl (E.ST.litB (cs := (([7, 6] : List Int).map (Value.int .i64)).toArray) rfl (E.epc rfl (E.epc rfl E.epn)) (lit22_2 _ _) fun g2 w2 e2 b2 l2 => ?_)
  have h2_L : w.heap.size ≤ g2 := by rw [e2]; exact L.size
  have n2_b0 : g0 ≠ g2 := by have := blk_lt b0; omega
  have n2_b1 : g1 ≠ g2 := by have := blk_lt b1; omega
  replace b0 := blk_below b0 l2
  replace b1 := blk_below b1 l2
  replace L := below_step L l2
  refine E.GL.st rfl rfl rfl (E.ST.litB (cs := (([7, 5] : List Int).map (Value.int .i64)).toArray) rfl (E.epc rfl (E.epc rfl E.epn)) (lit22_2 _ _) fun g3 w3 e3 b3 l3 => ?_)
  have h3_L : w.heap.size ≤ g3 := by rw [e3]; exact L.size
  have n3_b0 : g0 ≠ g3 := by have := blk_lt b0; omega
  have n3_b1 : g1 ≠ g3 := by have := blk_lt b1; omega
  have n3_b2 : g2 ≠ g3 := by have := blk_lt b2; omega
  replace b0 := blk_below b0 l3
  replace b1 := blk_below b1 l3
  replace b2 := blk_below b2 l3
  replace L := below_step L l3
  refine E.GL.st rfl rfl rfl (E.ST.litB (cs := (([4, 2] : List Int).map (Value.int .i64)).toArray) rfl (E.epc rfl (E.epc rfl E.epn)) (lit22_2 _ _) fun g4 w4 e4 b4 l4 => ?_)
  have h4_L : w.heap.size ≤ g4 := by rw [e4]; exact L.size
  have n4_b0 : g0 ≠ g4 := by have := blk_lt b0; omega
  have n4_b1 : g1 ≠ g4 := by have := blk_lt b1; omega
  have n4_b2 : g2 ≠ g4 := by have := blk_lt b2; omega
  have n4_b3 : g3 ≠ g4 := by have := blk_lt b3; omega
  replace b0 := blk_below b0 l4
  replace b1 := blk_below b1 l4
  replace b2 := blk_below b2 l4
  replace b3 := blk_below b3 l4
  replace L := below_step L l4
  refine E.GL.run rfl rfl rfl (E.Runs.build rfl (E.epc rfl (E.epc rfl (E.epc rfl (E.epc rfl (E.epc rfl E.epn))))) (build40a _ _ _ _ _ _ _)) ?_
  refine E.GL.st rfl rfl rfl (E.ST.litB (cs := (([3, 3] : List Int).map (Value.int .i64)).toArray) rfl (E.epc rfl (E.epc rfl E.epn)) (lit22_2 _ _) fun g6 w6 e6 b6 l6 => ?_)
  have h6_L : w.heap.size ≤ g6 := by rw [e6]; exact L.size
  have n6_b0 : g0 ≠ g6 := by have := blk_lt b0; omega
  have n6_b1 : g1 ≠ g6 := by have := blk_lt b1; omega
  have n6_b2 : g2 ≠ g6 := by have := blk_lt b2; omega
  have n6_b3 : g3 ≠ g6 := by have := blk_lt b3; omega
  have n6_b4 : g4 ≠ g6 := by have := blk_lt b4; omega
  replace b0 := blk_below b0 l6
  replace b1 := blk_below b1 l6
  replace b2 := blk_below b2 l6
  replace b3 := blk_below b3 l6
  replace b4 := blk_below b4 l6
  replace L := below_step L l6
  refine E.GL.run rfl rfl rfl (E.Runs.build rfl (E.epc rfl (E.epc rfl (E.epc rfl (E.epc rfl (E.epc rfl E.epn))))) (build40b _ _ _ _ _ _ _)) ?_
  refine E.GL.st rfl rfl rfl (E.ST.litB (cs := (six40 (some ⟨g4, 0, none⟩) (⟨[4, 2], 100, 106, 0, 10, 46⟩ : S40) 2 ++ six40 (some ⟨g6, 0, none⟩) (⟨[3, 3], 200, 208, 1, 0, 47⟩ : S40) 2).toArray) rfl (E.epc rfl (E.epc rfl E.epn)) (lit23_2 (some ⟨g4, 0, none⟩) (some ⟨g6, 0, none⟩) 2 2 2 2 100 106 0 10 46 200 208 1 0 47) fun g8 w8 e8 b8 l8 => ?_)
  have h8_L : w.heap.size ≤ g8 := by rw [e8]; exact L.size
  have n8_b0 : g0 ≠ g8 := by have := blk_lt b0; omega
  have n8_b1 : g1 ≠ g8 := by have := blk_lt b1; omega
  have n8_b2 : g2 ≠ g8 := by have := blk_lt b2; omega
  have n8_b3 : g3 ≠ g8 := by have := blk_lt b3; omega
  have n8_b4 : g4 ≠ g8 := by have := blk_lt b4; omega
  have n8_b6 : g6 ≠ g8 := by have := blk_lt b6; omega
  replace b0 := blk_below b0 l8
  replace b1 := blk_below b1 l8
  replace b2 := blk_below b2 l8
  replace b3 := blk_below b3 l8
  replace b4 := blk_below b4 l8
  replace b6 := blk_below b6 l8
  replace L := below_step L l8
  refine E.GL.run rfl rfl rfl (E.Runs.build rfl (E.epc rfl (E.epc rfl (E.epc rfl (E.epc rfl E.epn)))) (build25f _ _ _ _ _ _ _ _ _ _ _ _)) ?_
  refine E.GL.store_whole rfl rfl rfl rfl rfl b0 rfl info25s (slices4_one _ _ _ _ _ _ _ _ _ _ _ _) fun wS1_9 c0 lS1_9 => ?_
  replace b1 := blk_grown b1 lS1_9 (E.nes (by first | assumption | exact Ne.symm (by assumption)))
  replace b2 := blk_grown b2 lS1_9 (E.nes (by first | assumption | exact Ne.symm (by assumption)))
  replace b3 := blk_grown b3 lS1_9 (E.nes (by first | assumption | exact Ne.symm (by assumption)))
  replace b4 := blk_grown b4 lS1_9 (E.nes (by first | assumption | exact Ne.symm (by assumption)))
  replace b6 := blk_grown b6 lS1_9 (E.nes (by first | assumption | exact Ne.symm (by assumption)))
  replace b8 := blk_grown b8 lS1_9 (E.nes (by first | assumption | exact Ne.symm (by assumption)))
  replace L := E.below_own L h0_L lS1_9
  replace b0 := c0
  clear c0
  refine E.GL.done ?_
  refine E.QG.code ?_
  refine E.CG.ret ?_
  exact E.QG.result_c rfl rfl b0 hu25 rfl info25s ⟨⟨some ⟨g1, 0, none⟩, 2, some ⟨g2, 0, none⟩, 2, some ⟨g3, 0, none⟩, 2, some ⟨g8, 0, none⟩, 2⟩, rfl, ⟨C_nums [5, 8] b1 (by decide), C_nums [7, 6] b2 (by decide), C_nums [7, 5] b3 (by decide), C_tills (x := (⟨[4, 2], 100, 106, 0, 10, 46⟩ : S40)) (y := (⟨[3, 3], 200, 208, 1, 0, 47⟩ : S40)) (C_nums [4, 2] b4 (by decide)) (C_nums [3, 3] b6 (by decide)) (by decide) (by decide) b8⟩, L⟩

end Go.Proofs.Ytiplichdhcmjdaa.T
namespace Go.Proofs.Ytiplichdhcmjdaa.T
open Go.RowKit Go.Proofs.YtiplichdhcmjdaaW.PrintWords Go.Proofs.YtiplichdhcmjdaaW.PrintMore
open Go.Proofs.Ytiplichdhcmjdaa.P
set_option linter.unusedVariables false
set_option linter.unusedSimpArgs false

set_option maxRecDepth 100000 in
theorem equal34 (a b : Int) (W : World) : (Op.equal 34 (.agg #[.int .i64 a, .int .i64 b]) (.agg #[.int .i64 a, .int .i64 b])).run Try.prog W = .ok true W := by
  have hu3 := Try.underlying3
  have hu34 := Try.underlying34
  have h34 := Try.stoodInHeld34
  unfold Op.equal Op.maxDepth
  go_simp
set_option maxRecDepth 100000 in
theorem lit22_1 (a : Int) (W : World) : (Instr.buildSlice 22 1 #[(0, .int .i64 a)]).run Try.prog W = .ok (.slice (some ⟨W.heap.size, 0, none⟩) 1 1) (W.alloc (.cells (([a] : List Int).map (Value.int .i64)).toArray 3 (0, 0))) := lit22 a W
set_option maxRecDepth 100000 in
set_option maxHeartbeats 8000000 in

theorem works_calls (w : World) :
    Calls Try.prog 13 #[] w fun e w' => e = .returned (.bool true) ∧ Below w.heap.size w w' := by
  have hu3 := Try.underlying3
  have hu22 := Try.underlying22
  have hu25 := Try.underlying25
  have hu28 := Try.underlying28
  have hu34 := Try.underlying34
  refine E.enter (N := 69) Try.func13 rfl Try.ntmps13 (args := []) (by simp) ?_
  have L := Below.refl w.heap.size w
  refine E.CG.seq ?_
  refine E.CG.list ?_
  refine E.GL.run rfl rfl rfl (E.Runs.assign rfl rfl) ?_
  refine E.GL.done ?_
  refine E.QG.code ?_
  refine E.CG.seq ?_
  refine E.CG.list ?_
  refine E.GL.st rfl rfl rfl (E.ST.call rfl ent43 E.evn ((example_calls _).mono ?_))
  rintro e w11 ⟨m, rfl, hEv, l11⟩
  refine ⟨_, rfl, ?_⟩
  replace L := below_step L l11
  have lo := Below.refl w11.heap.size w11
  refine E.GL.st rfl rfl rfl (E.ST.alloc rfl info25z fun g1 w1 e1 b1 l1 => ?_)
  have h1_L : w.heap.size ≤ g1 := by rw [e1]; exact L.size
  have h1_lo : w11.heap.size ≤ g1 := by rw [e1]; exact lo.size
  replace L := below_step L l1
  replace lo := below_step lo l1
  refine E.GL.store_whole rfl rfl rfl rfl rfl b1 rfl info25s (slices4_one _ _ _ _ _ _ _ _ _ _ _ _) fun wS1_2 c1 lS1_2 => ?_
  replace L := E.below_own L h1_L lS1_2
  replace lo := E.below_own lo h1_lo lS1_2
  replace b1 := c1
  clear c1
  refine E.GL.done ?_
  refine E.QG.code ?_
  refine E.CG.seq ?_
  refine E.CG.list ?_
  refine E.GL.run rfl rfl rfl (E.Runs.loads (cs := [.slice m.A 2 m.a, .slice m.B 2 m.b, .slice m.C 2 m.c, .slice m.D 2 m.d]) rfl rfl hu25 rfl info25s (blk_cells b1)) ?_
  refine E.GL.st rfl rfl rfl (E.ST.call rfl ent14 (E.evc rfl E.evn) ((parts14 eV m _ (hEv.below lo) ex_sz).mono ?_))
  rintro e w14 ⟨rfl, l14⟩
  refine ⟨_, rfl, ?_⟩
  replace b1 := blk_below b1 l14
  replace L := below_step L l14
  replace lo := below_step lo l14
  rw [ex_parts, ex_chk]
  refine E.GL.run rfl rfl rfl (E.Runs.move rfl rfl) ?_
  refine E.GL.run rfl rfl rfl (E.Runs.extract rfl rfl rfl) ?_
  refine E.GL.run rfl rfl rfl (E.Runs.extract rfl rfl rfl) ?_
  refine E.GL.run rfl rfl rfl (E.Runs.extract rfl rfl rfl) ?_
  refine E.GL.run rfl rfl rfl (E.Runs.assign rfl rfl) ?_
  refine E.GL.run rfl rfl rfl (E.Runs.assign rfl rfl) ?_
  refine E.GL.run rfl rfl rfl (E.Runs.assign rfl rfl) ?_
  refine E.GL.done ?_
  refine E.QG.code ?_
  refine E.CG.seq ?_
  refine E.CG.list ?_
  refine E.GL.run rfl rfl rfl (E.Runs.loads (cs := [.slice m.A 2 m.a, .slice m.B 2 m.b, .slice m.C 2 m.c, .slice m.D 2 m.d]) rfl rfl hu25 rfl info25s (blk_cells b1)) ?_
  refine E.GL.st rfl rfl rfl (E.ST.call rfl ent15 (E.evc rfl E.evn) ((fewest_calls eV m _ (hEv.below lo) ex_sz).mono ?_))
  rintro e w20 ⟨rfl, l20⟩
  refine ⟨_, rfl, ?_⟩
  replace b1 := blk_below b1 l20
  replace L := below_step L l20
  replace lo := below_step lo l20
  rw [ex_few, ex_err]
  refine E.GL.run rfl rfl rfl (E.Runs.move rfl rfl) ?_
  refine E.GL.run rfl rfl rfl (E.Runs.extract rfl rfl rfl) ?_
  refine E.GL.run rfl rfl rfl (E.Runs.extract rfl rfl rfl) ?_
  refine E.GL.run rfl rfl rfl (E.Runs.assign rfl rfl) ?_
  refine E.GL.run rfl rfl rfl (E.Runs.assign rfl rfl) ?_
  refine E.GL.done ?_
  refine E.QG.code ?_
  refine E.CG.seq ?_
  refine E.CG.list ?_
  refine E.GL.run rfl rfl rfl (E.Runs.loads (cs := [.slice m.A 2 m.a, .slice m.B 2 m.b, .slice m.C 2 m.c, .slice m.D 2 m.d]) rfl rfl hu25 rfl info25s (blk_cells b1)) ?_
  refine E.GL.st rfl rfl rfl (E.ST.call rfl ent16 (E.evc rfl (E.evc rfl (E.evc rfl E.evn))) ((really_calls eV m 1 1 _ (hEv.below lo) ex_sz).mono ?_))
  rintro e w25 ⟨rfl, l25⟩
  refine ⟨_, rfl, ?_⟩
  replace b1 := blk_below b1 l25
  replace L := below_step L l25
  replace lo := below_step lo l25
  rw [ex_span.1, ex_span.2, ex_errT]
  refine E.GL.run rfl rfl rfl (E.Runs.move rfl rfl) ?_
  refine E.GL.run rfl rfl rfl (E.Runs.extract rfl rfl rfl) ?_
  refine E.GL.run rfl rfl rfl (E.Runs.extract rfl rfl rfl) ?_
  refine E.GL.st rfl rfl rfl (E.ST.alloc rfl info34z fun g7 w7 e7 b7 l7 => ?_)
  have h7_L : w.heap.size ≤ g7 := by rw [e7]; exact L.size
  have h7_lo : w11.heap.size ≤ g7 := by rw [e7]; exact lo.size
  have n7_b1 : g1 ≠ g7 := by have := blk_lt b1; omega
  replace b1 := blk_below b1 l7
  replace L := below_step L l7
  replace lo := below_step lo l7
  refine E.GL.store_whole rfl rfl rfl rfl rfl b7 rfl info34s (two_one _ _) fun wS4_6 c7 lS4_6 => ?_
  replace b1 := blk_grown b1 lS4_6 (E.nes (by first | assumption | exact Ne.symm (by assumption)))
  replace L := E.below_own L h7_L lS4_6
  replace lo := E.below_own lo h7_lo lS4_6
  replace b7 := c7
  clear c7
  refine E.GL.run rfl rfl rfl (E.Runs.assign rfl rfl) ?_
  refine E.GL.done ?_
  refine E.QG.code ?_
  refine E.CG.seq ?_
  refine E.CG.list ?_
  refine E.GL.run rfl rfl rfl (E.Runs.loads (cs := [.slice m.A 2 m.a, .slice m.B 2 m.b, .slice m.C 2 m.c, .slice m.D 2 m.d]) rfl rfl hu25 rfl info25s (blk_cells b1)) ?_
  refine E.GL.st rfl rfl rfl (E.ST.call rfl ent17 (E.evc rfl E.evn) ((suspects_calls eV m _ (hEv.below lo) ex_sz).mono ?_))
  rintro e w30 ⟨v30, rfl, R30, l30⟩
  refine ⟨_, rfl, ?_⟩
  replace b1 := blk_below b1 l30
  replace b7 := blk_below b7 l30
  replace L := below_step L l30
  replace lo := below_step lo l30
  have lx := Below.refl w30.heap.size w30
  rw [ex_susp] at R30
  rw [ex_err]
  obtain ⟨A30, c30, hv30⟩ := Kd.R_slice R30
  subst hv30
  obtain ⟨_, _, C30⟩ := Kd.R_reads' R30
  refine E.GL.run rfl rfl rfl (E.Runs.move rfl rfl) ?_
  refine E.GL.run rfl rfl rfl (E.Runs.extract rfl rfl rfl) ?_
  refine E.GL.run rfl rfl rfl (E.Runs.extract rfl rfl rfl) ?_
  refine E.GL.run rfl rfl rfl (E.Runs.assign rfl rfl) ?_
  refine E.GL.run rfl rfl rfl (E.Runs.assign rfl rfl) ?_
  refine E.GL.done ?_
  refine E.QG.code ?_
  refine E.CG.seq ?_
  refine E.CG.list ?_
  refine E.GL.run rfl rfl rfl (E.Runs.move rfl rfl) ?_
  refine E.GL.run rfl rfl rfl (E.Runs.eql rfl rfl rfl (decide_eq_true rfl)) ?_
  refine E.GL.run rfl rfl rfl (E.Runs.move rfl rfl) ?_
  refine E.GL.run rfl rfl rfl (E.Runs.move rfl rfl) ?_
  refine E.GL.run rfl rfl rfl (E.Runs.eql rfl rfl rfl (decide_eq_true rfl)) ?_
  refine E.GL.run rfl rfl rfl (E.Runs.pick_t rfl rfl rfl) ?_
  refine E.GL.run rfl rfl rfl (E.Runs.move rfl rfl) ?_
  refine E.GL.run rfl rfl rfl (E.Runs.move rfl rfl) ?_
  refine E.GL.run rfl rfl rfl (E.Runs.eql rfl rfl rfl (decide_eq_true rfl)) ?_
  refine E.GL.run rfl rfl rfl (E.Runs.pick_t rfl rfl rfl) ?_
  refine E.GL.run rfl rfl rfl (E.Runs.move rfl rfl) ?_
  refine E.GL.run rfl rfl rfl (E.Runs.move rfl rfl) ?_
  refine E.GL.run rfl rfl rfl (E.Runs.eql rfl rfl rfl (decide_eq_true rfl)) ?_
  refine E.GL.run rfl rfl rfl (E.Runs.pick_t rfl rfl rfl) ?_
  refine E.GL.run rfl rfl rfl (E.Runs.move rfl rfl) ?_
  refine E.GL.run rfl rfl rfl (E.Runs.move rfl rfl) ?_
  refine E.GL.run rfl rfl rfl (E.Runs.eql rfl rfl rfl (decide_eq_true rfl)) ?_
  refine E.GL.run rfl rfl rfl (E.Runs.pick_t rfl rfl rfl) ?_
  refine E.GL.run rfl rfl rfl (E.Runs.move rfl rfl) ?_
  refine E.GL.run rfl rfl rfl (E.Runs.move rfl rfl) ?_
  refine E.GL.run rfl rfl rfl (E.Runs.eql rfl rfl rfl (decide_eq_true rfl)) ?_
  refine E.GL.run rfl rfl rfl (E.Runs.pick_t rfl rfl rfl) ?_
  refine E.GL.run rfl rfl rfl (E.Runs.move rfl rfl) ?_
  refine E.GL.run rfl rfl rfl (E.Runs.move rfl rfl) ?_
  refine E.GL.run rfl rfl rfl (E.Runs.eql rfl rfl rfl (decide_eq_true rfl)) ?_
  refine E.GL.run rfl rfl rfl (E.Runs.pick_t rfl rfl rfl) ?_
  refine E.GL.run rfl rfl rfl (E.Runs.move rfl rfl) ?_
  refine E.GL.run rfl rfl rfl (E.Runs.loads (cs := [.int .i64 4, .int .i64 4]) rfl rfl hu34 rfl info34s (blk_cells b7)) ?_
  refine E.GL.run rfl rfl rfl (E.Runs.build rfl (E.epc rfl (E.epc rfl E.epn)) (build34 _ _)) ?_
  refine E.GL.run rfl rfl rfl (E.Runs.eqlv rfl rfl rfl rfl (fun _ _ W => run_eqGuard_agg W _ _ _ _ _ _ Try.eqGuardType34) (equal34 _ _)) ?_
  refine E.GL.run rfl rfl rfl (E.Runs.pick_t rfl rfl rfl) ?_
  refine E.GL.run rfl rfl rfl (E.Runs.move rfl rfl) ?_
  refine E.GL.run rfl rfl rfl (E.Runs.move rfl rfl) ?_
  refine E.GL.st rfl rfl rfl (E.ST.litB (cs := (([1] : List Int).map (Value.int .i64)).toArray) rfl (E.epc rfl E.epn) (lit22_1 _) fun g66 w66 e66 b66 l66 => ?_)
  have h66_L : w.heap.size ≤ g66 := by rw [e66]; exact L.size
  have h66_lo : w11.heap.size ≤ g66 := by rw [e66]; exact lo.size
  have h66_lx : w30.heap.size ≤ g66 := by rw [e66]; exact lx.size
  have n66_b1 : g1 ≠ g66 := by have := blk_lt b1; omega
  have n66_b7 : g7 ≠ g66 := by have := blk_lt b7; omega
  replace b1 := blk_below b1 l66
  replace b7 := blk_below b7 l66
  replace L := below_step L l66
  replace lo := below_step lo l66
  replace lx := below_step lx l66
  refine E.GL.st rfl rfl rfl (E.ST.call rfl ent26 (E.evc rfl (E.evc rfl E.evn)) ((same_calls [1] [1] A30 _ c30 1 _ true (by simp) (Kd.C_below C30 lx) (C_nums [1] b66 (by decide)) (by decide)).mono ?_))
  rintro e w67 ⟨rfl, l67⟩
  refine ⟨_, rfl, ?_⟩
  replace b1 := blk_below b1 l67
  replace b7 := blk_below b7 l67
  replace b66 := blk_below b66 l67
  replace L := below_step L l67
  replace lo := below_step lo l67
  replace lx := below_step lx l67
  refine E.GL.run rfl rfl rfl (E.Runs.pick_t rfl rfl rfl) ?_
  refine E.GL.run rfl rfl rfl (E.Runs.assign rfl rfl) ?_
  refine E.GL.done ?_
  refine E.QG.code ?_
  refine E.CG.ret ?_
  exact E.QG.result rfl rfl ⟨rfl, L⟩

end Go.Proofs.Ytiplichdhcmjdaa.T
namespace Go.Proofs.Ytiplichdhcmjdaa.T
open Go.RowKit Go.Proofs.YtiplichdhcmjdaaW.PrintWords Go.Proofs.YtiplichdhcmjdaaW.PrintMore
open Go.Proofs.Ytiplichdhcmjdaa.P
set_option linter.unusedVariables false
set_option linter.unusedSimpArgs false

end Go.Proofs.Ytiplichdhcmjdaa.T
namespace Go.Proofs.Ytiplichdhcmjdaa.T
open Go.RowKit Go.Proofs.YtiplichdhcmjdaaW.PrintWords Go.Proofs.YtiplichdhcmjdaaW.PrintMore
open Go.Proofs.Ytiplichdhcmjdaa.P
set_option linter.unusedVariables false
set_option linter.unusedSimpArgs false

end Go.Proofs.Ytiplichdhcmjdaa.T
namespace Go.Proofs.Ytiplichdhcmjdaa.T
open Go.RowKit Go.Proofs.YtiplichdhcmjdaaW.PrintWords Go.Proofs.YtiplichdhcmjdaaW.PrintMore
open Go.Proofs.Ytiplichdhcmjdaa.P
set_option linter.unusedVariables false
set_option linter.unusedSimpArgs false

theorem bl_tbs {V : Ev} (ok : VOk V) {t : List Bl} {i : Nat} (h : Ws V i t) : (t.map (tb V.ps.length)).map bl = t := by
  rw [List.map_map]
  refine List.ext_getElem? fun j => ?_
  rw [List.getElem?_map]
  cases hj : t[j]? with
  | none => rfl
  | some b => exact congrArg some (tb_bl ok.n1 ok.n3 (Ws_get h hj))
theorem err_ok {V : Ev} (h : errV V = 0) : VOk V ∧ ∃ t, Truth V t := by
  rcases errV_cases V with ⟨_, h1⟩ | ⟨_, _, h1⟩ | ⟨h1, h2, _⟩
  · rw [h1] at h; cases h
  · rw [h1] at h; cases h
  · exact ⟨h1, h2⟩
/-- What Explain says. -/
structure ExR (V : Ev) (ts : List (List Int)) : Prop where
  ok : VOk V
  t : IsT V ts
  f : flT V 0 (ts.map bl) = fewA V
  l : Lkly V (ts.map bl)
theorem exR_of {V : Ev} (h : errV V = 0) {t : List Bl} (ht : Lkly V t) : ExR V (t.map (tb V.ps.length)) := by
  obtain ⟨ok, _⟩ := err_ok h
  have hm := bl_tbs ok ht.1.2.1
  refine ⟨ok, isT_of ok ht.1, ?_, by rw [hm]; exact ht⟩
  rw [hm, ht.2]
  unfold fewA
  rw [if_pos h]
theorem exR_all {V : Ev} {ts : List (List Int)} (h : (errV V ≠ 0 ∧ ts = []) ∨ (errV V = 0 ∧ ∃ t, Lkly V t ∧ ts = t.map (tb V.ps.length))) : (errV V ≠ 0 → ts.length = 0) ∧ (errV V = 0 → ExR V ts) := by
  rcases h with ⟨h1, rfl⟩ | ⟨h1, t, ht, rfl⟩
  · exact ⟨fun _ => rfl, fun k => absurd k h1⟩
  · exact ⟨fun k => absurd h1 k, fun _ => exR_of h1 ht⟩
end Go.Proofs.Ytiplichdhcmjdaa.T
namespace Go.Proofs.Ytiplichdhcmjdaa.T
open Go.RowKit Go.Proofs.YtiplichdhcmjdaaW.PrintWords Go.Proofs.YtiplichdhcmjdaaW.PrintMore
open Go.Proofs.Ytiplichdhcmjdaa.P
set_option linter.unusedVariables false
set_option linter.unusedSimpArgs false

theorem err_3 {V : Ev} (ok : VOk V) (h : errV V ≠ 0) : errV V = 3 := by
  rcases errV_cases V with ⟨h1, _⟩ | ⟨_, _, h1⟩ | ⟨_, _, h1⟩
  · exact absurd ok h1
  · exact h1
  · exact absurd h1 h
end Go.Proofs.Ytiplichdhcmjdaa.T
namespace Go.Proofs.Ytiplichdhcmjdaa.T
open Go.RowKit Go.Proofs.YtiplichdhcmjdaaW.PrintWords Go.Proofs.YtiplichdhcmjdaaW.PrintMore
open Go.Proofs.Ytiplichdhcmjdaa.P
set_option linter.unusedVariables false
set_option linter.unusedSimpArgs false

end Go.Proofs.Ytiplichdhcmjdaa.T
namespace Go.Proofs.Ytiplichdhcmjdaa.T
open Go.RowKit Go.Proofs.YtiplichdhcmjdaaW.PrintWords Go.Proofs.YtiplichdhcmjdaaW.PrintMore
open Go.Proofs.Ytiplichdhcmjdaa.P
set_option linter.unusedVariables false
set_option linter.unusedSimpArgs false

end Go.Proofs.Ytiplichdhcmjdaa.T
namespace Go.Proofs.Ytiplichdhcmjdaa.T
open Go.RowKit Go.Proofs.YtiplichdhcmjdaaW.PrintWords Go.Proofs.YtiplichdhcmjdaaW.PrintMore
open Go.Proofs.Ytiplichdhcmjdaa.P
set_option linter.unusedVariables false
set_option linter.unusedSimpArgs false

end Go.Proofs.Ytiplichdhcmjdaa.T
namespace Go.Proofs.Ytiplichdhcmjdaa.E
open Go.RowKit Go.Proofs.YtiplichdhcmjdaaW.PrintWords Go.Proofs.YtiplichdhcmjdaaW.PrintMore
open Go.Proofs.Ytiplichdhcmjdaa.P
open Go.Proofs.Ytiplichdhcmjdaa.T
set_option linter.unusedVariables false
set_option linter.unusedSimpArgs false
section
variable {P : Program} {w w' : World} {N : Nat} {env : Env} {o : Oper} {Q : Exit → Act → World → Prop} {K : Value → World → Prop}
theorem ST.storeNS {ty : TypeId} {x y : Operand} {b off : Nat} {A : Option Addr} {n c : Nat} {old : Value} (ho : o.op = .store ty x y) (hz : Sized P ty) (hz1 : P.cellsOf ty = 1) (hx : Ev env x (.pointer (some ⟨b, off, none⟩))) (hy : Ev env y (.slice A n c))
    (h1 : w.cell? ⟨b, off, none⟩ = some old) (h2 : w.frozen? ⟨b, off, none⟩ = false) (h : K undef (w.setCell ⟨b, off, none⟩ (.slice A n c))) : ST P Q N env w o K := by
  intro a ha Kc hK
  have hr : (execOp a.eval o).run P w = .ok .skip (w.setCell ⟨b, off, none⟩ (.slice A n c)) := by
    unfold execOp; rw [ho]; simp only []; rw [ha.eval hx, ha.eval hy]
    obtain ⟨inf, q1, q2⟩ := hz
    simp [go_sem, run_sizeOf w q1, hz1, h1, h2]
  unfold Oper.wp
  rw [hr]
  exact hK undef _ h
end
end Go.Proofs.Ytiplichdhcmjdaa.E
namespace Go.Proofs.Ytiplichdhcmjdaa.T
open Go.RowKit Go.Proofs.YtiplichdhcmjdaaW.PrintWords Go.Proofs.YtiplichdhcmjdaaW.PrintMore
open Go.Proofs.Ytiplichdhcmjdaa.P
theorem rowT_at {W : World} {base g n cap : Nat} {xs : List S40} {i : Nat} {x : S40} (R : Kd.R k40 40 W base (fun _ => True) (.slice (some ⟨g, 0, none⟩) n cap) xs) (hi : xs[i]? = some x) :
    (∃ a0 k0, (∀ j u, ([.slice a0 x.f0.length k0, .int .i64 x.f1, .int .i64 x.f2, .int .i64 x.f3, .int .i64 x.f4, .int .i64 x.f5] : List Value)[j]? = some u → W.cell? ⟨g, i * 6 + j, none⟩ = some u)) ∧ (∀ j, W.frozen? ⟨g, i * 6 + j, none⟩ = false) ∧
      (∀ (v : Value) (l : List Int), Kd.R (Kd.int .i64) 3 W base (fun k => k ≠ g) v l → Kd.R k40 40 (W.setCell ⟨g, i * 6 + 0, none⟩ v) base (fun _ => True) (.slice (some ⟨g, 0, none⟩) n cap) (xs.set i { x with f0 := l }) ∧ W.grownBy (W.setCell ⟨g, i * 6 + 0, none⟩ v) (some g)) ∧
      (∀ y : Int, Kd.R k40 40 (W.setCell ⟨g, i * 6 + 5, none⟩ (.int .i64 y)) base (fun _ => True) (.slice (some ⟨g, 0, none⟩) n cap) (xs.set i { x with f5 := y }) ∧ W.grownBy (W.setCell ⟨g, i * 6 + 5, none⟩ (.int .i64 y)) (some g)) := by
  have hil := (List.getElem?_eq_some_iff.1 hi).1
  have hn := (Kd.R_reads' R).1
  obtain ⟨cs, h1, h2, h3, h4⟩ := Kd.R_elem R x (i : Int) (by omega) (by omega)
  have hx : xs.getD i x = x := by simp [List.getD_eq_getElem?_getD, hi]
  rw [Int.toNat_natCast, hx] at h2
  rw [Int.toNat_natCast] at h3 h4
  obtain ⟨v0, rfl, hR0⟩ := k40_openM h2
  obtain ⟨a0, k0, rfl⟩ := Kd.R_slice hR0
  refine ⟨⟨a0, k0, h3⟩, h4, fun v l hv => ?_, fun y => ?_⟩
  · have := Kd.R_seg R (i : Int) (by omega) (by omega) (c := [.slice a0 x.f0.length k0, .int .i64 x.f1, .int .i64 x.f2, .int .i64 x.f3, .int .i64 x.f4, .int .i64 x.f5]) (seg := [v]) (j := 0) h1 (by rw [Int.toNat_natCast]; exact h3) (by show 0 + 1 ≤ 6; decide) (x' := { x with f0 := l }) (okp := fun k => k ≠ g) (k40_mkM W base _ { x with f0 := l } hv) (fun _ hk => ⟨trivial, hk⟩)
    rw [Int.toNat_natCast] at this
    exact this
  · have := Kd.R_seg R (i : Int) (by omega) (by omega) (c := [.slice a0 x.f0.length k0, .int .i64 x.f1, .int .i64 x.f2, .int .i64 x.f3, .int .i64 x.f4, .int .i64 x.f5]) (seg := [.int .i64 y]) (j := 5) h1 (by rw [Int.toNat_natCast]; exact h3) (by show 5 + 1 ≤ 6; decide) (x' := { x with f5 := y }) (okp := fun k => True ∧ k ≠ g) (k40_mkM W base _ { x with f5 := y } hR0) (fun _ hk => hk)
    rw [Int.toNat_natCast] at this
    exact this
end Go.Proofs.Ytiplichdhcmjdaa.T
namespace Go.Proofs.Ytiplichdhcmjdaa.T
open Go.RowKit Go.Proofs.YtiplichdhcmjdaaW.PrintWords Go.Proofs.YtiplichdhcmjdaaW.PrintMore
open Go.Proofs.Ytiplichdhcmjdaa.P
set_option linter.unusedVariables false
set_option linter.unusedSimpArgs false

/-- An evening with another till. -/
abbrev setC (V : Ev) (i : Nat) (c : S40) : Ev := { V with cs := V.cs.set i c }
theorem setC_same {V : Ev} {i : Nat} (hi : i < V.cs.length) (c : S40) : ct (setC V i c) i = c := ct_of (by show (V.cs.set i c)[i]? = some c; rw [List.getElem?_set_self hi])
theorem setC_ne {V : Ev} {i j : Nat} (h : j ≠ i) (c : S40) : ct (setC V i c) j = ct V j := by
  unfold ct
  rw [List.getD_eq_getElem?_getD, List.getD_eq_getElem?_getD]
  show ((V.cs.set i c)[j]?).getD _ = _
  rw [List.getElem?_set_ne (Ne.symm h)]
theorem Ws_congr {V U : Ev} (hp : U.ps.length = V.ps.length) (h : ∀ j, rl (ct U j) = rl (ct V j)) : ∀ (t : List Bl) (i : Nat), Ws U i t ↔ Ws V i t
  | [], i => Iff.rfl
  | b :: t, i => by rw [Ws, Ws, hp, h i, Ws_congr hp h t (i + 1)]
theorem flT_congr {V U : Ev} : ∀ (t : List Bl) (i : Nat), (∀ j b, j < t.length → fl U (ct U (i + j)) b = fl V (ct V (i + j)) b) → flT U i t = flT V i t
  | [], i, _ => rfl
  | x :: t, i, h => by
    rw [flT, flT, flT_congr (V := V) (U := U) t (i + 1) (fun j b hj => by have := h (j + 1) b (by simpa using hj); rwa [show i + (j + 1) = i + 1 + j by omega] at this)]
    have := h 0 x (by simp)
    rw [Nat.add_zero] at this
    rw [this]
/-- The till corrected. -/
def fixC (V : Ev) (c : S40) (l : List Int) : S40 := { { c with f0 := l } with f5 := due V c (bl l) }
theorem flT_at {V : Ev} {t : List Bl} {i : Nat} {b : Bl} (hb : t[i]? = some b) : flT V 0 t = flT V 0 (t.take i) + fl V (ct V i) b + flT V (i + 1) (t.drop (i + 1)) := by
  have hl := (List.getElem?_eq_some_iff.1 hb).1
  have e : t = t.take i ++ (b :: t.drop (i + 1)) := by
    have e2 : t.drop i = b :: t.drop (i + 1) := by
      rw [List.drop_eq_getElem_cons hl]
      rw [List.getElem?_eq_getElem hl] at hb
      rw [Option.some.inj hb]
    rw [← e2, List.take_append_drop]
  have h := flT_append V (t.take i) (b :: t.drop (i + 1)) 0
  rw [← e, List.length_take, Nat.min_eq_left (by omega), Nat.zero_add, flT] at h
  omega
theorem flK_01 (c : S40) (b : Bl) : 0 ≤ flK c b ∧ flK c b ≤ 1 := by unfold flK; split <;> omega
theorem flM_01 (V : Ev) (c : S40) (b : Bl) : 0 ≤ flM V c b ∧ flM V c b ≤ 1 := by unfold flM; split <;> omega
theorem fix_fl {V : Ev} (c : S40) (l : List Int) (b : Bl) (i : Nat) : fl V c b - fl V c (bl l) ≤ fl (setC V i (fixC V c l)) (fixC V c l) b ∧ fl (setC V i (fixC V c l)) (fixC V c l) (bl l) = 0 := by
  have k1 : ∀ b, flK (fixC V c l) b = if b = bl l then 0 else 1 := fun b => rfl
  have k2 : ∀ b, flM (setC V i (fixC V c l)) (fixC V c l) b = if (bl l).worth V.ps = b.worth V.ps then 0 else 1 := fun b => by
    have e : ((fixC V c l).f5 = due (setC V i (fixC V c l)) (fixC V c l) b) ↔ (bl l).worth V.ps = b.worth V.ps := by
      show (c.f4 + (bl l).worth V.ps = c.f4 + b.worth V.ps) ↔ _
      omega
    unfold flM
    by_cases h : (bl l).worth V.ps = b.worth V.ps
    · rw [if_pos h, if_pos (e.mpr h)]
    · rw [if_neg h, if_neg (fun k => h (e.mp k))]
  have a1 := flK_01 c b
  have a2 := flK_01 c (bl l)
  have a3 := flM_01 V c b
  have a4 := flM_01 V c (bl l)
  constructor
  · show flK c b + flM V c b - (flK c (bl l) + flM V c (bl l)) ≤ flK _ b + flM _ _ b
    rw [k1, k2]
    by_cases e : b = bl l
    · subst e
      rw [if_pos rfl, if_pos rfl]
      omega
    · rw [if_neg e]
      by_cases ew : (bl l).worth V.ps = b.worth V.ps
      · have : flM V c b = flM V c (bl l) := by unfold flM due; rw [ew]
        rw [if_pos ew]
        omega
      · rw [if_neg ew]
        omega
  · show flK _ (bl l) + flM _ _ (bl l) = 0
    rw [k1, k2, if_pos rfl, if_pos rfl]
    rfl
theorem fix_few {V : Ev} (ok : VOk V) {ts : List (List Int)} (hE : ExR V ts) {i : Nat} {c : S40} (hc : V.cs[i]? = some c) {l : List Int} (hl : ts[i]? = some l) (ok' : VOk (setC V i (fixC V c l))) : errV (setC V i (fixC V c l)) = 0 ∧ fewA (setC V i (fixC V c l)) = fewA V - fl V c (bl l) := by
  have hi := (List.getElem?_eq_some_iff.1 hc).1
  have hct := ct_of hc
  have hrl : ∀ j, rl (ct (setC V i (fixC V c l)) j) = rl (ct V j) := fun j => by
    by_cases e : j = i
    · subst e
      rw [setC_same hi, hct]
      rfl
    · rw [setC_ne e]
  have htr : ∀ t, Truth (setC V i (fixC V c l)) t ↔ Truth V t := fun t => by
    unfold Truth
    rw [Ws_congr (V := V) (U := setC V i (fixC V c l)) rfl hrl t 0]
    show (t.length = (V.cs.set i _).length ∧ _) ↔ _
    rw [List.length_set]
  have hflt : ∀ t b, t[i]? = some b → flT (setC V i (fixC V c l)) 0 t = flT V 0 t - fl V c b + fl (setC V i (fixC V c l)) (fixC V c l) b := fun t b hb => by
    rw [flT_at hb, flT_at (V := V) hb, setC_same hi, hct]
    have e1 : flT (setC V i (fixC V c l)) 0 (t.take i) = flT V 0 (t.take i) := flT_congr _ _ fun j b' hj => by
      rw [List.length_take] at hj
      rw [Nat.zero_add, setC_ne (by omega)]
      rfl
    have e2 : flT (setC V i (fixC V c l)) (i + 1) (t.drop (i + 1)) = flT V (i + 1) (t.drop (i + 1)) := flT_congr _ _ fun j b' hj => by
      rw [setC_ne (by omega)]
      rfl
    rw [e1, e2]
    omega
  have hbl : (ts.map bl)[i]? = some (bl l) := by rw [List.getElem?_map, hl]; rfl
  have htruth := hE.l.1
  have herr : errV (setC V i (fixC V c l)) = 0 := errV_ok ok' ((htr _).mpr htruth)
  refine ⟨herr, ?_⟩
  rw [fewA_ok ok' ((htr _).mpr htruth), fewA_ok ok htruth]
  refine fewN_eq ⟨⟨ts.map bl, (htr _).mpr htruth, ?_⟩, fun t ht => ?_⟩
  · rw [hflt _ _ hbl, (fix_fl c l (bl l) i).2, hE.l.2]
    omega
  · have ht' := (htr t).mp ht
    obtain ⟨b, hb⟩ := get_ex (show i < t.length by rw [ht'.1]; exact hi)
    have h1 := (fewN_is htruth).2 t ht'
    have h2 := (fix_fl (V := V) c l b i).1
    rw [hflt t b hb]
    omega
theorem sz_set {V : Ev} (hs : Sz V) {i : Nat} {c : S40} (hc : c.f0.length ≤ 1000000) : Sz (setC V i c) := by
  refine ⟨hs.p, hs.q, hs.t, by show (V.cs.set i c).length ≤ _; rw [List.length_set]; exact hs.c, fun x hx => ?_⟩
  rcases List.mem_or_eq_of_mem_set hx with h | h
  · exact hs.s x h
  · rw [h]; exact hc
end Go.Proofs.Ytiplichdhcmjdaa.T
namespace Go.Proofs.Ytiplichdhcmjdaa.E
open Go.RowKit Go.Proofs.YtiplichdhcmjdaaW.PrintWords Go.Proofs.YtiplichdhcmjdaaW.PrintMore
theorem Cb.grown {b g : Nat} {W w1 : World} {va vb vc : Value} {la lb lc : List Int} (h : Cb b W va vb vc la lb lc) (hg : W.grownBy w1 (some g)) (p : ∃ cs t, W.heap[g]? = some (.cells cs t (0, 0)) ∧ 3 ≠ t ∧ 40 ≠ t) : Cb b w1 va vb vc la lb lc := by
  obtain ⟨cs, t, hb, h1, _⟩ := p
  exact h.over hb h1 hg
end Go.Proofs.Ytiplichdhcmjdaa.E
namespace Go.Proofs.Ytiplichdhcmjdaa.T
open Go.RowKit Go.Proofs.YtiplichdhcmjdaaW.PrintWords Go.Proofs.YtiplichdhcmjdaaW.PrintMore
open Go.Proofs.Ytiplichdhcmjdaa.P
structure RT (b : Nat) (w : World) (v : Value) (xs : List S40) : Prop where
  r : Kd.R k40 40 w b (fun _ => True) v xs
theorem RT.below {b : Nat} {w w' : World} {v : Value} {xs : List S40} (h : RT b w v xs) (l : Below w.heap.size w w') : RT b w' v xs := ⟨Kd.R_below h.r l⟩
theorem RT.grown {b g : Nat} {w w' : World} {v : Value} {xs : List S40} (h : RT b w v xs) (hg : w.grownBy w' (some g)) (p : ∃ cs t, w.heap[g]? = some (.cells cs t (0, 0)) ∧ 3 ≠ t ∧ 40 ≠ t) : RT b w' v xs := by
  obtain ⟨cs, t, hb, h1, h2⟩ := p
  refine ⟨E.R_over h.r hb (fun q hq => ?_) hg⟩
  rcases List.mem_cons.mp hq with rfl | hq
  · exact h2
  · rcases List.mem_cons.mp hq with rfl | hq
    · exact h1
    · cases hq
theorem few_b {V : Ev} (ok : VOk V) {t : List Bl} (ht : Truth V t) : 0 ≤ fewA V ∧ fewA V ≤ 8 := by
  rw [fewA_ok ok ht]
  have := fewN_01 ht
  have := ok.c4
  omega
/-- A row of numbers made later is none of an elder block. -/
theorem R_newer {w0 w : World} {v : Value} {l : List Int} {g : Nat} {b : Nat} (h : Kd.R kI 3 w w0.heap.size (fun _ => True) v l) (hb : b ≤ w0.heap.size) (hg : g < w0.heap.size) : Kd.R kI 3 w b (fun k => k ≠ g) v l := Kd.R_lower (Kd.R_mono (Kd.R_bound h) (fun k hk => by have := hk.2.1; omega)) hb
set_option maxRecDepth 100000 in
set_option maxHeartbeats 8000000 in

theorem corrected_law (V : Ev) (m : Ea) (till : Int) (w : World) (hV : EvM w V m) :
    Calls Try.prog 9 #[hv V m, .int .i64 till] w fun e w' => e = .returned (.bool true) ∧ Below w.heap.size w w' := by
  have hu3 := Try.underlying3
  have hu22 := Try.underlying22
  have hu23 := Try.underlying23
  have hu25 := Try.underlying25
  have hu28 := Try.underlying28
  have hu40 := Try.underlying40
  have hu42 := Try.underlying42
  obtain ⟨z3, o3⟩ := info_some info3s (by decide)
  obtain ⟨z22, o22⟩ := info_some info22s (by decide)
  obtain ⟨z23, o23⟩ := info_some info23s (by decide)
  obtain ⟨z25, o25⟩ := info_some info25s (by decide)
  obtain ⟨z40, o40⟩ := info_some info40s (by decide)
  refine E.enter (N := 104) Try.func9 rfl Try.ntmps9 (args := [hv V m, .int .i64 till]) (by simp) ?_
  have L := Below.refl w.heap.size w
  refine E.CG.seq ?_
  refine E.CG.list ?_
  refine E.GL.st rfl rfl rfl (E.ST.box rfl rfl fun g2 w2 e2 b2 l2 => ?_)
  have h2_L : w.heap.size ≤ g2 := by rw [e2]; exact L.size
  replace L := below_step L l2
  refine E.GL.run rfl rfl rfl (E.Runs.assign rfl rfl) ?_
  refine E.GL.done ?_
  refine E.QG.code ?_
  refine E.CG.seq ?_
  refine E.CG.seq ?_
  refine E.CG.list ?_
  refine E.GL.run rfl rfl rfl (E.Runs.loads (cs := [.slice m.A V.ps.length m.a, .slice m.B V.qs.length m.b, .slice m.C V.ts.length m.c, .slice m.D V.cs.length m.d]) rfl rfl hu25 rfl info25s (blk_cells b2)) ?_
  by_cases h13 : ¬ farV V ∧ VOk V
  · have ok : VOk V := h13.2
    have hs : Sz V := not_far h13.1
    have hc4 := ok.c4
    have hp3 := ok.n3
    have hsc := hs.c
    refine E.GL.st rfl rfl rfl (E.ST.call rfl ent12 (E.evc rfl E.evn) ((valid_calls V m _ (hV.below L) true (iff_of_true rfl h13)).mono ?_))
    rintro e w13 ⟨rfl, l13⟩
    refine ⟨_, rfl, ?_⟩
    replace b2 := blk_below b2 l13
    replace L := below_step L l13
    refine E.GL.run rfl rfl rfl (E.Runs.not rfl rfl) ?_
    refine E.GL.run rfl rfl rfl (E.Runs.move rfl rfl) ?_
    refine E.GL.run rfl rfl rfl (E.Runs.move rfl rfl) ?_
    refine E.GL.cmp rfl rfl rfl (fun _ h => (E.Runs.lss rfl rfl rfl h)) (fun h17 => ?_) (fun h17 => ?_)
    · refine E.GL.run rfl rfl rfl (E.Runs.pick_f rfl rfl rfl) ?_
      refine E.GL.run rfl rfl rfl (E.Runs.move rfl rfl) ?_
      refine E.GL.skip rfl rfl rfl ?_
      refine E.GL.skip rfl rfl rfl ?_
      refine E.GL.skip rfl rfl rfl ?_
      refine E.GL.skip rfl rfl rfl ?_
      refine E.GL.skip rfl rfl rfl ?_
      refine E.GL.run rfl rfl rfl (E.Runs.pick_t rfl rfl rfl) ?_
      refine E.GL.done ?_
      refine E.QG.code ?_
      refine E.CG.cond_t rfl ?_
      refine E.CG.seq ?_
      refine E.CG.list ?_
      refine E.GL.st rfl rfl rfl (E.ST.call rfl ent13 E.evn ((works_calls _).mono ?_))
      rintro e w26 ⟨rfl, l26⟩
      refine ⟨_, rfl, ?_⟩
      replace b2 := blk_below b2 l26
      replace L := below_step L l26
      refine E.GL.run rfl rfl rfl (E.Runs.assign rfl rfl) ?_
      refine E.GL.done ?_
      refine E.QG.code ?_
      refine E.CG.ret ?_
      refine E.QG.pass_ret ?_
      exact E.QG.result rfl rfl ⟨rfl, L⟩
    · refine E.GL.run rfl rfl rfl (E.Runs.pick_f rfl rfl rfl) ?_
      refine E.GL.run rfl rfl rfl (E.Runs.move rfl rfl) ?_
      refine E.GL.run rfl rfl rfl (E.Runs.move rfl rfl) ?_
      refine E.GL.run rfl rfl rfl (E.Runs.fieldAddr rfl rfl hu25 rfl (by assumption) rfl) ?_
      refine E.GL.run rfl rfl rfl (E.Runs.load1 rfl rfl hu23 rfl (by first | assumption | exact E.blkc (by assumption) rfl | exact pw_cell_below L (by assumption))) ?_
      refine E.GL.run rfl rfl rfl (E.Runs.len rfl rfl hu23) ?_
      refine E.GL.cmp rfl rfl rfl (fun _ h => (E.Runs.geq rfl rfl rfl h)) (fun h24 => ?_) (fun h24 => ?_)
      · refine E.GL.run rfl rfl rfl (E.Runs.pick_f rfl rfl rfl) ?_
        refine E.GL.done ?_
        refine E.QG.code ?_
        refine E.CG.cond_t rfl ?_
        refine E.CG.seq ?_
        refine E.CG.list ?_
        refine E.GL.st rfl rfl rfl (E.ST.call rfl ent13 E.evn ((works_calls _).mono ?_))
        rintro e w26 ⟨rfl, l26⟩
        refine ⟨_, rfl, ?_⟩
        replace b2 := blk_below b2 l26
        replace L := below_step L l26
        refine E.GL.run rfl rfl rfl (E.Runs.assign rfl rfl) ?_
        refine E.GL.done ?_
        refine E.QG.code ?_
        refine E.CG.ret ?_
        refine E.QG.pass_ret ?_
        exact E.QG.result rfl rfl ⟨rfl, L⟩
      · refine E.GL.run rfl rfl rfl (E.Runs.pick_f rfl rfl rfl) ?_
        refine E.GL.done ?_
        refine E.QG.code ?_
        refine E.CG.cond_f rfl ?_
        refine E.CG.skip ?_
        refine E.QG.code ?_
        refine E.CG.seq ?_
        obtain ⟨i, rfl⟩ : ∃ i : Nat, till = i := ⟨till.toNat, by omega⟩
        refine E.CG.list ?_
        refine E.GL.run rfl rfl rfl (E.Runs.loads (cs := [.slice m.A V.ps.length m.a, .slice m.B V.qs.length m.b, .slice m.C V.ts.length m.c, .slice m.D V.cs.length m.d]) rfl rfl hu25 rfl info25s (blk_cells b2)) ?_
        refine E.GL.st rfl rfl rfl (E.ST.call rfl ent39 (E.evc rfl E.evn) ((explain_calls V m _ (hV.below L) hs).mono ?_))
        rintro e w29 ⟨v29, ts, rfl, R29, hX, l29⟩
        refine ⟨_, rfl, ?_⟩
        replace b2 := blk_below b2 l29
        replace L := below_step L l29
        have la := Below.refl w29.heap.size w29
        replace hX := exR_all hX
        obtain ⟨A29, c29, hv29⟩ := Kd.R_slice R29
        subst hv29
        obtain ⟨_, _, C29⟩ := Kd.R_reads' R29
        refine E.GL.run rfl rfl rfl (E.Runs.move rfl rfl) ?_
        refine E.GL.run rfl rfl rfl (E.Runs.extract rfl rfl rfl) ?_
        refine E.GL.run rfl rfl rfl (E.Runs.extract rfl rfl rfl) ?_
        refine E.GL.run rfl rfl rfl (E.Runs.assign rfl rfl) ?_
        refine E.GL.run rfl rfl rfl (E.Runs.assign rfl rfl) ?_
        refine E.GL.done ?_
        refine E.QG.code ?_
        refine E.CG.seq ?_
        refine E.CG.seq ?_
        refine E.CG.list ?_
        refine E.GL.run rfl rfl rfl (E.Runs.move rfl rfl) ?_
        refine E.GL.cmpn rfl rfl rfl (fun _ h => (E.Runs.neq rfl rfl rfl h)) (fun h33 => ?_) (fun h33 => ?_)
        · have h3 := err_3 ok h33
          refine E.GL.done ?_
          refine E.QG.code ?_
          refine E.CG.cond_t rfl ?_
          refine E.CG.seq ?_
          refine E.CG.list ?_
          refine E.GL.run rfl rfl rfl (E.Runs.move rfl rfl) ?_
          refine E.GL.run rfl rfl rfl (E.Runs.eql rfl rfl rfl (decide_eq_true h3)) ?_
          refine E.GL.run rfl rfl rfl (E.Runs.move rfl rfl) ?_
          refine E.GL.st rfl rfl rfl (E.ST.call rfl ent13 E.evn ((works_calls _).mono ?_))
          rintro e w37 ⟨rfl, l37⟩
          refine ⟨_, rfl, ?_⟩
          replace b2 := blk_below b2 l37
          replace L := below_step L l37
          replace la := below_step la l37
          refine E.GL.run rfl rfl rfl (E.Runs.pick_t rfl rfl rfl) ?_
          refine E.GL.run rfl rfl rfl (E.Runs.assign rfl rfl) ?_
          refine E.GL.done ?_
          refine E.QG.code ?_
          refine E.CG.ret ?_
          refine E.QG.pass_ret ?_
          exact E.QG.result rfl rfl ⟨rfl, L⟩
        · have hE := hX.2 h33
          have htl := hE.t.1
          obtain ⟨c, hc⟩ := get_ex (show i < V.cs.length by omega)
          obtain ⟨l, hl⟩ := get_ex (show i < ts.length by omega)
          obtain ⟨ar, al, kl, eR, XR, hlC⟩ := row_at C29 hl
          have hrow := hE.t.2.1 i l hl
          refine E.GL.done ?_
          refine E.QG.code ?_
          refine E.CG.cond_f rfl ?_
          refine E.CG.skip ?_
          refine E.QG.code ?_
          refine E.CG.seq ?_
          refine E.CG.list ?_
          refine E.GL.run rfl rfl rfl (E.Runs.loads (cs := [.slice m.A V.ps.length m.a, .slice m.B V.qs.length m.b, .slice m.C V.ts.length m.c, .slice m.D V.cs.length m.d]) rfl rfl hu25 rfl info25s (blk_cells b2)) ?_
          refine E.GL.st rfl rfl rfl (E.ST.call rfl ent15 (E.evc rfl E.evn) ((fewest_calls V m _ (hV.below L) hs).mono ?_))
          rintro e w41 ⟨rfl, l41⟩
          refine ⟨_, rfl, ?_⟩
          replace b2 := blk_below b2 l41
          replace L := below_step L l41
          replace la := below_step la l41
          refine E.GL.run rfl rfl rfl (E.Runs.move rfl rfl) ?_
          refine E.GL.run rfl rfl rfl (E.Runs.extract rfl rfl rfl) ?_
          refine E.GL.run rfl rfl rfl (E.Runs.extract rfl rfl rfl) ?_
          refine E.GL.run rfl rfl rfl (E.Runs.assign rfl rfl) ?_
          refine E.GL.run rfl rfl rfl (E.Runs.assign rfl rfl) ?_
          refine E.GL.done ?_
          refine E.QG.code ?_
          refine E.CG.seq ?_
          refine E.CG.seq ?_
          refine E.CG.list ?_
          refine E.GL.run rfl rfl rfl (E.Runs.move rfl rfl) ?_
          refine E.GL.run rfl rfl rfl (E.Runs.neq rfl rfl rfl (E.ne_f h33)) ?_
          refine E.GL.run rfl rfl rfl (E.Runs.move rfl rfl) ?_
          refine E.GL.run rfl rfl rfl (E.Runs.loads (cs := [.slice m.A V.ps.length m.a, .slice m.B V.qs.length m.b, .slice m.C V.ts.length m.c, .slice m.D V.cs.length m.d]) rfl rfl hu25 rfl info25s (blk_cells b2)) ?_
          refine E.GL.run rfl rfl rfl (E.Runs.move rfl rfl) ?_
          refine E.GL.st rfl rfl rfl (E.ST.call rfl ent18 (E.evc rfl (E.evc rfl E.evn)) ((isTruth_calls V m ts A29 c29 _ (hV.below L) ok (Kd.C_below C29 la) true (iff_of_true rfl hE.t)).mono ?_))
          rintro e w49 ⟨rfl, l49⟩
          refine ⟨_, rfl, ?_⟩
          replace b2 := blk_below b2 l49
          replace L := below_step L l49
          replace la := below_step la l49
          refine E.GL.run rfl rfl rfl (E.Runs.not rfl rfl) ?_
          refine E.GL.run rfl rfl rfl (E.Runs.pick_f rfl rfl rfl) ?_
          refine E.GL.done ?_
          refine E.QG.code ?_
          refine E.CG.cond_f rfl ?_
          refine E.CG.skip ?_
          refine E.QG.code ?_
          refine E.CG.seq ?_
          refine E.CG.list ?_
          refine E.GL.run rfl rfl rfl (E.Runs.loads (cs := [.slice m.A V.ps.length m.a, .slice m.B V.qs.length m.b, .slice m.C V.ts.length m.c, .slice m.D V.cs.length m.d]) rfl rfl hu25 rfl info25s (blk_cells b2)) ?_
          have hpre := L.size
          have hlaP := la.size
          refine E.GL.st rfl rfl rfl (E.ST.call rfl ent21 (E.evc rfl E.evn) ((copy_calls V m _ (hV.below L) hs).mono ?_))
          rintro e w53 ⟨mc, rfl, hR, l53⟩
          refine ⟨_, rfl, ?_⟩
          replace b2 := blk_below b2 l53
          replace L := below_step L l53
          replace la := below_step la l53
          obtain ⟨gC, capC, hDC, hgC, _, _⟩ := Kd.R_form hR.cs (by omega)
          have hDC1 : mc.D = some ⟨gC, 0, none⟩ := by injection hDC
          have hCb := hR.r
          have hRT : RT w49.heap.size w53 (.slice (some ⟨gC, 0, none⟩) V.cs.length mc.d) V.cs := ⟨by rw [← hDC1]; exact hR.cs⟩
          clear hDC
          refine E.GL.st rfl rfl rfl (E.ST.alloc rfl info25z fun g9 w9 e9 b9 l9 => ?_)
          have h9_L : w.heap.size ≤ g9 := by rw [e9]; exact L.size
          have h9_la : w29.heap.size ≤ g9 := by rw [e9]; exact la.size
          have n9_b2 : g2 ≠ g9 := by have := blk_lt b2; omega
          replace b2 := blk_below b2 l9
          replace hCb := hCb.below l9
          replace hRT := hRT.below l9
          replace L := below_step L l9
          replace la := below_step la l9
          refine E.GL.store_whole rfl rfl rfl rfl rfl b9 rfl info25s (slices4_one _ _ _ _ _ _ _ _ _ _ _ _) fun wS9_3 c9 lS9_3 => ?_
          replace b2 := blk_grown b2 lS9_3 (E.nes (by first | assumption | exact Ne.symm (by assumption)))
          replace hCb := hCb.grown lS9_3 ⟨_, _, b9, by decide, by decide⟩
          replace hRT := hRT.grown lS9_3 ⟨_, _, b9, by decide, by decide⟩
          replace L := E.below_own L h9_L lS9_3
          replace la := E.below_own la h9_la lS9_3
          replace b9 := c9
          clear c9
          refine E.GL.done ?_
          refine E.QG.code ?_
          refine E.CG.seq ?_
          rw [hDC1] at b9
          obtain ⟨csC, bC⟩ := Kd.R_typed hRT.r gC rfl
          have n9C : g9 ≠ gC := blk_ne b9 bC (by decide)
          have n2C : g2 ≠ gC := blk_ne b2 bC (by decide)
          have hgla : w29.heap.size ≤ gC := Nat.le_trans hlaP hgC
          have hgCw : w.heap.size ≤ gC := Nat.le_trans hpre hgC
          have hgCl := blk_lt bC
          clear bC
          refine E.CG.heldH (some gC) (by kernel_rfl) fun v10 lD hh => ?_
          replace b2 := blk_below b2 lD
          replace b9 := blk_below b9 lD
          replace hCb := hCb.below lD
          replace hRT := hRT.below lD
          replace L := below_step L lD
          replace la := below_step la lD
          clear lD
          have s_b2 := b2
          have s_b9 := b9
          have s_L := L
          have s_la := la
          have s_hCb := hCb
          have s_hRT := hRT
          have K10 := Below.refl v10.heap.size v10
          obtain ⟨csD, bD⟩ := Kd.R_typed hRT.r gC rfl
          have hgC10 := blk_lt bD
          clear bD
          have hz10 : w49.heap.size ≤ v10.heap.size := by omega
          refine E.GH.take (i := 0) rfl (by kernel_rfl) (by kernel_rfl) (by kernel_rfl) (by intro c a d v w h; first | (cases d <;> exact h) | exact nomatch (show _ ∧ _ from h).1) rfl rfl rfl (fun w' hS => (E.Runs.fieldAddr rfl rfl hu25 rfl (by assumption) rfl)) ?_
          refine E.GH.take (i := 1) rfl (by kernel_rfl) (by kernel_rfl) (by kernel_rfl) (by intro c a d v w h; first | (cases d <;> exact h) | exact nomatch (show _ ∧ _ from h).1) rfl rfl rfl (fun w' hS => (E.Runs.load1 rfl rfl hu23 rfl (E.keeps hS (E.blkc s_b9 rfl) (E.nes n9C)))) ?_
          refine E.GH.take (i := 2) rfl (by kernel_rfl) (by kernel_rfl) (by kernel_rfl) (by intro c a d v w h; first | (cases d <;> exact h) | exact nomatch (show _ ∧ _ from h).1) rfl rfl rfl (fun w' hS => (E.Runs.move rfl rfl)) ?_
          refine E.GH.take (i := 4) rfl (by kernel_rfl) (by kernel_rfl) (by kernel_rfl) (by intro c a d v w h; first | (cases d <;> exact h) | exact nomatch (show _ ∧ _ from h).1) rfl rfl rfl (fun w' hS => (E.Runs.move rfl rfl)) ?_
          refine E.GH.take (i := 5) rfl (by kernel_rfl) (by kernel_rfl) (by kernel_rfl) (by intro c a d v w h; first | (cases d <;> exact h) | exact nomatch (show _ ∧ _ from h).1) rfl rfl rfl (fun w' hS => (E.Runs.move rfl rfl)) ?_
          refine E.GH.take (i := 6) rfl (by kernel_rfl) (by kernel_rfl) (by kernel_rfl) (by intro c a d v w h; first | (cases d <;> exact h) | exact nomatch (show _ ∧ _ from h).1) rfl rfl rfl (fun w' hS => (E.Runs.indexAddrA (i := i) rfl rfl rfl hu42 z22 o22 (by omega) eR rfl)) ?_
          refine E.GH.take (i := 7) rfl (by kernel_rfl) (by kernel_rfl) (by kernel_rfl) (by intro c a d v w h; first | (cases d <;> exact h) | exact nomatch (show _ ∧ _ from h).1) rfl rfl rfl (fun w' hS => (E.Runs.load1 rfl rfl hu22 rfl (pw_cell_below (E.below_own s_la hgla hS) XR))) ?_
          refine E.GH.one (i := 3) (by kernel_rfl) rfl ?_
          refine E.GO.st rfl rfl rfl (E.ST.litAt kI v10.heap.size (w0 := v10) (ys := ([] : List Int)) (inner := []) rfl rfl E.epn lit22n (Reps.none _ _) K10 K10.size (by simp) fun u57 w57 r57 k57 l57 n57 => ⟨hh.trans (E.gbB l57), ?_⟩)
          replace hh := hh.trans (E.gbB l57)
          replace b2 := blk_below b2 l57
          replace b9 := blk_below b9 l57
          replace hCb := hCb.below l57
          replace hRT := hRT.below l57
          replace L := below_step L l57
          replace la := below_step la l57
          replace K10 := k57
          refine E.GH.one (i := 8) (by kernel_rfl) rfl ?_
          refine E.GO.st rfl rfl rfl (E.ST.appendRows kI v10.heap.size (w0 := v10) (s := .tmp 57) (x := .tmp 61) rfl hu22 info3 rfl (by decide) (by decide) rfl rfl r57 (Kd.C_below hlC la) made22 K10 K10.size (by rw [hrow.1]; simp only [List.length_nil]; omega) fun u62 w62 r62 k62 g62 => ⟨E.gb_row hh g62 (fun i hi => Kd.R_base r57 i hi), ?_⟩)
          replace hh := E.gb_row hh g62 (fun i hi => Kd.R_base r57 i hi)
          replace b2 := blk_below s_b2 k62
          replace b9 := blk_below s_b9 k62
          replace la := below_step s_la k62
          replace L := below_step s_L k62
          replace hCb := s_hCb.below k62
          replace hRT := s_hRT.below k62
          rw [List.nil_append] at r62
          obtain ⟨A62, c62, rfl⟩ := Kd.R_slice r62
          refine E.GH.take (i := 9) rfl (by kernel_rfl) (by kernel_rfl) (by kernel_rfl) (by intro c a d v w h; first | (cases d <;> exact h) | exact nomatch (show _ ∧ _ from h).1) rfl rfl rfl (fun w' hS => (E.Runs.indexAddrA (i := i) rfl rfl rfl hu23 z40 o40 (by omega) rfl (show _ = (⟨gC, i * 6, none⟩ : Addr) from by rw [Go.Addr.add_mid, Nat.zero_add]))) ?_
          refine E.GH.take (i := 10) rfl (by kernel_rfl) (by kernel_rfl) (by kernel_rfl) (by intro c a d v w h; first | (cases d <;> exact h) | exact nomatch (show _ ∧ _ from h).1) rfl rfl rfl (fun w' hS => (E.Runs.fieldAddr rfl rfl hu40 rfl (by assumption) rfl)) ?_
          refine E.GH.one (i := 11) (by kernel_rfl) rfl ?_
          obtain ⟨⟨aC, kC, cC⟩, fC, stC, _⟩ := rowT_at hRT.r hc
          obtain ⟨hRT2, gK⟩ := stC _ l (R_newer r62 hz10 hgC10)
          refine E.GO.sn rfl rfl (E.ST.storeNS rfl z22 o22 rfl rfl (cC 0 _ rfl) (fC 0) ⟨hh.trans gK, ?_⟩)
          obtain ⟨csC, bC⟩ := Kd.R_typed hRT.r gC rfl
          replace hh := hh.trans gK
          replace b2 := blk_grown b2 gK (E.nes n2C)
          replace b9 := blk_grown b9 gK (E.nes n9C)
          replace L := E.below_own L hgCw gK
          replace la := E.below_own la hgla gK
          replace hCb := hCb.over bC (by decide) gK
          replace hRT := RT.mk hRT2
          clear bC
          refine E.GH.done (by kernel_rfl) ?_
          refine E.QG.code ?_
          refine E.CG.seq ?_
          refine E.CG.heldH (some gC) (by kernel_rfl) fun v11 lD hh => ?_
          replace b2 := blk_below b2 lD
          replace b9 := blk_below b9 lD
          replace hCb := hCb.below lD
          replace hRT := hRT.below lD
          replace L := below_step L lD
          replace la := below_step la lD
          clear lD
          have s_b2 := b2
          have s_b9 := b9
          have s_L := L
          have s_la := la
          have s_hCb := hCb
          have s_hRT := hRT
          refine E.GH.take (i := 0) rfl (by kernel_rfl) (by kernel_rfl) (by kernel_rfl) (by intro c a d v w h; first | (cases d <;> exact h) | exact nomatch (show _ ∧ _ from h).1) rfl rfl rfl (fun w' hS => (E.Runs.fieldAddr rfl rfl hu25 rfl (by assumption) rfl)) ?_
          refine E.GH.take (i := 1) rfl (by kernel_rfl) (by kernel_rfl) (by kernel_rfl) (by intro c a d v w h; first | (cases d <;> exact h) | exact nomatch (show _ ∧ _ from h).1) rfl rfl rfl (fun w' hS => (E.Runs.load1 rfl rfl hu23 rfl (E.keeps hS (E.blkc s_b9 rfl) (E.nes n9C)))) ?_
          refine E.GH.take (i := 2) rfl (by kernel_rfl) (by kernel_rfl) (by kernel_rfl) (by intro c a d v w h; first | (cases d <;> exact h) | exact nomatch (show _ ∧ _ from h).1) rfl rfl rfl (fun w' hS => (E.Runs.move rfl rfl)) ?_
          refine E.GH.take (i := 3) rfl (by kernel_rfl) (by kernel_rfl) (by kernel_rfl) (by intro c a d v w h; first | (cases d <;> exact h) | exact nomatch (show _ ∧ _ from h).1) rfl rfl rfl (fun w' hS => (E.Runs.loads (cs := [.slice m.A V.ps.length m.a, .slice m.B V.qs.length m.b, .slice m.C V.ts.length m.c, .slice m.D V.cs.length m.d]) rfl rfl hu25 rfl info25s (blk_cells (blk_grown s_b2 hS (E.nes n2C))))) ?_
          refine E.GH.take (i := 4) rfl (by kernel_rfl) (by kernel_rfl) (by kernel_rfl) (by intro c a d v w h; first | (cases d <;> exact h) | exact nomatch (show _ ∧ _ from h).1) rfl rfl rfl (fun w' hS => (E.Runs.move rfl rfl)) ?_
          refine E.GH.take (i := 5) rfl (by kernel_rfl) (by kernel_rfl) (by kernel_rfl) (by intro c a d v w h; first | (cases d <;> exact h) | exact nomatch (show _ ∧ _ from h).1) rfl rfl rfl (fun w' hS => (E.Runs.move rfl rfl)) ?_
          refine E.GH.take (i := 6) rfl (by kernel_rfl) (by kernel_rfl) (by kernel_rfl) (by intro c a d v w h; first | (cases d <;> exact h) | exact nomatch (show _ ∧ _ from h).1) rfl rfl rfl (fun w' hS => (E.Runs.move rfl rfl)) ?_
          refine E.GH.take (i := 7) rfl (by kernel_rfl) (by kernel_rfl) (by kernel_rfl) (by intro c a d v w h; first | (cases d <;> exact h) | exact nomatch (show _ ∧ _ from h).1) rfl rfl rfl (fun w' hS => (E.Runs.indexAddrA (i := i) rfl rfl rfl hu42 z22 o22 (by omega) eR rfl)) ?_
          refine E.GH.take (i := 8) rfl (by kernel_rfl) (by kernel_rfl) (by kernel_rfl) (by intro c a d v w h; first | (cases d <;> exact h) | exact nomatch (show _ ∧ _ from h).1) rfl rfl rfl (fun w' hS => (E.Runs.load1 rfl rfl hu22 rfl (pw_cell_below (E.below_own s_la hgla hS) XR))) ?_
          refine E.GH.one (i := 9) (by kernel_rfl) rfl ?_
          refine E.GO.st rfl rfl rfl (E.ST.call rfl ent32 (E.evc rfl (E.evc rfl (E.evc rfl E.evn))) ((due_r V m _ (hV.below L) ok i c hc l al kl (Kd.C_below hlC la) hrow.1 hrow.2.1).mono ?_))
          rintro e w74 ⟨rfl, l74⟩
          refine ⟨_, rfl, hh.trans (E.gbB l74), ?_⟩
          replace hh := hh.trans (E.gbB l74)
          replace b2 := blk_below b2 l74
          replace b9 := blk_below b9 l74
          replace hCb := hCb.below l74
          replace hRT := hRT.below l74
          replace L := below_step L l74
          replace la := below_step la l74
          refine E.GH.take (i := 10) rfl (by kernel_rfl) (by kernel_rfl) (by kernel_rfl) (by intro c a d v w h; first | (cases d <;> exact h) | exact nomatch (show _ ∧ _ from h).1) rfl rfl rfl (fun w' hS => (E.Runs.indexAddrA (i := i) rfl rfl rfl hu23 z40 o40 (by omega) rfl (show _ = (⟨gC, i * 6, none⟩ : Addr) from by rw [Go.Addr.add_mid, Nat.zero_add]))) ?_
          refine E.GH.take (i := 11) rfl (by kernel_rfl) (by kernel_rfl) (by kernel_rfl) (by intro c a d v w h; first | (cases d <;> exact h) | exact nomatch (show _ ∧ _ from h).1) rfl rfl rfl (fun w' hS => (E.Runs.fieldAddr rfl rfl hu40 rfl (by assumption) rfl)) ?_
          refine E.GH.one (i := 12) (by kernel_rfl) rfl ?_
          have hc2 : (V.cs.set i { c with f0 := l })[i]? = some { c with f0 := l } := by rw [List.getElem?_set_self (by omega)]
          obtain ⟨⟨aC, kC, cC⟩, fC, _, stC⟩ := rowT_at hRT.r hc2
          obtain ⟨hRT2, gK⟩ := stC (due V c (bl l))
          refine E.GO.sn rfl rfl (E.ST.storeN rfl z3 o3 rfl rfl (cC 5 _ rfl) (fC 5) ⟨hh.trans gK, ?_⟩)
          obtain ⟨csC, bC⟩ := Kd.R_typed hRT.r gC rfl
          replace hh := hh.trans gK
          replace b2 := blk_grown b2 gK (E.nes n2C)
          replace b9 := blk_grown b9 gK (E.nes n9C)
          replace L := E.below_own L hgCw gK
          replace la := E.below_own la hgla gK
          replace hCb := hCb.over bC (by decide) gK
          replace hRT := RT.mk hRT2
          clear bC
          have hlen2 : (V.cs.set i (fixC V c l)).length = V.cs.length := List.length_set ..
          have hRT3 := hRT.r
          rw [List.set_set] at hRT3
          change Kd.R k40 40 _ _ _ _ (V.cs.set i (fixC V c l)) at hRT3
          have hEV2 : EvM _ (setC V i (fixC V c l)) ⟨mc.A, mc.a, mc.B, mc.b, mc.C, mc.c, some ⟨gC, 0, none⟩, mc.d⟩ := ⟨(Kd.R_reads' hCb.a).2.2, (Kd.R_reads' hCb.b).2.2, (Kd.R_reads' hCb.c).2.2, (Kd.R_reads' hRT3).2.2⟩
          rw [← hlen2] at b9
          have hs2 : Sz (setC V i (fixC V c l)) := sz_set hs (by show l.length ≤ _; rw [hrow.1]; omega)
          clear hRT hRT3 hCb
          refine E.GH.done (by kernel_rfl) ?_
          refine E.QG.code ?_
          refine E.CG.seq ?_
          refine E.CG.seq ?_
          refine E.CG.list ?_
          refine E.GL.run rfl rfl rfl (E.Runs.loads (cs := [.slice mc.A V.ps.length mc.a, .slice mc.B V.qs.length mc.b, .slice mc.C V.ts.length mc.c, .slice (some ⟨gC, 0, none⟩) (V.cs.set i (fixC V c l)).length mc.d]) rfl rfl hu25 rfl info25s (blk_cells b9)) ?_
          refine E.GL.st rfl rfl rfl (E.ST.call rfl ent34 (E.evc rfl E.evn) ((check34 (setC V i (fixC V c l)) ⟨mc.A, mc.a, mc.B, mc.b, mc.C, mc.c, some ⟨gC, 0, none⟩, mc.d⟩ _ hEV2 hs2).mono ?_))
          rintro e w78 ⟨rfl, l78⟩
          refine ⟨_, rfl, ?_⟩
          replace b2 := blk_below b2 l78
          replace b9 := blk_below b9 l78
          replace hEV2 := hEV2.below l78
          replace L := below_step L l78
          replace la := below_step la l78
          refine E.GL.cmpn rfl rfl rfl (fun _ h => (E.Runs.neq rfl rfl rfl h)) (fun h79 => ?_) (fun h79 => ?_)
          · refine E.GL.done ?_
            refine E.QG.code ?_
            refine E.CG.cond_t rfl ?_
            refine E.CG.seq ?_
            refine E.CG.list ?_
            refine E.GL.st rfl rfl rfl (E.ST.call rfl ent13 E.evn ((works_calls _).mono ?_))
            rintro e w80 ⟨rfl, l80⟩
            refine ⟨_, rfl, ?_⟩
            replace b2 := blk_below b2 l80
            replace b9 := blk_below b9 l80
            replace hEV2 := hEV2.below l80
            replace L := below_step L l80
            replace la := below_step la l80
            refine E.GL.run rfl rfl rfl (E.Runs.assign rfl rfl) ?_
            refine E.GL.done ?_
            refine E.QG.code ?_
            refine E.CG.ret ?_
            refine E.QG.pass_ret ?_
            exact E.QG.result rfl rfl ⟨rfl, L⟩
          · have ok' : VOk (setC V i (fixC V c l)) := chkV_ok.mp (by omega)
            obtain ⟨he2, hf2⟩ := fix_few ok hE hc hl ok'
            have hfb := few_b ok hE.l.1
            have hf01 := fl_01 V c (bl l)
            refine E.GL.done ?_
            refine E.QG.code ?_
            refine E.CG.cond_f rfl ?_
            refine E.CG.skip ?_
            refine E.QG.code ?_
            refine E.CG.seq ?_
            refine E.CG.list ?_
            refine E.GL.run rfl rfl rfl (E.Runs.loads (cs := [.slice mc.A V.ps.length mc.a, .slice mc.B V.qs.length mc.b, .slice mc.C V.ts.length mc.c, .slice (some ⟨gC, 0, none⟩) (V.cs.set i (fixC V c l)).length mc.d]) rfl rfl hu25 rfl info25s (blk_cells b9)) ?_
            refine E.GL.st rfl rfl rfl (E.ST.call rfl ent15 (E.evc rfl E.evn) ((fewest_calls (setC V i (fixC V c l)) ⟨mc.A, mc.a, mc.B, mc.b, mc.C, mc.c, some ⟨gC, 0, none⟩, mc.d⟩ _ hEV2 hs2).mono ?_))
            rintro e w83 ⟨rfl, l83⟩
            refine ⟨_, rfl, ?_⟩
            replace b2 := blk_below b2 l83
            replace b9 := blk_below b9 l83
            replace hEV2 := hEV2.below l83
            replace L := below_step L l83
            replace la := below_step la l83
            refine E.GL.run rfl rfl rfl (E.Runs.move rfl rfl) ?_
            refine E.GL.run rfl rfl rfl (E.Runs.extract rfl rfl rfl) ?_
            refine E.GL.run rfl rfl rfl (E.Runs.extract rfl rfl rfl) ?_
            refine E.GL.run rfl rfl rfl (E.Runs.assign rfl rfl) ?_
            refine E.GL.run rfl rfl rfl (E.Runs.assign rfl rfl) ?_
            refine E.GL.done ?_
            refine E.QG.code ?_
            refine E.CG.seq ?_
            refine E.CG.heldH (none) (by kernel_rfl) fun v15 lD hh => ?_
            replace b2 := blk_below b2 lD
            replace b9 := blk_below b9 lD
            replace hEV2 := hEV2.below lD
            replace L := below_step L lD
            replace la := below_step la lD
            clear lD
            have s_b2 := b2
            have s_b9 := b9
            have s_L := L
            have s_la := la
            have s_hEV2 := hEV2
            refine E.GH.take (i := 0) rfl (by kernel_rfl) (by kernel_rfl) (by kernel_rfl) (by intro c a d v w h; first | (cases d <;> exact h) | exact nomatch (show _ ∧ _ from h).1) rfl rfl rfl (fun w' hS => (E.Runs.move rfl rfl)) ?_
            refine E.GH.take (i := 1) rfl (by kernel_rfl) (by kernel_rfl) (by kernel_rfl) (by intro c a d v w h; first | (cases d <;> exact h) | exact nomatch (show _ ∧ _ from h).1) rfl rfl rfl (fun w' hS => (E.Runs.eql rfl rfl rfl (decide_eq_true he2))) ?_
            refine E.GH.take (i := 2) rfl (by kernel_rfl) (by kernel_rfl) (by kernel_rfl) (by intro c a d v w h; first | (cases d <;> exact h) | exact nomatch (show _ ∧ _ from h).1) rfl rfl rfl (fun w' hS => (E.Runs.move rfl rfl)) ?_
            refine E.GH.take (i := 3) rfl (by kernel_rfl) (by kernel_rfl) (by kernel_rfl) (by intro c a d v w h; first | (cases d <;> exact h) | exact nomatch (show _ ∧ _ from h).1) rfl rfl rfl (fun w' hS => (E.Runs.move rfl rfl)) ?_
            refine E.GH.take (i := 4) rfl (by kernel_rfl) (by kernel_rfl) (by kernel_rfl) (by intro c a d v w h; first | (cases d <;> exact h) | exact nomatch (show _ ∧ _ from h).1) rfl rfl rfl (fun w' hS => (E.Runs.move rfl rfl)) ?_
            refine E.GH.take (i := 5) rfl (by kernel_rfl) (by kernel_rfl) (by kernel_rfl) (by intro c a d v w h; first | (cases d <;> exact h) | exact nomatch (show _ ∧ _ from h).1) rfl rfl rfl (fun w' hS => (E.Runs.loads (cs := [.slice m.A V.ps.length m.a, .slice m.B V.qs.length m.b, .slice m.C V.ts.length m.c, .slice m.D V.cs.length m.d]) rfl rfl hu25 rfl info25s (blk_cells (blk_grown s_b2 hS E.nen)))) ?_
            refine E.GH.take (i := 6) rfl (by kernel_rfl) (by kernel_rfl) (by kernel_rfl) (by intro c a d v w h; first | (cases d <;> exact h) | exact nomatch (show _ ∧ _ from h).1) rfl rfl rfl (fun w' hS => (E.Runs.move rfl rfl)) ?_
            refine E.GH.take (i := 7) rfl (by kernel_rfl) (by kernel_rfl) (by kernel_rfl) (by intro c a d v w h; first | (cases d <;> exact h) | exact nomatch (show _ ∧ _ from h).1) rfl rfl rfl (fun w' hS => (E.Runs.move rfl rfl)) ?_
            refine E.GH.take (i := 8) rfl (by kernel_rfl) (by kernel_rfl) (by kernel_rfl) (by intro c a d v w h; first | (cases d <;> exact h) | exact nomatch (show _ ∧ _ from h).1) rfl rfl rfl (fun w' hS => (E.Runs.move rfl rfl)) ?_
            refine E.GH.take (i := 9) rfl (by kernel_rfl) (by kernel_rfl) (by kernel_rfl) (by intro c a d v w h; first | (cases d <;> exact h) | exact nomatch (show _ ∧ _ from h).1) rfl rfl rfl (fun w' hS => (E.Runs.indexAddrA (i := i) rfl rfl rfl hu42 z22 o22 (by omega) eR rfl)) ?_
            refine E.GH.take (i := 10) rfl (by kernel_rfl) (by kernel_rfl) (by kernel_rfl) (by intro c a d v w h; first | (cases d <;> exact h) | exact nomatch (show _ ∧ _ from h).1) rfl rfl rfl (fun w' hS => (E.Runs.load1 rfl rfl hu22 rfl (pw_cell_below (below_step s_la (E.belowG hS)) XR))) ?_
            refine E.GH.one (i := 11) (by kernel_rfl) rfl ?_
            refine E.GO.st rfl rfl rfl (E.ST.call rfl ent29 (E.evc rfl (E.evc rfl (E.evc rfl E.evn))) ((flaws_r V m _ (hV.below L) ok i c hc l al kl (Kd.C_below hlC la) hrow.1 hrow.2.1).mono ?_))
            rintro e w97 ⟨rfl, l97⟩
            refine ⟨_, rfl, hh.trans (E.gbB l97), ?_⟩
            replace hh := hh.trans (E.gbB l97)
            replace b2 := blk_below b2 l97
            replace b9 := blk_below b9 l97
            replace hEV2 := hEV2.below l97
            replace L := below_step L l97
            replace la := below_step la l97
            refine E.GH.take (i := 12) rfl (by kernel_rfl) (by kernel_rfl) (by kernel_rfl) (by intro c a d v w h; first | (cases d <;> exact h) | exact nomatch (show _ ∧ _ from h).1) rfl rfl rfl (fun w' hS => (E.Runs.sub rfl rfl rfl (IntWalk.i64_in _ (by omega)))) ?_
            refine E.GH.take (i := 13) rfl (by kernel_rfl) (by kernel_rfl) (by kernel_rfl) (by intro c a d v w h; first | (cases d <;> exact h) | exact nomatch (show _ ∧ _ from h).1) rfl rfl rfl (fun w' hS => (E.Runs.eql rfl rfl rfl (decide_eq_true hf2))) ?_
            refine E.GH.take (i := 14) rfl (by kernel_rfl) (by kernel_rfl) (by kernel_rfl) (by intro c a d v w h; first | (cases d <;> exact h) | exact nomatch (show _ ∧ _ from h).1) rfl rfl rfl (fun w' hS => (E.Runs.pick_t rfl rfl rfl)) ?_
            refine E.GH.take (i := 15) rfl (by kernel_rfl) (by kernel_rfl) (by kernel_rfl) (by intro c a d v w h; first | (cases d <;> exact h) | exact nomatch (show _ ∧ _ from h).1) rfl rfl rfl (fun w' hS => (E.Runs.move rfl rfl)) ?_
            refine E.GH.one (i := 16) (by kernel_rfl) rfl ?_
            refine E.GO.st rfl rfl rfl (E.ST.call rfl ent13 E.evn ((works_calls _).mono ?_))
            rintro e w102 ⟨rfl, l102⟩
            refine ⟨_, rfl, hh.trans (E.gbB l102), ?_⟩
            replace hh := hh.trans (E.gbB l102)
            replace b2 := blk_below b2 l102
            replace b9 := blk_below b9 l102
            replace hEV2 := hEV2.below l102
            replace L := below_step L l102
            replace la := below_step la l102
            refine E.GH.take (i := 17) rfl (by kernel_rfl) (by kernel_rfl) (by kernel_rfl) (by intro c a d v w h; first | (cases d <;> exact h) | exact nomatch (show _ ∧ _ from h).1) rfl rfl rfl (fun w' hS => (E.Runs.pick_t rfl rfl rfl)) ?_
            refine E.GH.take (i := 18) rfl (by kernel_rfl) (by kernel_rfl) (by kernel_rfl) (by intro c a d v w h; first | (cases d <;> exact h) | exact nomatch (show _ ∧ _ from h).1) rfl rfl rfl (fun w' hS => (E.Runs.assign rfl rfl)) ?_
            refine E.GH.done (by kernel_rfl) ?_
            refine E.QG.code ?_
            refine E.CG.ret ?_
            exact E.QG.result rfl rfl ⟨rfl, L⟩
  · refine E.GL.st rfl rfl rfl (E.ST.call rfl ent12 (E.evc rfl E.evn) ((valid_calls V m _ (hV.below L) false (iff_of_false Bool.false_ne_true h13)).mono ?_))
    rintro e w13 ⟨rfl, l13⟩
    refine ⟨_, rfl, ?_⟩
    replace b2 := blk_below b2 l13
    replace L := below_step L l13
    refine E.GL.run rfl rfl rfl (E.Runs.not rfl rfl) ?_
    refine E.GL.run rfl rfl rfl (E.Runs.move rfl rfl) ?_
    refine E.GL.skip rfl rfl rfl ?_
    refine E.GL.skip rfl rfl rfl ?_
    refine E.GL.run rfl rfl rfl (E.Runs.pick_t rfl rfl rfl) ?_
    refine E.GL.run rfl rfl rfl (E.Runs.move rfl rfl) ?_
    refine E.GL.skip rfl rfl rfl ?_
    refine E.GL.skip rfl rfl rfl ?_
    refine E.GL.skip rfl rfl rfl ?_
    refine E.GL.skip rfl rfl rfl ?_
    refine E.GL.skip rfl rfl rfl ?_
    refine E.GL.run rfl rfl rfl (E.Runs.pick_t rfl rfl rfl) ?_
    refine E.GL.done ?_
    refine E.QG.code ?_
    refine E.CG.cond_t rfl ?_
    refine E.CG.seq ?_
    refine E.CG.list ?_
    refine E.GL.st rfl rfl rfl (E.ST.call rfl ent13 E.evn ((works_calls _).mono ?_))
    rintro e w26 ⟨rfl, l26⟩
    refine ⟨_, rfl, ?_⟩
    replace b2 := blk_below b2 l26
    replace L := below_step L l26
    refine E.GL.run rfl rfl rfl (E.Runs.assign rfl rfl) ?_
    refine E.GL.done ?_
    refine E.QG.code ?_
    refine E.CG.ret ?_
    refine E.QG.pass_ret ?_
    exact E.QG.result rfl rfl ⟨rfl, L⟩

end Go.Proofs.Ytiplichdhcmjdaa.T
namespace Go.Proofs.Ytiplichdhcmjdaa.T
open Go.ChangeShapes Go.WideShapes Go.ChangeAt Go.Deep
open Go.RowKit Go.Proofs.YtiplichdhcmjdaaW.PrintWords Go.Proofs.YtiplichdhcmjdaaW.PrintMore
open Go.Proofs.Ytiplichdhcmjdaa.P
set_option linter.unusedVariables false
set_option linter.unusedSimpArgs false

section
variable {X : Type} {enc : TypeId × Value → X} {w : World} {base : Nat} {spare : Nat → Bool} {held : Bool}
theorem fld {fs : Array Field} {n : Nat} {cs : List Value} {xs : List (DataW X × List MemPlace)} (hlen : xs.length = fs.size) (hg : ∀ (i : Nat) (f : Field), fs[i]? = some f → DataW.trod enc Try.prog w base spare held n f.type ((cs.drop f.offset).take (Try.prog.cellsOf f.type)) = xs[i]?) (i : Nat) (f : Field) (hf : fs[i]? = some f)
    (ty : TypeId) (off k : Nat) (h1 : f.type = ty) (h2 : f.offset = off) (h3 : Try.prog.cellsOf ty = k) :
    ∃ y, DataW.trod enc Try.prog w base spare held n ty ((cs.drop off).take k) = some y := by
  have hi : i < xs.length := by rw [hlen]; exact (Array.getElem?_eq_some_iff.1 hf).1
  subst h1 h2 h3
  exact ⟨_, (hg i f hf).trans (List.getElem?_eq_getElem hi)⟩

theorem ocells3 : Try.prog.cellsOf 3 = 1 := by kernel_rfl

theorem trod3 {n : Nat} {cs : List Value} {x : DataW X × List MemPlace} (h : DataW.trod enc Try.prog w base spare held n 3 cs = some x) : ∃ (a : Int), cs = [.int .i64 a] := by
  obtain ⟨a, hc, _⟩ := DataW.trod_int Try.underlying3 h
  exact ⟨a, hc⟩

set_option maxRecDepth 100000 in
theorem int_open {r : Reach} {b0 : Nat} {v : Value} {d : DataW X} {p : List MemPlace} (hval : Value.okWide Try.prog w r b0 3 v) (h : DataW.Trod enc Try.prog w base spare held 3 v d p) : ∃ m : Int, v = .int .i64 m := okWide_int Try.underlying3 hval

theorem ocells25 : Try.prog.cellsOf 25 = 4 := by kernel_rfl

theorem ocells22 : Try.prog.cellsOf 22 = 1 := by kernel_rfl

theorem trod22 {n : Nat} {cs : List Value} {x : DataW X × List MemPlace} (h : DataW.trod enc Try.prog w base spare held n 22 cs = some x) : ∃ (aA : Option Addr) (ac : Nat) (al : List Int), cs = [.slice aA al.length ac] ∧ al.length ≤ ac ∧ Kd.C (Kd.int .i64) w aA al.length al := by
  rcases open_slice Try.underlying22 h with ⟨rfl, _⟩ | ⟨a, len, cap, m, k, D, Pl, rfl, hb, hl, hm, hmm, hx, hi⟩
  · exact ⟨none, 0, [], rfl, Nat.le_refl _, rfl, by simp, fun h => absurd h (by simp)⟩
  · have hlm : len ≤ m := by rw [hmm]; split <;> omega
    have H : ∀ i, i < len → ∃ s : Int, w.cells? base (a.add (i * 1)) 1 = some [.int .i64 s] := by
      intro i hil
      obtain ⟨cs', hc, ht⟩ := hi i (by omega)
      obtain ⟨a, rfl⟩ := trod3 ht
      rw [ocells3] at hc
      exact ⟨a, hc⟩
    obtain ⟨F, hF⟩ : ∃ F : Nat → Int, ∀ i, i < len → w.cells? base (a.add (i * 1)) 1 = some [.int .i64 (F i)] := by
      refine ⟨fun i => if h : i < len then (H i h).choose else 0, fun i h => ?_⟩
      simp only [dif_pos h]
      exact (H i h).choose_spec
    refine ⟨some a, cap, (List.range len).map F, by simp, by simpa using hl, ?_, ?_, ?_⟩
    · rfl
    · simp only [List.length_map, List.length_range]
      unfold maxLen at hm
      omega
    · intro _
      refine ⟨a, rfl, fun j p hj => ?_⟩
      have hjl : j < len := by
        have := (List.getElem?_eq_some_iff.1 hj).1
        simpa using this
      have hp : p = F j := by
        rw [List.getElem?_map, List.getElem?_range hjl] at hj
        simpa using hj.symm
      subst hp
      refine ⟨[.int .i64 (F j)], rfl, rfl, ?_⟩
      intro i u hu
      obtain ⟨_, hcl, hat⟩ := World.cells?_some (hF j hjl)
      have hil : i < 1 := (List.getElem?_eq_some_iff.1 hu).1
      have := hat i hil
      rw [Go.Deep.add_add] at this
      rw [show j * ((Kd.int .i64)).sz + i = j * 1 + i from rfl, this, hu]

theorem ocells23 : Try.prog.cellsOf 23 = 1 := by kernel_rfl

theorem ocells40 : Try.prog.cellsOf 40 = 6 := by kernel_rfl

theorem list_of6 {cs : List Value} (h : cs.length = 6) : ∃ v0 v1 v2 v3 v4 v5, cs = [v0, v1, v2, v3, v4, v5] := by
  match cs, h with
  | [v0, v1, v2, v3, v4, v5], _ => exact ⟨v0, v1, v2, v3, v4, v5, rfl⟩

theorem trod40 {n : Nat} {cs : List Value} {x : DataW X × List MemPlace} (h : DataW.trod enc Try.prog w base spare held n 40 cs = some x) : ∃ (a_0A : Option Addr) (a_0c : Nat) (a_0l : List Int) (a_1 : Int) (a_2 : Int) (a_3 : Int) (a_4 : Int) (a_5 : Int), cs = [.slice a_0A a_0l.length a_0c, .int .i64 a_1, .int .i64 a_2, .int .i64 a_3, .int .i64 a_4, .int .i64 a_5] ∧ a_0l.length ≤ a_0c ∧ Kd.C (Kd.int .i64) w a_0A a_0l.length a_0l := by
  obtain ⟨xs, m, _, hx, hl, hlen, hg⟩ := DataW.trod_struct Try.underlying40 h
  rw [ocells40] at hl
  obtain ⟨v0, v1, v2, v3, v4, v5, rfl⟩ := list_of6 hl
  obtain ⟨y0, h0⟩ := fld hlen hg 0 _ rfl 22 0 1 rfl rfl ocells22
  obtain ⟨y1, h1⟩ := fld hlen hg 1 _ rfl 3 1 1 rfl rfl ocells3
  obtain ⟨y2, h2⟩ := fld hlen hg 2 _ rfl 3 2 1 rfl rfl ocells3
  obtain ⟨y3, h3⟩ := fld hlen hg 3 _ rfl 3 3 1 rfl rfl ocells3
  obtain ⟨y4, h4⟩ := fld hlen hg 4 _ rfl 3 4 1 rfl rfl ocells3
  obtain ⟨y5, h5⟩ := fld hlen hg 5 _ rfl 3 5 1 rfl rfl ocells3
  obtain ⟨a_0A, a_0c, a_0l, e0, f0_0, f0_1⟩ := trod22 h0
  obtain ⟨a_1, e1⟩ := trod3 h1
  obtain ⟨a_2, e2⟩ := trod3 h2
  obtain ⟨a_3, e3⟩ := trod3 h3
  obtain ⟨a_4, e4⟩ := trod3 h4
  obtain ⟨a_5, e5⟩ := trod3 h5
  simp only [List.drop_zero, List.take_succ_cons, List.take_zero, List.drop_succ_cons, List.cons.injEq, and_true] at e0 e1 e2 e3 e4 e5
  subst e0 e1 e2 e3 e4 e5
  exact ⟨a_0A, a_0c, a_0l, a_1, a_2, a_3, a_4, a_5, rfl, f0_0, f0_1⟩

theorem trod23 {n : Nat} {cs : List Value} {x : DataW X × List MemPlace} (h : DataW.trod enc Try.prog w base spare held n 23 cs = some x) : ∃ (aA : Option Addr) (ac : Nat) (al : List S40), cs = [.slice aA al.length ac] ∧ al.length ≤ ac ∧ Kd.C k40 w aA al.length al := by
  rcases open_slice Try.underlying23 h with ⟨rfl, _⟩ | ⟨a, len, cap, m, k, D, Pl, rfl, hb, hl, hm, hmm, hx, hi⟩
  · exact ⟨none, 0, [], rfl, Nat.le_refl _, rfl, by simp, fun h => absurd h (by simp)⟩
  · have hlm : len ≤ m := by rw [hmm]; split <;> omega
    have H : ∀ i, i < len → ∃ p : S40 × List Value, w.cells? base (a.add (i * 6)) 6 = some p.2 ∧ Kd.K k40 w p.1 p.2 := by
      intro i hil
      obtain ⟨cs', hc, ht⟩ := hi i (by omega)
      obtain ⟨a_0A, a_0c, a_0l, a_1, a_2, a_3, a_4, a_5, rfl, q0, q1⟩ := trod40 ht
      rw [ocells40] at hc
      exact ⟨((⟨a_0l, a_1, a_2, a_3, a_4, a_5⟩ : S40), _), hc, k40_mk w _ q0 q1⟩
    obtain ⟨F, hF⟩ : ∃ F : Nat → S40 × List Value, ∀ i, i < len → w.cells? base (a.add (i * 6)) 6 = some (F i).2 ∧ Kd.K k40 w (F i).1 (F i).2 := by
      refine ⟨fun i => if h : i < len then (H i h).choose else (P.z40, []), fun i h => ?_⟩
      simp only [dif_pos h]
      exact (H i h).choose_spec
    refine ⟨some a, cap, (List.range len).map (fun i => (F i).1), by simp, by simpa using hl, ?_, ?_, ?_⟩
    · rfl
    · simp only [List.length_map, List.length_range]
      unfold maxLen at hm
      omega
    · intro _
      refine ⟨a, rfl, fun j p hj => ?_⟩
      have hjl : j < len := by
        have := (List.getElem?_eq_some_iff.1 hj).1
        simpa using this
      have hp : p = (F j).1 := by
        rw [List.getElem?_map, List.getElem?_range hjl] at hj
        simpa using hj.symm
      subst hp
      refine ⟨(F j).2, Kd.K_len _ (hF j hjl).2, (hF j hjl).2, ?_⟩
      intro i u hu
      obtain ⟨_, hcl, hat⟩ := World.cells?_some (hF j hjl).1
      have hil : i < 6 := by
        have h1 := (List.getElem?_eq_some_iff.1 hu).1
        have h2 : (F j).2.length = 6 := Kd.K_len _ (hF j hjl).2
        omega
      have := hat i hil
      rw [Go.Deep.add_add] at this
      rw [show j * (Kd.sz k40) + i = j * 6 + i from rfl, this, hu]

theorem list_of4 {cs : List Value} (h : cs.length = 4) : ∃ v0 v1 v2 v3, cs = [v0, v1, v2, v3] := by
  match cs, h with
  | [v0, v1, v2, v3], _ => exact ⟨v0, v1, v2, v3, rfl⟩

theorem trod25 {n : Nat} {cs : List Value} {x : DataW X × List MemPlace} (h : DataW.trod enc Try.prog w base spare held n 25 cs = some x) : ∃ (a_0A : Option Addr) (a_0c : Nat) (a_0l : List Int) (a_1A : Option Addr) (a_1c : Nat) (a_1l : List Int) (a_2A : Option Addr) (a_2c : Nat) (a_2l : List Int) (a_3A : Option Addr) (a_3c : Nat) (a_3l : List S40), cs = [.slice a_0A a_0l.length a_0c, .slice a_1A a_1l.length a_1c, .slice a_2A a_2l.length a_2c, .slice a_3A a_3l.length a_3c] ∧ a_0l.length ≤ a_0c ∧ Kd.C (Kd.int .i64) w a_0A a_0l.length a_0l ∧ a_1l.length ≤ a_1c ∧ Kd.C (Kd.int .i64) w a_1A a_1l.length a_1l ∧ a_2l.length ≤ a_2c ∧ Kd.C (Kd.int .i64) w a_2A a_2l.length a_2l ∧ a_3l.length ≤ a_3c ∧ Kd.C k40 w a_3A a_3l.length a_3l := by
  obtain ⟨xs, m, _, hx, hl, hlen, hg⟩ := DataW.trod_struct Try.underlying25 h
  rw [ocells25] at hl
  obtain ⟨v0, v1, v2, v3, rfl⟩ := list_of4 hl
  obtain ⟨y0, h0⟩ := fld hlen hg 0 _ rfl 22 0 1 rfl rfl ocells22
  obtain ⟨y1, h1⟩ := fld hlen hg 1 _ rfl 22 1 1 rfl rfl ocells22
  obtain ⟨y2, h2⟩ := fld hlen hg 2 _ rfl 22 2 1 rfl rfl ocells22
  obtain ⟨y3, h3⟩ := fld hlen hg 3 _ rfl 23 3 1 rfl rfl ocells23
  obtain ⟨a_0A, a_0c, a_0l, e0, f0_0, f0_1⟩ := trod22 h0
  obtain ⟨a_1A, a_1c, a_1l, e1, f1_0, f1_1⟩ := trod22 h1
  obtain ⟨a_2A, a_2c, a_2l, e2, f2_0, f2_1⟩ := trod22 h2
  obtain ⟨a_3A, a_3c, a_3l, e3, f3_0, f3_1⟩ := trod23 h3
  simp only [List.drop_zero, List.take_succ_cons, List.take_zero, List.drop_succ_cons, List.cons.injEq, and_true] at e0 e1 e2 e3
  subst e0 e1 e2 e3
  exact ⟨a_0A, a_0c, a_0l, a_1A, a_1c, a_1l, a_2A, a_2c, a_2l, a_3A, a_3c, a_3l, rfl, f0_0, f0_1, f1_0, f1_1, f2_0, f2_1, f3_0, f3_1⟩

set_option maxRecDepth 100000 in
theorem evening_open {r : Reach} {b0 : Nat} {v : Value} {d : DataW X} {p : List MemPlace} (hval : Value.okWide Try.prog w r b0 25 v) (h : DataW.Trod enc Try.prog w base spare held 25 v d p) : ∃ (a_0A : Option Addr) (a_0c : Nat) (a_0l : List Int) (a_1A : Option Addr) (a_1c : Nat) (a_1l : List Int) (a_2A : Option Addr) (a_2c : Nat) (a_2l : List Int) (a_3A : Option Addr) (a_3c : Nat) (a_3l : List S40), v = .agg #[.slice a_0A a_0l.length a_0c, .slice a_1A a_1l.length a_1c, .slice a_2A a_2l.length a_2c, .slice a_3A a_3l.length a_3c] ∧ a_0l.length ≤ a_0c ∧ Kd.C (Kd.int .i64) w a_0A a_0l.length a_0l ∧ a_1l.length ≤ a_1c ∧ Kd.C (Kd.int .i64) w a_1A a_1l.length a_1l ∧ a_2l.length ≤ a_2c ∧ Kd.C (Kd.int .i64) w a_2A a_2l.length a_2l ∧ a_3l.length ≤ a_3c ∧ Kd.C k40 w a_3A a_3l.length a_3l := by
  obtain ⟨cs, rfl, hsz⟩ := okWide_struct Try.underlying25 hval
  obtain ⟨n, hn⟩ := h
  obtain ⟨a_0A, a_0c, a_0l, a_1A, a_1c, a_1l, a_2A, a_2c, a_2l, a_3A, a_3c, a_3l, hH, f0, f1, f2, f3, f4, f5, f6, f7⟩ := trod25 hn
  obtain ⟨l⟩ := cs
  obtain rfl : l = _ := hH
  exact ⟨a_0A, a_0c, a_0l, a_1A, a_1c, a_1l, a_2A, a_2c, a_2l, a_3A, a_3c, a_3l, rfl, f0, f1, f2, f3, f4, f5, f6, f7⟩

end

end Go.Proofs.Ytiplichdhcmjdaa.T
