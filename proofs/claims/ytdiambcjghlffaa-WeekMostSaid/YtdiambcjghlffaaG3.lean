/- Texts of this claim, put together: A6, A7, A8, E27, A9, N4, A10, A11, A12, A13, A14, N5, N6, N7. -/
import Derived.Test.YtdiambcjghlffaaG2
namespace Go.Proofs.Ytdiambcjghlffaa.T
open Go.RowKit Go.Proofs.YtdiambcjghlffaaW.PrintWords Go.Proofs.YtdiambcjghlffaaW.PrintMore
open Go.Proofs.Ytdiambcjghlffaa.P
set_option linter.unusedVariables false
set_option linter.unusedSimpArgs false

theorem c1_succ (V : Wk) (x : S45) (p : List Int) (day b r k : Nat) : c1 V x p day b r (k + 1) = c1 V x p day b r k + hb V x p day (b + k) r := rfl
theorem c2_succ (V : Wk) (x : S45) (p : List Int) (day b c nh j : Nat) : c2 V x p day b c nh (j + 1) = c2 V x p day b c nh j + c1 V x p day b (c + j) nh := rfl
set_option maxRecDepth 100000 in
set_option maxHeartbeats 8000000 in

theorem shows_r (V : Wk) (m : Wa) (x : S45) (p : List Int) (A : Option Addr) (c : Nat) (w : World) (ok : Shp V) (hV : WM w V m) (hx : DOk V x) (hp : Kd.C kI w A p.length p) (hpl : p.length = Sl V) (a nd b nh c0 ns : Nat) (t3 t4 t5 t6 t7 t8 : Int) (e3 : t3 = a) (e4 : t4 = a + nd - 1) (e5 : t5 = b) (e6 : t6 = b + nh - 1) (e7 : t7 = c0) (e8 : t8 = c0 + ns - 1) (ha : a + nd ≤ V.d.toNat) (hbb : b + nh ≤ V.h.toNat) (hcc : c0 + ns ≤ V.rs.length) :
    Calls Try.prog 78 #[wv V m, .slice A p.length c, .agg #[.int .i64 x.f0, .int .i64 x.f1, .int .i64 x.f2, .int .i64 x.f3, .int .i64 x.f4, .int .i64 x.f5, .int .i64 x.f6, .int .i64 x.f7], .int .i64 t3, .int .i64 t4, .int .i64 t5, .int .i64 t6, .int .i64 t7, .int .i64 t8] w fun e w' => e = .returned (.int .i64 ((c3 V x p a b c0 nh ns nd : Nat) : Int)) ∧ Below w.heap.size w w' := by
  have hu3 := Try.underlying3
  have hu22 := Try.underlying22
  have hu26 := Try.underlying26
  have hu45 := Try.underlying45
  obtain ⟨z3, o3⟩ := info_some info3s (by decide)
  obtain ⟨z22, o22⟩ := info_some info22s (by decide)
  obtain ⟨⟨n2, n3, n4, n5, nd_, nh_⟩, m2, m3, m4, m5⟩ := hx.nat ok
  obtain ⟨_, hsl8, _⟩ := slots_nat ok
  have okd := ok.d
  have okh := ok.h
  have okr := ok.r
  refine E.enter (N := 65) Try.func78 rfl Try.ntmps78 (args := [wv V m, .slice A p.length c, .agg #[.int .i64 x.f0, .int .i64 x.f1, .int .i64 x.f2, .int .i64 x.f3, .int .i64 x.f4, .int .i64 x.f5, .int .i64 x.f6, .int .i64 x.f7], .int .i64 t3, .int .i64 t4, .int .i64 t5, .int .i64 t6, .int .i64 t7, .int .i64 t8]) (by simp) ?_
  have L := Below.refl w.heap.size w
  refine E.CG.seq ?_
  refine E.CG.list ?_
  refine E.GL.st rfl rfl rfl (E.ST.box rfl rfl fun g9 w9 e9 b9 l9 => ?_)
  have h9_L : w.heap.size ≤ g9 := by rw [e9]; exact L.size
  replace L := below_step L l9
  refine E.GL.st rfl rfl rfl (E.ST.box rfl rfl fun g11 w11 e11 b11 l11 => ?_)
  have h11_L : w.heap.size ≤ g11 := by rw [e11]; exact L.size
  have n11_b9 : g9 ≠ g11 := by have := blk_lt b9; omega
  replace b9 := blk_below b9 l11
  replace L := below_step L l11
  refine E.GL.run rfl rfl rfl (E.Runs.assign rfl rfl) ?_
  refine E.GL.done ?_
  refine E.QG.code ?_
  refine E.CG.seq ?_
  refine E.CG.list ?_
  refine E.GL.run rfl rfl rfl (E.Runs.assign rfl rfl) ?_
  refine E.GL.done ?_
  refine E.QG.code ?_
  refine E.CG.seq ?_
  refine E.CG.seq ?_
  refine E.CG.list ?_
  refine E.GL.run rfl rfl rfl (E.Runs.move rfl rfl) ?_
  refine E.GL.run rfl rfl rfl (E.Runs.assign rfl rfl) ?_
  refine E.GL.done ?_
  refine E.QG.code ?_
  refine E.CG.block ?_
  have s3_b9 := b9
  have s3_b11 := b11
  have s3_L := L
  refine E.CG.loop (fun (i : Nat) => [(1, .slice A p.length c), (4, .int .i64 t4), (5, .int .i64 t5), (6, .int .i64 t6), (7, .int .i64 t7), (8, .int .i64 t8), (9, .pointer (some ⟨g9, 0, none⟩)), (11, .pointer (some ⟨g11, 0, none⟩)), (19, .int .i64 ((c3 V x p a b c0 nh ns i : Nat) : Int)), (20, .int .i64 ((a + i : Nat) : Int))]) (fun i w' => i ≤ nd ∧ w'.heap[g9]? = some (.cells #[.int .i64 V.d, .slice m.A V.rs.length m.a, .int .i64 V.h, .slice m.B V.fs.length m.b, .slice m.C V.ds.length m.c] 26 (0, 0)) ∧ w'.heap[g11]? = some (.cells #[.int .i64 x.f0, .int .i64 x.f1, .int .i64 x.f2, .int .i64 x.f3, .int .i64 x.f4, .int .i64 x.f5, .int .i64 x.f6, .int .i64 x.f7] 45 (0, 0)) ∧ Below w.heap.size w w') (fun i => nd - i) 0 (E.subc rfl (E.subc rfl (E.subc rfl (E.subc rfl (E.subc rfl (E.subc rfl (E.subc rfl (E.subc rfl (E.subc rfl (E.subc (congrArg (fun t => some (Value.int .i64 t)) (show (t3 : Int) = ((a + 0 : Nat) : Int) by omega)) E.subn)))))))))) ⟨Nat.zero_le _, b9, b11, L⟩ ?_
  rintro i w3 ⟨hi, b9, b11, L⟩
  refine E.CG.seq ?_
  refine E.CG.seq ?_
  refine E.CG.list ?_
  refine E.GL.run rfl rfl rfl (E.Runs.move rfl rfl) ?_
  refine E.GL.run rfl rfl rfl (E.Runs.move rfl rfl) ?_
  refine E.GL.cmp rfl rfl rfl (fun _ h => (E.Runs.leq rfl rfl rfl h)) (fun h26 => ?_) (fun h26 => ?_)
  · refine E.GL.done ?_
    refine E.QG.code ?_
    refine E.CG.cond_t rfl ?_
    refine E.CG.skip ?_
    refine E.QG.code ?_
    refine E.CG.seq ?_
    refine E.CG.block ?_
    refine E.CG.seq ?_
    refine E.CG.list ?_
    refine E.GL.run rfl rfl rfl (E.Runs.move rfl rfl) ?_
    refine E.GL.run rfl rfl rfl (E.Runs.assign rfl rfl) ?_
    refine E.GL.done ?_
    refine E.QG.code ?_
    refine E.CG.block ?_
    have s6_b9 := b9
    have s6_b11 := b11
    have s6_L := L
    refine E.CG.loop (fun (j : Nat) => [(1, .slice A p.length c), (4, .int .i64 t4), (5, .int .i64 t5), (6, .int .i64 t6), (7, .int .i64 t7), (8, .int .i64 t8), (9, .pointer (some ⟨g9, 0, none⟩)), (11, .pointer (some ⟨g11, 0, none⟩)), (19, .int .i64 ((c3 V x p a b c0 nh ns i + c2 V x p (a + i) b c0 nh j : Nat) : Int)), (20, .int .i64 ((a + i : Nat) : Int)), (21, .int .i64 ((c0 + j : Nat) : Int))]) (fun j w' => j ≤ ns ∧ w'.heap[g9]? = some (.cells #[.int .i64 V.d, .slice m.A V.rs.length m.a, .int .i64 V.h, .slice m.B V.fs.length m.b, .slice m.C V.ds.length m.c] 26 (0, 0)) ∧ w'.heap[g11]? = some (.cells #[.int .i64 x.f0, .int .i64 x.f1, .int .i64 x.f2, .int .i64 x.f3, .int .i64 x.f4, .int .i64 x.f5, .int .i64 x.f6, .int .i64 x.f7] 45 (0, 0)) ∧ Below w.heap.size w w') (fun j => ns - j) 0 (E.subc rfl (E.subc rfl (E.subc rfl (E.subc rfl (E.subc rfl (E.subc rfl (E.subc rfl (E.subc rfl (E.subc rfl (E.subc rfl (E.subc (congrArg (fun t => some (Value.int .i64 t)) (show (t7 : Int) = ((c0 + 0 : Nat) : Int) by omega)) E.subn))))))))))) ⟨Nat.zero_le _, b9, b11, L⟩ ?_
    rintro j w6 ⟨hj, b9, b11, L⟩
    refine E.CG.seq ?_
    refine E.CG.seq ?_
    refine E.CG.list ?_
    refine E.GL.run rfl rfl rfl (E.Runs.move rfl rfl) ?_
    refine E.GL.run rfl rfl rfl (E.Runs.move rfl rfl) ?_
    refine E.GL.cmp rfl rfl rfl (fun _ h => (E.Runs.leq rfl rfl rfl h)) (fun h32 => ?_) (fun h32 => ?_)
    · refine E.GL.done ?_
      refine E.QG.code ?_
      refine E.CG.cond_t rfl ?_
      refine E.CG.skip ?_
      refine E.QG.code ?_
      refine E.CG.seq ?_
      refine E.CG.block ?_
      refine E.CG.seq ?_
      refine E.CG.list ?_
      refine E.GL.run rfl rfl rfl (E.Runs.move rfl rfl) ?_
      refine E.GL.run rfl rfl rfl (E.Runs.assign rfl rfl) ?_
      refine E.GL.done ?_
      refine E.QG.code ?_
      refine E.CG.block ?_
      have s9_b9 := b9
      have s9_b11 := b11
      have s9_L := L
      refine E.CG.loop (fun (k : Nat) => [(1, .slice A p.length c), (4, .int .i64 t4), (5, .int .i64 t5), (6, .int .i64 t6), (7, .int .i64 t7), (8, .int .i64 t8), (9, .pointer (some ⟨g9, 0, none⟩)), (11, .pointer (some ⟨g11, 0, none⟩)), (19, .int .i64 ((c3 V x p a b c0 nh ns i + c2 V x p (a + i) b c0 nh j + c1 V x p (a + i) b (c0 + j) k : Nat) : Int)), (20, .int .i64 ((a + i : Nat) : Int)), (21, .int .i64 ((c0 + j : Nat) : Int)), (22, .int .i64 ((b + k : Nat) : Int))]) (fun k w' => k ≤ nh ∧ w'.heap[g9]? = some (.cells #[.int .i64 V.d, .slice m.A V.rs.length m.a, .int .i64 V.h, .slice m.B V.fs.length m.b, .slice m.C V.ds.length m.c] 26 (0, 0)) ∧ w'.heap[g11]? = some (.cells #[.int .i64 x.f0, .int .i64 x.f1, .int .i64 x.f2, .int .i64 x.f3, .int .i64 x.f4, .int .i64 x.f5, .int .i64 x.f6, .int .i64 x.f7] 45 (0, 0)) ∧ Below w.heap.size w w') (fun k => nh - k) 0 (E.subc rfl (E.subc rfl (E.subc rfl (E.subc rfl (E.subc rfl (E.subc rfl (E.subc rfl (E.subc rfl (E.subc rfl (E.subc rfl (E.subc rfl (E.subc (congrArg (fun t => some (Value.int .i64 t)) (show (t5 : Int) = ((b + 0 : Nat) : Int) by omega)) E.subn)))))))))))) ⟨Nat.zero_le _, b9, b11, L⟩ ?_
      rintro k w9 ⟨hk, b9, b11, L⟩
      refine E.CG.seq ?_
      refine E.CG.seq ?_
      refine E.CG.list ?_
      refine E.GL.run rfl rfl rfl (E.Runs.move rfl rfl) ?_
      refine E.GL.run rfl rfl rfl (E.Runs.move rfl rfl) ?_
      refine E.GL.cmp rfl rfl rfl (fun _ h => (E.Runs.leq rfl rfl rfl h)) (fun h38 => ?_) (fun h38 => ?_)
      · obtain ⟨s, hs⟩ := get_ex (show c0 + j < V.rs.length by omega)
        obtain ⟨ad, eA, X⟩ := int_at hV.rs hs
        have hlt := slN_lt (V := V) (day := a + i) (r := c0 + j) (h := b + k) (by omega) (by omega) (by omega)
        obtain ⟨y, hy⟩ := get_ex (show slN V (a + i) (c0 + j) (b + k) < p.length by omega)
        obtain ⟨ap, eP, XP⟩ := int_at hp hy
        have q3 := c3_le V x p a b c0 nh ns i
        have q2 := c2_le V x p (a + i) b c0 nh j
        have q1 := c1_le V x p (a + i) b (c0 + j) k
        have r3 : 1 * nh * ns * i ≤ 1 * 4 * 4 * 7 := Nat.mul_le_mul (Nat.mul_le_mul (Nat.mul_le_mul (Nat.le_refl _) (by omega)) (by omega)) (by omega)
        have r2 : 1 * nh * j ≤ 1 * 4 * 4 := Nat.mul_le_mul (Nat.mul_le_mul (Nat.le_refl _) (by omega)) (by omega)
        refine E.GL.done ?_
        refine E.QG.code ?_
        refine E.CG.cond_t rfl ?_
        refine E.CG.skip ?_
        refine E.QG.code ?_
        refine E.CG.seq ?_
        refine E.CG.block ?_
        refine E.CG.seq ?_
        refine E.CG.heldH (none) (by kernel_rfl) fun v11 lD hh => ?_
        replace b9 := blk_below b9 lD
        replace b11 := blk_below b11 lD
        replace L := below_step L lD
        clear lD
        have s_b9 := b9
        have s_b11 := b11
        have s_L := L
        refine E.GH.take (i := 0) rfl (by kernel_rfl) (by kernel_rfl) (by kernel_rfl) (by intro c a d v w h; first | (cases d <;> exact h) | exact nomatch (show _ ∧ _ from h).1) rfl rfl rfl (fun w' hS => (E.Runs.fieldAddr rfl rfl hu26 rfl (by assumption) rfl)) ?_
        refine E.GH.take (i := 1) rfl (by kernel_rfl) (by kernel_rfl) (by kernel_rfl) (by intro c a d v w h; first | (cases d <;> exact h) | exact nomatch (show _ ∧ _ from h).1) rfl rfl rfl (fun w' hS => (E.Runs.load1 rfl rfl hu22 rfl (by first | exact E.keeps hS (E.blkc (by assumption) rfl) (by first | exact E.nen | exact E.nes (by assumption) | exact E.nes (Ne.symm (by assumption))) | exact pw_cell_below (below_step s_L (E.belowG hS)) (by assumption)))) ?_
        refine E.GH.take (i := 2) rfl (by kernel_rfl) (by kernel_rfl) (by kernel_rfl) (by intro c a d v w h; first | (cases d <;> exact h) | exact nomatch (show _ ∧ _ from h).1) rfl rfl rfl (fun w' hS => (E.Runs.move rfl rfl)) ?_
        refine E.GH.take (i := 3) rfl (by kernel_rfl) (by kernel_rfl) (by kernel_rfl) (by intro c a d v w h; first | (cases d <;> exact h) | exact nomatch (show _ ∧ _ from h).1) rfl rfl rfl (fun w' hS => (E.Runs.indexAddrA (i := (c0 + j)) rfl rfl rfl hu22 z3 o3 (by omega) eA rfl)) ?_
        refine E.GH.take (i := 4) rfl (by kernel_rfl) (by kernel_rfl) (by kernel_rfl) (by intro c a d v w h; first | (cases d <;> exact h) | exact nomatch (show _ ∧ _ from h).1) rfl rfl rfl (fun w' hS => (E.Runs.load rfl rfl hu3 (pw_cell_below (below_step s_L (E.belowG hS)) X))) ?_
        refine E.GH.take (i := 5) rfl (by kernel_rfl) (by kernel_rfl) (by kernel_rfl) (by intro c a d v w h; first | (cases d <;> exact h) | exact nomatch (show _ ∧ _ from h).1) rfl rfl rfl (fun w' hS => (E.Runs.fieldAddr rfl rfl hu45 rfl (by assumption) rfl)) ?_
        refine E.GH.take (i := 6) rfl (by kernel_rfl) (by kernel_rfl) (by kernel_rfl) (by intro c a d v w h; first | (cases d <;> exact h) | exact nomatch (show _ ∧ _ from h).1) rfl rfl rfl (fun w' hS => (E.Runs.load rfl rfl hu3 (by first | exact E.keeps hS (E.blkc (by assumption) rfl) (by first | exact E.nen | exact E.nes (by assumption) | exact E.nes (Ne.symm (by assumption))) | exact pw_cell_below (below_step s_L (E.belowG hS)) (by assumption)))) ?_
        refine E.GH.cmp (i := 7) rfl (by kernel_rfl) (by kernel_rfl) (by kernel_rfl) (by intro c a d v w h; first | (cases d <;> exact h) | exact nomatch (show _ ∧ _ from h).1) rfl rfl rfl (fun _ h w' hS => (E.Runs.geq rfl rfl rfl h)) (fun h48 => ?_) (fun h48 => ?_)
        · refine E.GH.take (i := 8) rfl (by kernel_rfl) (by kernel_rfl) (by kernel_rfl) (by intro c a d v w h; first | (cases d <;> exact h) | exact nomatch (show _ ∧ _ from h).1) rfl rfl rfl (fun w' hS => (E.Runs.move rfl rfl)) ?_
          refine E.GH.take (i := 9) rfl (by kernel_rfl) (by kernel_rfl) (by kernel_rfl) (by intro c a d v w h; first | (cases d <;> exact h) | exact nomatch (show _ ∧ _ from h).1) rfl rfl rfl (fun w' hS => (E.Runs.move rfl rfl)) ?_
          refine E.GH.take (i := 10) rfl (by kernel_rfl) (by kernel_rfl) (by kernel_rfl) (by intro c a d v w h; first | (cases d <;> exact h) | exact nomatch (show _ ∧ _ from h).1) rfl rfl rfl (fun w' hS => (E.Runs.loads (cs := [.int .i64 V.d, .slice m.A V.rs.length m.a, .int .i64 V.h, .slice m.B V.fs.length m.b, .slice m.C V.ds.length m.c]) rfl rfl hu26 rfl info26s (blk_cells (blk_grown s_b9 hS E.nen)))) ?_
          refine E.GH.take (i := 11) rfl (by kernel_rfl) (by kernel_rfl) (by kernel_rfl) (by intro c a d v w h; first | (cases d <;> exact h) | exact nomatch (show _ ∧ _ from h).1) rfl rfl rfl (fun w' hS => (E.Runs.move rfl rfl)) ?_
          refine E.GH.take (i := 12) rfl (by kernel_rfl) (by kernel_rfl) (by kernel_rfl) (by intro c a d v w h; first | (cases d <;> exact h) | exact nomatch (show _ ∧ _ from h).1) rfl rfl rfl (fun w' hS => (E.Runs.move rfl rfl)) ?_
          refine E.GH.take (i := 13) rfl (by kernel_rfl) (by kernel_rfl) (by kernel_rfl) (by intro c a d v w h; first | (cases d <;> exact h) | exact nomatch (show _ ∧ _ from h).1) rfl rfl rfl (fun w' hS => (E.Runs.move rfl rfl)) ?_
          refine E.GH.take (i := 17) rfl (by kernel_rfl) (by kernel_rfl) (by kernel_rfl) (by intro c a d v w h; first | (cases d <;> exact h) | exact nomatch (show _ ∧ _ from h).1) rfl rfl rfl (fun w' hS => (E.Runs.fieldAddr rfl rfl hu45 rfl (by assumption) rfl)) ?_
          refine E.GH.take (i := 18) rfl (by kernel_rfl) (by kernel_rfl) (by kernel_rfl) (by intro c a d v w h; first | (cases d <;> exact h) | exact nomatch (show _ ∧ _ from h).1) rfl rfl rfl (fun w' hS => (E.Runs.load rfl rfl hu3 (by first | exact E.keeps hS (E.blkc (by assumption) rfl) (by first | exact E.nen | exact E.nes (by assumption) | exact E.nes (Ne.symm (by assumption))) | exact pw_cell_below (below_step s_L (E.belowG hS)) (by assumption)))) ?_
          refine E.GH.one (i := 14) (by kernel_rfl) rfl ?_
          refine E.GO.st rfl rfl rfl (E.ST.call rfl ent33 (E.evc rfl (E.evc rfl (E.evc rfl (E.evc rfl E.evn)))) ((slot_r V m (a + i) (c0 + j) (b + k) _ ok (by omega) (by omega) (by omega)).mono ?_))
          rintro e w55 ⟨rfl, l55⟩
          refine ⟨_, rfl, hh.trans (E.gbB l55), ?_⟩
          replace hh := hh.trans (E.gbB l55)
          replace b9 := blk_below b9 l55
          replace b11 := blk_below b11 l55
          replace L := below_step L l55
          refine E.GH.take (i := 15) rfl (by kernel_rfl) (by kernel_rfl) (by kernel_rfl) (by intro c a d v w h; first | (cases d <;> exact h) | exact nomatch (show _ ∧ _ from h).1) rfl rfl rfl (fun w' hS => (E.Runs.indexAddrA (i := slN V (a + i) (c0 + j) (b + k)) rfl rfl rfl hu22 z3 o3 (by omega) eP rfl)) ?_
          refine E.GH.take (i := 16) rfl (by kernel_rfl) (by kernel_rfl) (by kernel_rfl) (by intro c a d v w h; first | (cases d <;> exact h) | exact nomatch (show _ ∧ _ from h).1) rfl rfl rfl (fun w' hS => (E.Runs.load rfl rfl hu3 (pw_cell_below (below_step s_L (E.belowG hS)) XP))) ?_
          refine E.GH.cmp (i := 19) rfl (by kernel_rfl) (by kernel_rfl) (by kernel_rfl) (by intro c a d v w h; first | (cases d <;> exact h) | exact nomatch (show _ ∧ _ from h).1) rfl rfl rfl (fun _ h w' hS => (E.Runs.eql rfl rfl rfl h)) (fun h60 => ?_) (fun h60 => ?_)
          · refine E.GH.take (i := 20) rfl (by kernel_rfl) (by kernel_rfl) (by kernel_rfl) (by intro c a d v w h; first | (cases d <;> exact h) | exact nomatch (show _ ∧ _ from h).1) rfl rfl rfl (fun w' hS => (E.Runs.pick_t rfl rfl rfl)) ?_
            refine E.GH.done (by kernel_rfl) ?_
            refine E.QG.code ?_
            refine E.CG.cond_t rfl ?_
            refine E.CG.list ?_
            refine E.GL.run rfl rfl rfl (E.Runs.move rfl rfl) ?_
            refine E.GL.run rfl rfl rfl (E.Runs.add rfl rfl rfl (IntWalk.i64_in _ (by omega))) ?_
            refine E.GL.run rfl rfl rfl (E.Runs.assign rfl rfl) ?_
            refine E.GL.done ?_
            refine E.QG.block_normal ?_
            refine E.QG.code ?_
            refine E.CG.list ?_
            refine E.GL.run rfl rfl rfl (E.Runs.move rfl rfl) ?_
            refine E.GL.run rfl rfl rfl (E.Runs.add rfl rfl rfl (IntWalk.i64_in _ (by omega))) ?_
            refine E.GL.run rfl rfl rfl (E.Runs.assign rfl rfl) ?_
            refine E.GL.done ?_
            exact E.QG.round (k + 1) (E.subc rfl (E.subc rfl (E.subc rfl (E.subc rfl (E.subc rfl (E.subc rfl (E.subc rfl (E.subc rfl (E.subc (by first | exact congrArg (fun t => some (Value.int .i64 t)) (show (((c3 V x p a b c0 nh ns i + c2 V x p (a + i) b c0 nh j + c1 V x p (a + i) b (c0 + j) k : Nat) : Int) + 1) = ((c3 V x p a b c0 nh ns i + c2 V x p (a + i) b c0 nh j + c1 V x p (a + i) b (c0 + j) (k + 1) : Nat) : Int) by rw [c1_succ, hb_step hs hy, if_pos ⟨h48, h60⟩]; omega) | exact congrArg (fun t => some (Value.int .i64 t)) (show ((c3 V x p a b c0 nh ns i + c2 V x p (a + i) b c0 nh j + c1 V x p (a + i) b (c0 + j) k : Nat) : Int) = ((c3 V x p a b c0 nh ns i + c2 V x p (a + i) b c0 nh j + c1 V x p (a + i) b (c0 + j) (k + 1) : Nat) : Int) by rw [c1_succ, hb_step hs hy, if_neg (fun k => h60 k.2)]; omega) | exact congrArg (fun t => some (Value.int .i64 t)) (show ((c3 V x p a b c0 nh ns i + c2 V x p (a + i) b c0 nh j + c1 V x p (a + i) b (c0 + j) k : Nat) : Int) = ((c3 V x p a b c0 nh ns i + c2 V x p (a + i) b c0 nh j + c1 V x p (a + i) b (c0 + j) (k + 1) : Nat) : Int) by rw [c1_succ, hb_step hs hy, if_neg (fun k => h48 k.1)]; omega) | fail) (E.subc rfl (E.subc rfl (E.subc rfl E.subn)))))))))))) ⟨by omega, b9, b11, L⟩ (by omega)
          · refine E.GH.take (i := 20) rfl (by kernel_rfl) (by kernel_rfl) (by kernel_rfl) (by intro c a d v w h; first | (cases d <;> exact h) | exact nomatch (show _ ∧ _ from h).1) rfl rfl rfl (fun w' hS => (E.Runs.pick_t rfl rfl rfl)) ?_
            refine E.GH.done (by kernel_rfl) ?_
            refine E.QG.code ?_
            refine E.CG.cond_f rfl ?_
            refine E.CG.skip ?_
            refine E.QG.block_normal ?_
            refine E.QG.code ?_
            refine E.CG.list ?_
            refine E.GL.run rfl rfl rfl (E.Runs.move rfl rfl) ?_
            refine E.GL.run rfl rfl rfl (E.Runs.add rfl rfl rfl (IntWalk.i64_in _ (by omega))) ?_
            refine E.GL.run rfl rfl rfl (E.Runs.assign rfl rfl) ?_
            refine E.GL.done ?_
            exact E.QG.round (k + 1) (E.subc rfl (E.subc rfl (E.subc rfl (E.subc rfl (E.subc rfl (E.subc rfl (E.subc rfl (E.subc rfl (E.subc (by first | exact congrArg (fun t => some (Value.int .i64 t)) (show (((c3 V x p a b c0 nh ns i + c2 V x p (a + i) b c0 nh j + c1 V x p (a + i) b (c0 + j) k : Nat) : Int) + 1) = ((c3 V x p a b c0 nh ns i + c2 V x p (a + i) b c0 nh j + c1 V x p (a + i) b (c0 + j) (k + 1) : Nat) : Int) by rw [c1_succ, hb_step hs hy, if_pos ⟨h48, h60⟩]; omega) | exact congrArg (fun t => some (Value.int .i64 t)) (show ((c3 V x p a b c0 nh ns i + c2 V x p (a + i) b c0 nh j + c1 V x p (a + i) b (c0 + j) k : Nat) : Int) = ((c3 V x p a b c0 nh ns i + c2 V x p (a + i) b c0 nh j + c1 V x p (a + i) b (c0 + j) (k + 1) : Nat) : Int) by rw [c1_succ, hb_step hs hy, if_neg (fun k => h60 k.2)]; omega) | exact congrArg (fun t => some (Value.int .i64 t)) (show ((c3 V x p a b c0 nh ns i + c2 V x p (a + i) b c0 nh j + c1 V x p (a + i) b (c0 + j) k : Nat) : Int) = ((c3 V x p a b c0 nh ns i + c2 V x p (a + i) b c0 nh j + c1 V x p (a + i) b (c0 + j) (k + 1) : Nat) : Int) by rw [c1_succ, hb_step hs hy, if_neg (fun k => h48 k.1)]; omega) | fail) (E.subc rfl (E.subc rfl (E.subc rfl E.subn)))))))))))) ⟨by omega, b9, b11, L⟩ (by omega)
        · refine E.GH.take (i := 8) rfl (by kernel_rfl) (by kernel_rfl) (by kernel_rfl) (by intro c a d v w h; first | (cases d <;> exact h) | exact nomatch (show _ ∧ _ from h).1) rfl rfl rfl (fun w' hS => (E.Runs.move rfl rfl)) ?_
          refine E.GH.pass (i := 9) rfl (by kernel_rfl) (by kernel_rfl) (by kernel_rfl) (by intro c a d v w h; first | (cases d <;> exact h) | exact nomatch (show _ ∧ _ from h).1) rfl rfl rfl ?_
          refine E.GH.pass (i := 10) rfl (by kernel_rfl) (by kernel_rfl) (by kernel_rfl) (by intro c a d v w h; first | (cases d <;> exact h) | exact nomatch (show _ ∧ _ from h).1) rfl rfl rfl ?_
          refine E.GH.pass (i := 11) rfl (by kernel_rfl) (by kernel_rfl) (by kernel_rfl) (by intro c a d v w h; first | (cases d <;> exact h) | exact nomatch (show _ ∧ _ from h).1) rfl rfl rfl ?_
          refine E.GH.pass (i := 12) rfl (by kernel_rfl) (by kernel_rfl) (by kernel_rfl) (by intro c a d v w h; first | (cases d <;> exact h) | exact nomatch (show _ ∧ _ from h).1) rfl rfl rfl ?_
          refine E.GH.pass (i := 13) rfl (by kernel_rfl) (by kernel_rfl) (by kernel_rfl) (by intro c a d v w h; first | (cases d <;> exact h) | exact nomatch (show _ ∧ _ from h).1) rfl rfl rfl ?_
          refine E.GH.pass (i := 14) rfl (by kernel_rfl) (by kernel_rfl) (by kernel_rfl) (by intro c a d v w h; first | (cases d <;> exact h) | exact nomatch (show _ ∧ _ from h).1) rfl rfl rfl ?_
          refine E.GH.pass (i := 15) rfl (by kernel_rfl) (by kernel_rfl) (by kernel_rfl) (by intro c a d v w h; first | (cases d <;> exact h) | exact nomatch (show _ ∧ _ from h).1) rfl rfl rfl ?_
          refine E.GH.pass (i := 16) rfl (by kernel_rfl) (by kernel_rfl) (by kernel_rfl) (by intro c a d v w h; first | (cases d <;> exact h) | exact nomatch (show _ ∧ _ from h).1) rfl rfl rfl ?_
          refine E.GH.pass (i := 17) rfl (by kernel_rfl) (by kernel_rfl) (by kernel_rfl) (by intro c a d v w h; first | (cases d <;> exact h) | exact nomatch (show _ ∧ _ from h).1) rfl rfl rfl ?_
          refine E.GH.pass (i := 18) rfl (by kernel_rfl) (by kernel_rfl) (by kernel_rfl) (by intro c a d v w h; first | (cases d <;> exact h) | exact nomatch (show _ ∧ _ from h).1) rfl rfl rfl ?_
          refine E.GH.pass (i := 19) rfl (by kernel_rfl) (by kernel_rfl) (by kernel_rfl) (by intro c a d v w h; first | (cases d <;> exact h) | exact nomatch (show _ ∧ _ from h).1) rfl rfl rfl ?_
          refine E.GH.take (i := 20) rfl (by kernel_rfl) (by kernel_rfl) (by kernel_rfl) (by intro c a d v w h; first | (cases d <;> exact h) | exact nomatch (show _ ∧ _ from h).1) rfl rfl rfl (fun w' hS => (E.Runs.pick_f rfl rfl rfl)) ?_
          refine E.GH.done (by kernel_rfl) ?_
          refine E.QG.code ?_
          refine E.CG.cond_f rfl ?_
          refine E.CG.skip ?_
          refine E.QG.block_normal ?_
          refine E.QG.code ?_
          refine E.CG.list ?_
          refine E.GL.run rfl rfl rfl (E.Runs.move rfl rfl) ?_
          refine E.GL.run rfl rfl rfl (E.Runs.add rfl rfl rfl (IntWalk.i64_in _ (by omega))) ?_
          refine E.GL.run rfl rfl rfl (E.Runs.assign rfl rfl) ?_
          refine E.GL.done ?_
          exact E.QG.round (k + 1) (E.subc rfl (E.subc rfl (E.subc rfl (E.subc rfl (E.subc rfl (E.subc rfl (E.subc rfl (E.subc rfl (E.subc (by first | exact congrArg (fun t => some (Value.int .i64 t)) (show (((c3 V x p a b c0 nh ns i + c2 V x p (a + i) b c0 nh j + c1 V x p (a + i) b (c0 + j) k : Nat) : Int) + 1) = ((c3 V x p a b c0 nh ns i + c2 V x p (a + i) b c0 nh j + c1 V x p (a + i) b (c0 + j) (k + 1) : Nat) : Int) by rw [c1_succ, hb_step hs hy, if_pos ⟨h48, h60⟩]; omega) | exact congrArg (fun t => some (Value.int .i64 t)) (show ((c3 V x p a b c0 nh ns i + c2 V x p (a + i) b c0 nh j + c1 V x p (a + i) b (c0 + j) k : Nat) : Int) = ((c3 V x p a b c0 nh ns i + c2 V x p (a + i) b c0 nh j + c1 V x p (a + i) b (c0 + j) (k + 1) : Nat) : Int) by rw [c1_succ, hb_step hs hy, if_neg (fun k => h60 k.2)]; omega) | exact congrArg (fun t => some (Value.int .i64 t)) (show ((c3 V x p a b c0 nh ns i + c2 V x p (a + i) b c0 nh j + c1 V x p (a + i) b (c0 + j) k : Nat) : Int) = ((c3 V x p a b c0 nh ns i + c2 V x p (a + i) b c0 nh j + c1 V x p (a + i) b (c0 + j) (k + 1) : Nat) : Int) by rw [c1_succ, hb_step hs hy, if_neg (fun k => h48 k.1)]; omega) | fail) (E.subc rfl (E.subc rfl (E.subc rfl E.subn)))))))))))) ⟨by omega, b9, b11, L⟩ (by omega)
      · obtain rfl : nh = k := by omega
        refine E.GL.done ?_
        refine E.QG.code ?_
        refine E.CG.cond_f rfl ?_
        refine E.CG.exit ?_
        refine E.QG.pass_exit ?_
        refine E.QG.pass_exit ?_
        refine E.QG.block_here ?_
        refine E.QG.block_normal ?_
        refine E.QG.code ?_
        refine E.CG.list ?_
        refine E.GL.run rfl rfl rfl (E.Runs.move rfl rfl) ?_
        refine E.GL.run rfl rfl rfl (E.Runs.add rfl rfl rfl (IntWalk.i64_in _ (by omega))) ?_
        refine E.GL.run rfl rfl rfl (E.Runs.assign rfl rfl) ?_
        refine E.GL.done ?_
        exact E.QG.round (j + 1) (E.subc rfl (E.subc rfl (E.subc rfl (E.subc rfl (E.subc rfl (E.subc rfl (E.subc rfl (E.subc rfl (E.subc (congrArg (fun t => some (Value.int .i64 t)) (show ((c3 V x p a b c0 nh ns i + c2 V x p (a + i) b c0 nh j + c1 V x p (a + i) b (c0 + j) nh : Nat) : Int) = ((c3 V x p a b c0 nh ns i + c2 V x p (a + i) b c0 nh (j + 1) : Nat) : Int) by rw [c2_succ]; omega)) (E.subc rfl (E.subc rfl E.subn))))))))))) ⟨by omega, b9, b11, L⟩ (by omega)
    · obtain rfl : ns = j := by omega
      refine E.GL.done ?_
      refine E.QG.code ?_
      refine E.CG.cond_f rfl ?_
      refine E.CG.exit ?_
      refine E.QG.pass_exit ?_
      refine E.QG.pass_exit ?_
      refine E.QG.block_here ?_
      refine E.QG.block_normal ?_
      refine E.QG.code ?_
      refine E.CG.list ?_
      refine E.GL.run rfl rfl rfl (E.Runs.move rfl rfl) ?_
      refine E.GL.run rfl rfl rfl (E.Runs.add rfl rfl rfl (IntWalk.i64_in _ (by omega))) ?_
      refine E.GL.run rfl rfl rfl (E.Runs.assign rfl rfl) ?_
      refine E.GL.done ?_
      exact E.QG.round (i + 1) (E.subc rfl (E.subc rfl (E.subc rfl (E.subc rfl (E.subc rfl (E.subc rfl (E.subc rfl (E.subc rfl (E.subc rfl (E.subc rfl E.subn)))))))))) ⟨by omega, b9, b11, L⟩ (by omega)
  · obtain rfl : nd = i := by omega
    refine E.GL.done ?_
    refine E.QG.code ?_
    refine E.CG.cond_f rfl ?_
    refine E.CG.exit ?_
    refine E.QG.pass_exit ?_
    refine E.QG.pass_exit ?_
    refine E.QG.block_here ?_
    refine E.QG.code ?_
    refine E.CG.seq ?_
    refine E.CG.list ?_
    refine E.GL.run rfl rfl rfl (E.Runs.move rfl rfl) ?_
    refine E.GL.run rfl rfl rfl (E.Runs.assign rfl rfl) ?_
    refine E.GL.done ?_
    refine E.QG.code ?_
    refine E.CG.ret ?_
    exact E.QG.result rfl rfl ⟨rfl, L⟩

end Go.Proofs.Ytdiambcjghlffaa.T
namespace Go.Proofs.Ytdiambcjghlffaa.T
open Go.RowKit Go.Proofs.YtdiambcjghlffaaW.PrintWords Go.Proofs.YtdiambcjghlffaaW.PrintMore
open Go.Proofs.Ytdiambcjghlffaa.P
set_option linter.unusedVariables false
set_option linter.unusedSimpArgs false

theorem keep_rest {V : Wk} {x : S45} {p : List Int} (h1 : ¬ x.f0 = 1) (h2 : ¬ x.f0 = 2) (h3 : x.f0 = 3 → ∀ i, i < nD x → Cln V x p (x.f2.toNat + i)) (h4 : x.f0 = 4 → ∀ i, i < nD x → ∀ k, k < nH x → sh V x p (x.f2.toNat + i) (x.f4.toNat + k) ≤ 1) (h5 : x.f0 = 5 → ∀ i, i < nD x → ∀ k, k < nH x → 1 ≤ sh V x p (x.f2.toNat + i) (x.f4.toNat + k)) : Keep V x p := by
  by_cases e3 : x.f0 = 3
  · exact (keep3 e3).mpr (h3 e3)
  · by_cases e4 : x.f0 = 4
    · exact (keep4 e4).mpr (h4 e4)
    · by_cases e5 : x.f0 = 5
      · exact (keep5 e5).mpr (h5 e5)
      · exact keep0 h1 h2 e4 e5 (fun e => absurd e e3)
theorem upto {Q : Nat → Prop} {n : Nat} (h : ∀ i, i < n → Q i) (k : Q n) : ∀ i, i < n + 1 → Q i := fun i hi => by
  by_cases e : i = n
  · rw [e]; exact k
  · exact h i (by omega)
/-- A screen shows nothing else. -/
def cR (V : Wk) (x : S45) (p : List Int) (day r : Nat) : Prop := x.f6 ≤ V.rs.getD r 0 ∧ ∀ k, k < nH x → p.getD (slN V day r (x.f4.toNat + k)) 0 = x.f1
/-- One of the first screens does. -/
def exR (V : Wk) (x : S45) (p : List Int) (day n : Nat) : Prop := ∃ r, r < n ∧ cR V x p day r
theorem cln_iff {V : Wk} {x : S45} {p : List Int} {day : Nat} : Cln V x p day ↔ exR V x p day V.rs.length := Iff.rfl
theorem exR_none {V : Wk} {x : S45} {p : List Int} {day : Nat} : ¬ exR V x p day 0 := fun ⟨r, h, _⟩ => by omega
theorem exR_more {V : Wk} {x : S45} {p : List Int} {day n : Nat} : exR V x p day (n + 1) ↔ exR V x p day n ∨ cR V x p day n := by
  constructor
  · rintro ⟨r, h, q⟩
    by_cases e : r = n
    · subst e; exact .inr q
    · exact .inl ⟨r, by omega, q⟩
  · rintro (⟨r, h, q⟩ | q)
    · exact ⟨r, by omega, q⟩
    · exact ⟨n, by omega, q⟩
set_option maxRecDepth 100000 in
set_option maxHeartbeats 8000000 in

theorem isKept_r (V : Wk) (m : Wa) (x : S45) (p : List Int) (A : Option Addr) (c : Nat) (w : World) (ok : Shp V) (hV : WM w V m) (hx : DOk V x) (hp : Kd.C kI w A p.length p) (hpl : p.length = Sl V) (r : Bool) (hb : r = true ↔ Keep V x p) :
    Calls Try.prog 68 #[wv V m, .slice A p.length c, .agg #[.int .i64 x.f0, .int .i64 x.f1, .int .i64 x.f2, .int .i64 x.f3, .int .i64 x.f4, .int .i64 x.f5, .int .i64 x.f6, .int .i64 x.f7]] w fun e w' => e = .returned (.bool r) ∧ Below w.heap.size w w' := by
  have hu3 := Try.underlying3
  have hu22 := Try.underlying22
  have hu26 := Try.underlying26
  have hu45 := Try.underlying45
  obtain ⟨z3, o3⟩ := info_some info3s (by decide)
  obtain ⟨z22, o22⟩ := info_some info22s (by decide)
  obtain ⟨⟨n2, n3, n4, n5, nd_, nh_⟩, m2, m3, m4, m5⟩ := hx.nat ok
  obtain ⟨_, hsl8, _⟩ := slots_nat ok
  have okd := ok.d
  have okh := ok.h
  have okr := ok.r
  have hnD : nD x = x.f3.toNat - x.f2.toNat + 1 := rfl
  have hnH : nH x = x.f5.toNat - x.f4.toNat + 1 := rfl
  refine E.enter (N := 120) Try.func68 rfl Try.ntmps68 (args := [wv V m, .slice A p.length c, .agg #[.int .i64 x.f0, .int .i64 x.f1, .int .i64 x.f2, .int .i64 x.f3, .int .i64 x.f4, .int .i64 x.f5, .int .i64 x.f6, .int .i64 x.f7]]) (by simp) ?_
  have L := Below.refl w.heap.size w
  refine E.CG.seq ?_
  refine E.CG.list ?_
  refine E.GL.st rfl rfl rfl (E.ST.box rfl rfl fun g3 w3 e3 b3 l3 => ?_)
  have h3_L : w.heap.size ≤ g3 := by rw [e3]; exact L.size
  replace L := below_step L l3
  refine E.GL.st rfl rfl rfl (E.ST.box rfl rfl fun g5 w5 e5 b5 l5 => ?_)
  have h5_L : w.heap.size ≤ g5 := by rw [e5]; exact L.size
  have n5_b3 : g3 ≠ g5 := by have := blk_lt b3; omega
  replace b3 := blk_below b3 l5
  replace L := below_step L l5
  refine E.GL.run rfl rfl rfl (E.Runs.assign rfl rfl) ?_
  refine E.GL.done ?_
  refine E.QG.code ?_
  refine E.CG.seq ?_
  refine E.CG.list ?_
  refine E.GL.run rfl rfl rfl (E.Runs.fieldAddr rfl rfl hu26 rfl (by assumption) rfl) ?_
  refine E.GL.run rfl rfl rfl (E.Runs.load1 rfl rfl hu22 rfl (by first | assumption | exact E.blkc (by assumption) rfl | exact pw_cell_below L (by assumption))) ?_
  refine E.GL.run rfl rfl rfl (E.Runs.len rfl rfl hu22) ?_
  refine E.GL.run rfl rfl rfl (E.Runs.sub rfl rfl rfl (IntWalk.i64_in _ (by omega))) ?_
  refine E.GL.run rfl rfl rfl (E.Runs.assign rfl rfl) ?_
  refine E.GL.done ?_
  refine E.QG.code ?_
  refine E.CG.seq ?_
  refine E.CG.list ?_
  refine E.GL.run rfl rfl rfl (E.Runs.loads (cs := [.int .i64 V.d, .slice m.A V.rs.length m.a, .int .i64 V.h, .slice m.B V.fs.length m.b, .slice m.C V.ds.length m.c]) rfl rfl hu26 rfl info26s (blk_cells b3)) ?_
  refine E.GL.run rfl rfl rfl (E.Runs.move rfl rfl) ?_
  refine E.GL.run rfl rfl rfl (E.Runs.loads (cs := [.int .i64 x.f0, .int .i64 x.f1, .int .i64 x.f2, .int .i64 x.f3, .int .i64 x.f4, .int .i64 x.f5, .int .i64 x.f6, .int .i64 x.f7]) rfl rfl hu45 rfl info45s (blk_cells b5)) ?_
  refine E.GL.run rfl rfl rfl (E.Runs.fieldAddr rfl rfl hu45 rfl (by assumption) rfl) ?_
  refine E.GL.run rfl rfl rfl (E.Runs.load rfl rfl hu3 (by first | assumption | exact E.blkc (by assumption) rfl | exact pw_cell_below L (by assumption))) ?_
  refine E.GL.run rfl rfl rfl (E.Runs.fieldAddr rfl rfl hu45 rfl (by assumption) rfl) ?_
  refine E.GL.run rfl rfl rfl (E.Runs.load rfl rfl hu3 (by first | assumption | exact E.blkc (by assumption) rfl | exact pw_cell_below L (by assumption))) ?_
  refine E.GL.run rfl rfl rfl (E.Runs.fieldAddr rfl rfl hu45 rfl (by assumption) rfl) ?_
  refine E.GL.run rfl rfl rfl (E.Runs.load rfl rfl hu3 (by first | assumption | exact E.blkc (by assumption) rfl | exact pw_cell_below L (by assumption))) ?_
  refine E.GL.run rfl rfl rfl (E.Runs.fieldAddr rfl rfl hu45 rfl (by assumption) rfl) ?_
  refine E.GL.run rfl rfl rfl (E.Runs.load rfl rfl hu3 (by first | assumption | exact E.blkc (by assumption) rfl | exact pw_cell_below L (by assumption))) ?_
  refine E.GL.run rfl rfl rfl (E.Runs.move rfl rfl) ?_
  refine E.GL.st rfl rfl rfl (E.ST.call rfl ent78 (E.evc rfl (E.evc rfl (E.evc rfl (E.evc rfl (E.evc rfl (E.evc rfl (E.evc rfl (E.evc rfl (E.evc rfl E.evn))))))))) ((shows_r V m x p A c _ ok (hV.below L) hx (Kd.C_below hp L) hpl x.f2.toNat (nD x) x.f4.toNat (nH x) 0 V.rs.length x.f2 x.f3 x.f4 x.f5 0 ((V.rs.length : Int) - 1) (by omega) (by omega) (by omega) (by omega) (by omega) (by omega) (by omega) (by omega) (by omega)).mono ?_))
  rintro e w30 ⟨rfl, l30⟩
  refine ⟨_, rfl, ?_⟩
  replace b3 := blk_below b3 l30
  replace b5 := blk_below b5 l30
  replace L := below_step L l30
  rw [c3_all]
  refine E.GL.run rfl rfl rfl (E.Runs.assign rfl rfl) ?_
  refine E.GL.done ?_
  refine E.QG.code ?_
  refine E.CG.seq ?_
  refine E.CG.seq ?_
  refine E.CG.list ?_
  refine E.GL.run rfl rfl rfl (E.Runs.fieldAddr rfl rfl hu45 rfl (by assumption) rfl) ?_
  refine E.GL.run rfl rfl rfl (E.Runs.load rfl rfl hu3 (by first | assumption | exact E.blkc (by assumption) rfl | exact pw_cell_below L (by assumption))) ?_
  refine E.GL.done ?_
  refine E.QG.code ?_
  refine E.CG.block ?_
  refine E.CG.seq ?_
  refine E.CG.list ?_
  refine E.GL.cmp rfl rfl rfl (fun _ h => (E.Runs.eql rfl rfl rfl h)) (fun h34 => ?_) (fun h34 => ?_)
  · refine E.GL.run rfl rfl rfl (E.Runs.assign rfl rfl) ?_
    refine E.GL.done ?_
    refine E.QG.code ?_
    refine E.CG.cond_t rfl ?_
    refine E.CG.seq ?_
    refine E.CG.list ?_
    refine E.GL.run rfl rfl rfl (E.Runs.move rfl rfl) ?_
    refine E.GL.run rfl rfl rfl (E.Runs.fieldAddr rfl rfl hu45 rfl (by assumption) rfl) ?_
    refine E.GL.run rfl rfl rfl (E.Runs.load rfl rfl hu3 (by first | assumption | exact E.blkc (by assumption) rfl | exact pw_cell_below L (by assumption))) ?_
    refine E.GL.cmp rfl rfl rfl (fun _ h => (E.Runs.geq rfl rfl rfl h)) (fun h38 => ?_) (fun h38 => ?_)
    · refine E.GL.run rfl rfl rfl (E.Runs.assign rfl rfl) ?_
      refine E.GL.done ?_
      refine E.QG.code ?_
      refine E.CG.ret ?_
      refine E.QG.block_ret ?_
      refine E.QG.pass_ret ?_
      exact E.QG.result rfl rfl ⟨by rw [hb.mpr ((keep1 h34).mpr (by omega))], L⟩
    · refine E.GL.run rfl rfl rfl (E.Runs.assign rfl rfl) ?_
      refine E.GL.done ?_
      refine E.QG.code ?_
      refine E.CG.ret ?_
      refine E.QG.block_ret ?_
      refine E.QG.pass_ret ?_
      exact E.QG.result rfl rfl ⟨by rw [bool_no hb (fun hk_ => by have := (keep1 h34).mp hk_; omega)], L⟩
  · refine E.GL.run rfl rfl rfl (E.Runs.assign rfl rfl) ?_
    refine E.GL.done ?_
    refine E.QG.code ?_
    refine E.CG.cond_f rfl ?_
    refine E.CG.seq ?_
    refine E.CG.list ?_
    refine E.GL.cmp rfl rfl rfl (fun _ h => (E.Runs.eql rfl rfl rfl h)) (fun h40 => ?_) (fun h40 => ?_)
    · refine E.GL.run rfl rfl rfl (E.Runs.assign rfl rfl) ?_
      refine E.GL.done ?_
      refine E.QG.code ?_
      refine E.CG.cond_t rfl ?_
      refine E.CG.seq ?_
      refine E.CG.list ?_
      refine E.GL.run rfl rfl rfl (E.Runs.move rfl rfl) ?_
      refine E.GL.run rfl rfl rfl (E.Runs.fieldAddr rfl rfl hu45 rfl (by assumption) rfl) ?_
      refine E.GL.run rfl rfl rfl (E.Runs.load rfl rfl hu3 (by first | assumption | exact E.blkc (by assumption) rfl | exact pw_cell_below L (by assumption))) ?_
      refine E.GL.cmp rfl rfl rfl (fun _ h => (E.Runs.leq rfl rfl rfl h)) (fun h44 => ?_) (fun h44 => ?_)
      · refine E.GL.run rfl rfl rfl (E.Runs.assign rfl rfl) ?_
        refine E.GL.done ?_
        refine E.QG.code ?_
        refine E.CG.ret ?_
        refine E.QG.block_ret ?_
        refine E.QG.pass_ret ?_
        exact E.QG.result rfl rfl ⟨by rw [hb.mpr ((keep2 h40).mpr (by omega))], L⟩
      · refine E.GL.run rfl rfl rfl (E.Runs.assign rfl rfl) ?_
        refine E.GL.done ?_
        refine E.QG.code ?_
        refine E.CG.ret ?_
        refine E.QG.block_ret ?_
        refine E.QG.pass_ret ?_
        exact E.QG.result rfl rfl ⟨by rw [bool_no hb (fun hk_ => by have := (keep2 h40).mp hk_; omega)], L⟩
    · refine E.GL.run rfl rfl rfl (E.Runs.assign rfl rfl) ?_
      refine E.GL.done ?_
      refine E.QG.code ?_
      refine E.CG.cond_f rfl ?_
      refine E.CG.skip ?_
      refine E.QG.block_normal ?_
      refine E.QG.code ?_
      refine E.CG.seq ?_
      refine E.CG.seq ?_
      refine E.CG.list ?_
      refine E.GL.run rfl rfl rfl (E.Runs.fieldAddr rfl rfl hu45 rfl (by assumption) rfl) ?_
      refine E.GL.run rfl rfl rfl (E.Runs.load rfl rfl hu3 (by first | assumption | exact E.blkc (by assumption) rfl | exact pw_cell_below L (by assumption))) ?_
      refine E.GL.run rfl rfl rfl (E.Runs.assign rfl rfl) ?_
      refine E.GL.done ?_
      refine E.QG.code ?_
      refine E.CG.block ?_
      have s9_b3 := b3
      have s9_b5 := b5
      have s9_L := L
      refine E.CG.loop (fun (n : Nat) => [(1, .slice A p.length c), (3, .pointer (some ⟨g3, 0, none⟩)), (5, .pointer (some ⟨g5, 0, none⟩)), (7, .int .i64 ((V.rs.length : Int) - 1)), (9, .int .i64 (((x.f2.toNat + n) : Nat) : Int))]) (fun n w' => n ≤ nD x ∧ (x.f0 = 3 → ∀ i, i < n → Cln V x p (x.f2.toNat + i)) ∧ (x.f0 = 4 → ∀ i, i < n → ∀ k, k < nH x → sh V x p (x.f2.toNat + i) (x.f4.toNat + k) ≤ 1) ∧ (x.f0 = 5 → ∀ i, i < n → ∀ k, k < nH x → 1 ≤ sh V x p (x.f2.toNat + i) (x.f4.toNat + k)) ∧ w'.heap[g3]? = some (.cells #[.int .i64 V.d, .slice m.A V.rs.length m.a, .int .i64 V.h, .slice m.B V.fs.length m.b, .slice m.C V.ds.length m.c] 26 (0, 0)) ∧ w'.heap[g5]? = some (.cells #[.int .i64 x.f0, .int .i64 x.f1, .int .i64 x.f2, .int .i64 x.f3, .int .i64 x.f4, .int .i64 x.f5, .int .i64 x.f6, .int .i64 x.f7] 45 (0, 0)) ∧ Below w.heap.size w w') (fun n => nD x - n) 0 (E.subc rfl (E.subc rfl (E.subc rfl (E.subc rfl (E.subc (congrArg (fun t => some (Value.int .i64 t)) (show (x.f2 : Int) = ((x.f2.toNat + 0 : Nat) : Int) by omega)) E.subn))))) ⟨Nat.zero_le _, fun _ i hi => by omega, fun _ i hi => by omega, fun _ i hi => by omega, b3, b5, L⟩ ?_
      rintro n w9 ⟨hn, q3, q4, q5, b3, b5, L⟩
      refine E.CG.seq ?_
      refine E.CG.seq ?_
      refine E.CG.list ?_
      refine E.GL.run rfl rfl rfl (E.Runs.move rfl rfl) ?_
      refine E.GL.run rfl rfl rfl (E.Runs.fieldAddr rfl rfl hu45 rfl (by assumption) rfl) ?_
      refine E.GL.run rfl rfl rfl (E.Runs.load rfl rfl hu3 (by first | assumption | exact E.blkc (by assumption) rfl | exact pw_cell_below L (by assumption))) ?_
      refine E.GL.cmp rfl rfl rfl (fun _ h => (E.Runs.leq rfl rfl rfl h)) (fun h50 => ?_) (fun h50 => ?_)
      · refine E.GL.done ?_
        refine E.QG.code ?_
        refine E.CG.cond_t rfl ?_
        refine E.CG.skip ?_
        refine E.QG.code ?_
        refine E.CG.seq ?_
        refine E.CG.block ?_
        refine E.CG.seq ?_
        refine E.CG.list ?_
        refine E.GL.run rfl rfl rfl (E.Runs.assign rfl rfl) ?_
        refine E.GL.done ?_
        refine E.QG.code ?_
        refine E.CG.seq ?_
        refine E.CG.seq ?_
        refine E.CG.list ?_
        refine E.GL.run rfl rfl rfl (E.Runs.assign rfl rfl) ?_
        refine E.GL.done ?_
        refine E.QG.code ?_
        refine E.CG.block ?_
        have s13_b3 := b3
        have s13_b5 := b5
        have s13_L := L
        refine E.CG.loop2 (fun (s : Nat) (u : Bool) => [(1, .slice A p.length c), (3, .pointer (some ⟨g3, 0, none⟩)), (5, .pointer (some ⟨g5, 0, none⟩)), (7, .int .i64 ((V.rs.length : Int) - 1)), (9, .int .i64 (((x.f2.toNat + n) : Nat) : Int)), (10, .bool u), (11, .int .i64 ((s : Nat) : Int))]) (fun s u w' => s ≤ V.rs.length ∧ (u = true ↔ exR V x p (x.f2.toNat + n) s) ∧ w'.heap[g3]? = some (.cells #[.int .i64 V.d, .slice m.A V.rs.length m.a, .int .i64 V.h, .slice m.B V.fs.length m.b, .slice m.C V.ds.length m.c] 26 (0, 0)) ∧ w'.heap[g5]? = some (.cells #[.int .i64 x.f0, .int .i64 x.f1, .int .i64 x.f2, .int .i64 x.f3, .int .i64 x.f4, .int .i64 x.f5, .int .i64 x.f6, .int .i64 x.f7] 45 (0, 0)) ∧ Below w.heap.size w w') (fun s u => V.rs.length - s) 0 false (E.subc rfl (E.subc rfl (E.subc rfl (E.subc rfl (E.subc rfl (E.subc rfl (E.subc rfl E.subn))))))) ⟨Nat.zero_le _, iff_of_false Bool.false_ne_true exR_none, b3, b5, L⟩ ?_
        rintro s u w13 ⟨hs, hu, b3, b5, L⟩
        refine E.CG.seq ?_
        refine E.CG.seq ?_
        refine E.CG.list ?_
        rcases u with _ | _
        · refine E.GL.run rfl rfl rfl (E.Runs.move rfl rfl) ?_
          refine E.GL.run rfl rfl rfl (E.Runs.move rfl rfl) ?_
          refine E.GL.cmp rfl rfl rfl (fun _ h => (E.Runs.leq rfl rfl rfl h)) (fun h55 => ?_) (fun h55 => ?_)
          · refine E.GL.done ?_
            refine E.QG.code ?_
            refine E.CG.cond_t rfl ?_
            refine E.CG.skip ?_
            refine E.QG.code ?_
            refine E.CG.seq ?_
            refine E.CG.block ?_
            refine E.CG.heldH (none) (by kernel_rfl) fun v15 lD hh => ?_
            replace b3 := blk_below b3 lD
            replace b5 := blk_below b5 lD
            replace L := below_step L lD
            clear lD
            have s_b3 := b3
            have s_b5 := b5
            have s_L := L
            refine E.GH.take (i := 0) rfl (by kernel_rfl) (by kernel_rfl) (by kernel_rfl) (by intro c a d v w h; first | (cases d <;> exact h) | exact nomatch (show _ ∧ _ from h).1) rfl rfl rfl (fun w' hS => (E.Runs.move rfl rfl)) ?_
            refine E.GH.take (i := 1) rfl (by kernel_rfl) (by kernel_rfl) (by kernel_rfl) (by intro c a d v w h; first | (cases d <;> exact h) | exact nomatch (show _ ∧ _ from h).1) rfl rfl rfl (fun w' hS => (E.Runs.move rfl rfl)) ?_
            refine E.GH.take (i := 2) rfl (by kernel_rfl) (by kernel_rfl) (by kernel_rfl) (by intro c a d v w h; first | (cases d <;> exact h) | exact nomatch (show _ ∧ _ from h).1) rfl rfl rfl (fun w' hS => (E.Runs.loads (cs := [.int .i64 V.d, .slice m.A V.rs.length m.a, .int .i64 V.h, .slice m.B V.fs.length m.b, .slice m.C V.ds.length m.c]) rfl rfl hu26 rfl info26s (blk_cells (blk_grown s_b3 hS E.nen)))) ?_
            refine E.GH.take (i := 3) rfl (by kernel_rfl) (by kernel_rfl) (by kernel_rfl) (by intro c a d v w h; first | (cases d <;> exact h) | exact nomatch (show _ ∧ _ from h).1) rfl rfl rfl (fun w' hS => (E.Runs.move rfl rfl)) ?_
            refine E.GH.take (i := 4) rfl (by kernel_rfl) (by kernel_rfl) (by kernel_rfl) (by intro c a d v w h; first | (cases d <;> exact h) | exact nomatch (show _ ∧ _ from h).1) rfl rfl rfl (fun w' hS => (E.Runs.loads (cs := [.int .i64 x.f0, .int .i64 x.f1, .int .i64 x.f2, .int .i64 x.f3, .int .i64 x.f4, .int .i64 x.f5, .int .i64 x.f6, .int .i64 x.f7]) rfl rfl hu45 rfl info45s (blk_cells (blk_grown s_b5 hS E.nen)))) ?_
            refine E.GH.take (i := 5) rfl (by kernel_rfl) (by kernel_rfl) (by kernel_rfl) (by intro c a d v w h; first | (cases d <;> exact h) | exact nomatch (show _ ∧ _ from h).1) rfl rfl rfl (fun w' hS => (E.Runs.move rfl rfl)) ?_
            refine E.GH.take (i := 6) rfl (by kernel_rfl) (by kernel_rfl) (by kernel_rfl) (by intro c a d v w h; first | (cases d <;> exact h) | exact nomatch (show _ ∧ _ from h).1) rfl rfl rfl (fun w' hS => (E.Runs.move rfl rfl)) ?_
            refine E.GH.take (i := 7) rfl (by kernel_rfl) (by kernel_rfl) (by kernel_rfl) (by intro c a d v w h; first | (cases d <;> exact h) | exact nomatch (show _ ∧ _ from h).1) rfl rfl rfl (fun w' hS => (E.Runs.fieldAddr rfl rfl hu45 rfl (by assumption) rfl)) ?_
            refine E.GH.take (i := 8) rfl (by kernel_rfl) (by kernel_rfl) (by kernel_rfl) (by intro c a d v w h; first | (cases d <;> exact h) | exact nomatch (show _ ∧ _ from h).1) rfl rfl rfl (fun w' hS => (E.Runs.load rfl rfl hu3 (by first | exact E.keeps hS (E.blkc (by assumption) rfl) (by first | exact E.nen | exact E.nes (by assumption) | exact E.nes (Ne.symm (by assumption))) | exact pw_cell_below (below_step s_L (E.belowG hS)) (by assumption)))) ?_
            refine E.GH.take (i := 9) rfl (by kernel_rfl) (by kernel_rfl) (by kernel_rfl) (by intro c a d v w h; first | (cases d <;> exact h) | exact nomatch (show _ ∧ _ from h).1) rfl rfl rfl (fun w' hS => (E.Runs.fieldAddr rfl rfl hu45 rfl (by assumption) rfl)) ?_
            refine E.GH.take (i := 10) rfl (by kernel_rfl) (by kernel_rfl) (by kernel_rfl) (by intro c a d v w h; first | (cases d <;> exact h) | exact nomatch (show _ ∧ _ from h).1) rfl rfl rfl (fun w' hS => (E.Runs.load rfl rfl hu3 (by first | exact E.keeps hS (E.blkc (by assumption) rfl) (by first | exact E.nen | exact E.nes (by assumption) | exact E.nes (Ne.symm (by assumption))) | exact pw_cell_below (below_step s_L (E.belowG hS)) (by assumption)))) ?_
            refine E.GH.take (i := 11) rfl (by kernel_rfl) (by kernel_rfl) (by kernel_rfl) (by intro c a d v w h; first | (cases d <;> exact h) | exact nomatch (show _ ∧ _ from h).1) rfl rfl rfl (fun w' hS => (E.Runs.move rfl rfl)) ?_
            refine E.GH.take (i := 12) rfl (by kernel_rfl) (by kernel_rfl) (by kernel_rfl) (by intro c a d v w h; first | (cases d <;> exact h) | exact nomatch (show _ ∧ _ from h).1) rfl rfl rfl (fun w' hS => (E.Runs.move rfl rfl)) ?_
            refine E.GH.take (i := 14) rfl (by kernel_rfl) (by kernel_rfl) (by kernel_rfl) (by intro c a d v w h; first | (cases d <;> exact h) | exact nomatch (show _ ∧ _ from h).1) rfl rfl rfl (fun w' hS => (E.Runs.fieldAddr rfl rfl hu45 rfl (by assumption) rfl)) ?_
            refine E.GH.take (i := 15) rfl (by kernel_rfl) (by kernel_rfl) (by kernel_rfl) (by intro c a d v w h; first | (cases d <;> exact h) | exact nomatch (show _ ∧ _ from h).1) rfl rfl rfl (fun w' hS => (E.Runs.load rfl rfl hu3 (by first | exact E.keeps hS (E.blkc (by assumption) rfl) (by first | exact E.nen | exact E.nes (by assumption) | exact E.nes (Ne.symm (by assumption))) | exact pw_cell_below (below_step s_L (E.belowG hS)) (by assumption)))) ?_
            refine E.GH.take (i := 16) rfl (by kernel_rfl) (by kernel_rfl) (by kernel_rfl) (by intro c a d v w h; first | (cases d <;> exact h) | exact nomatch (show _ ∧ _ from h).1) rfl rfl rfl (fun w' hS => (E.Runs.fieldAddr rfl rfl hu45 rfl (by assumption) rfl)) ?_
            refine E.GH.take (i := 17) rfl (by kernel_rfl) (by kernel_rfl) (by kernel_rfl) (by intro c a d v w h; first | (cases d <;> exact h) | exact nomatch (show _ ∧ _ from h).1) rfl rfl rfl (fun w' hS => (E.Runs.load rfl rfl hu3 (by first | exact E.keeps hS (E.blkc (by assumption) rfl) (by first | exact E.nen | exact E.nes (by assumption) | exact E.nes (Ne.symm (by assumption))) | exact pw_cell_below (below_step s_L (E.belowG hS)) (by assumption)))) ?_
            refine E.GH.take (i := 18) rfl (by kernel_rfl) (by kernel_rfl) (by kernel_rfl) (by intro c a d v w h; first | (cases d <;> exact h) | exact nomatch (show _ ∧ _ from h).1) rfl rfl rfl (fun w' hS => (E.Runs.sub rfl rfl rfl (IntWalk.i64_in _ (by omega)))) ?_
            refine E.GH.take (i := 19) rfl (by kernel_rfl) (by kernel_rfl) (by kernel_rfl) (by intro c a d v w h; first | (cases d <;> exact h) | exact nomatch (show _ ∧ _ from h).1) rfl rfl rfl (fun w' hS => (E.Runs.add rfl rfl rfl (IntWalk.i64_in _ (by omega)))) ?_
            refine E.GH.one (i := 13) (by kernel_rfl) rfl ?_
            refine E.GO.st rfl rfl rfl (E.ST.call rfl ent78 (E.evc rfl (E.evc rfl (E.evc rfl (E.evc rfl (E.evc rfl (E.evc rfl (E.evc rfl (E.evc rfl (E.evc rfl E.evn))))))))) ((shows_r V m x p A c _ ok (hV.below L) hx (Kd.C_below hp L) hpl (x.f2.toNat + n) 1 x.f4.toNat (nH x) s 1 (((x.f2.toNat + n) : Nat) : Int) (((x.f2.toNat + n) : Nat) : Int) x.f4 x.f5 ((s : Nat) : Int) ((s : Nat) : Int) (by omega) (by omega) (by omega) (by omega) (by omega) (by omega) (by omega) (by omega) (by omega)).mono ?_))
            rintro e w71 ⟨rfl, l71⟩
            refine ⟨_, rfl, hh.trans (E.gbB l71), ?_⟩
            replace hh := hh.trans (E.gbB l71)
            replace b3 := blk_below b3 l71
            replace b5 := blk_below b5 l71
            replace L := below_step L l71
            have hcl := c3_clean V x p (x.f2.toNat + n) s
            refine E.GH.cmp (i := 20) rfl (by kernel_rfl) (by kernel_rfl) (by kernel_rfl) (by intro c a d v w h; first | (cases d <;> exact h) | exact nomatch (show _ ∧ _ from h).1) rfl rfl rfl (fun _ h w' hS => (E.Runs.eql rfl rfl rfl h)) (fun h78 => ?_) (fun h78 => ?_)
            · refine E.GH.take (i := 21) rfl (by kernel_rfl) (by kernel_rfl) (by kernel_rfl) (by intro c a d v w h; first | (cases d <;> exact h) | exact nomatch (show _ ∧ _ from h).1) rfl rfl rfl (fun w' hS => (E.Runs.pick_f rfl rfl rfl)) ?_
              refine E.GH.take (i := 22) rfl (by kernel_rfl) (by kernel_rfl) (by kernel_rfl) (by intro c a d v w h; first | (cases d <;> exact h) | exact nomatch (show _ ∧ _ from h).1) rfl rfl rfl (fun w' hS => (E.Runs.assign rfl rfl)) ?_
              refine E.GH.done (by kernel_rfl) ?_
              refine E.QG.block_normal ?_
              refine E.QG.code ?_
              refine E.CG.list ?_
              refine E.GL.run rfl rfl rfl (E.Runs.move rfl rfl) ?_
              refine E.GL.run rfl rfl rfl (E.Runs.add rfl rfl rfl (IntWalk.i64_in _ (by omega))) ?_
              refine E.GL.run rfl rfl rfl (E.Runs.assign rfl rfl) ?_
              refine E.GL.done ?_
              exact E.QG.round2 (d := false) (s + 1) true (E.subc rfl (E.subc rfl (E.subc rfl (E.subc rfl (E.subc rfl (E.subc rfl (E.subc rfl E.subn))))))) (by first | exact ⟨by omega, iff_of_true rfl (exR_more.mpr (.inl (hu.mp rfl))), b3, b5, L⟩ | exact ⟨by omega, iff_of_true rfl (exR_more.mpr (.inr (hcl.mp (by omega)))), b3, b5, L⟩ | exact ⟨by omega, iff_of_false Bool.false_ne_true (fun h => (exR_more.mp h).elim (fun h => Bool.false_ne_true (hu.mpr h)) (fun h => by have := hcl.mpr h; omega)), b3, b5, L⟩ | fail) (by omega)
            · refine E.GH.take (i := 21) rfl (by kernel_rfl) (by kernel_rfl) (by kernel_rfl) (by intro c a d v w h; first | (cases d <;> exact h) | exact nomatch (show _ ∧ _ from h).1) rfl rfl rfl (fun w' hS => (E.Runs.pick_f rfl rfl rfl)) ?_
              refine E.GH.take (i := 22) rfl (by kernel_rfl) (by kernel_rfl) (by kernel_rfl) (by intro c a d v w h; first | (cases d <;> exact h) | exact nomatch (show _ ∧ _ from h).1) rfl rfl rfl (fun w' hS => (E.Runs.assign rfl rfl)) ?_
              refine E.GH.done (by kernel_rfl) ?_
              refine E.QG.block_normal ?_
              refine E.QG.code ?_
              refine E.CG.list ?_
              refine E.GL.run rfl rfl rfl (E.Runs.move rfl rfl) ?_
              refine E.GL.run rfl rfl rfl (E.Runs.add rfl rfl rfl (IntWalk.i64_in _ (by omega))) ?_
              refine E.GL.run rfl rfl rfl (E.Runs.assign rfl rfl) ?_
              refine E.GL.done ?_
              exact E.QG.round2 (d := false) (s + 1) false (E.subc rfl (E.subc rfl (E.subc rfl (E.subc rfl (E.subc rfl (E.subc rfl (E.subc rfl E.subn))))))) (by first | exact ⟨by omega, iff_of_true rfl (exR_more.mpr (.inl (hu.mp rfl))), b3, b5, L⟩ | exact ⟨by omega, iff_of_true rfl (exR_more.mpr (.inr (hcl.mp (by omega)))), b3, b5, L⟩ | exact ⟨by omega, iff_of_false Bool.false_ne_true (fun h => (exR_more.mp h).elim (fun h => Bool.false_ne_true (hu.mpr h)) (fun h => by have := hcl.mpr h; omega)), b3, b5, L⟩ | fail) (by omega)
          · obtain rfl : s = V.rs.length := by omega
            refine E.GL.done ?_
            refine E.QG.code ?_
            refine E.CG.cond_f rfl ?_
            refine E.CG.exit ?_
            refine E.QG.pass_exit ?_
            refine E.QG.pass_exit ?_
            refine E.QG.block_here ?_
            refine E.QG.code ?_
            refine E.CG.seq ?_
            refine E.CG.seq ?_
            refine E.CG.list ?_
            refine E.GL.run rfl rfl rfl (E.Runs.fieldAddr rfl rfl hu45 rfl (by assumption) rfl) ?_
            refine E.GL.run rfl rfl rfl (E.Runs.load rfl rfl hu3 (by first | assumption | exact E.blkc (by assumption) rfl | exact pw_cell_below L (by assumption))) ?_
            refine E.GL.cmp rfl rfl rfl (fun _ h => (E.Runs.eql rfl rfl rfl h)) (fun h82 => ?_) (fun h82 => ?_)
            · have hk3 : x.f0 = 3 := h82
              refine E.GL.run rfl rfl rfl (E.Runs.move rfl rfl) ?_
              refine E.GL.run rfl rfl rfl (E.Runs.move rfl rfl) ?_
              refine E.GL.run rfl rfl rfl (E.Runs.not rfl rfl) ?_
              refine E.GL.run rfl rfl rfl (E.Runs.pick_t rfl rfl rfl) ?_
              refine E.GL.done ?_
              refine E.QG.code ?_
              refine E.CG.cond_t rfl ?_
              refine E.CG.seq ?_
              refine E.CG.list ?_
              refine E.GL.run rfl rfl rfl (E.Runs.assign rfl rfl) ?_
              refine E.GL.done ?_
              refine E.QG.code ?_
              refine E.CG.ret ?_
              refine E.QG.pass_ret ?_
              refine E.QG.block_ret ?_
              refine E.QG.pass_ret ?_
              refine E.QG.pass_ret ?_
              refine E.QG.block_ret ?_
              refine E.QG.pass_ret ?_
              exact E.QG.result rfl rfl ⟨by rw [bool_no hb (fun hk_ => Bool.false_ne_true (hu.mpr (cln_iff.mp ((keep3 h82).mp hk_ n (by omega)))))], L⟩
            · refine E.GL.run rfl rfl rfl (E.Runs.move rfl rfl) ?_
              refine E.GL.skip rfl rfl rfl ?_
              refine E.GL.skip rfl rfl rfl ?_
              refine E.GL.run rfl rfl rfl (E.Runs.pick_f rfl rfl rfl) ?_
              refine E.GL.done ?_
              refine E.QG.code ?_
              refine E.CG.cond_f rfl ?_
              refine E.CG.skip ?_
              refine E.QG.code ?_
              refine E.CG.seq ?_
              refine E.CG.list ?_
              refine E.GL.run rfl rfl rfl (E.Runs.fieldAddr rfl rfl hu45 rfl (by assumption) rfl) ?_
              refine E.GL.run rfl rfl rfl (E.Runs.load rfl rfl hu3 (by first | assumption | exact E.blkc (by assumption) rfl | exact pw_cell_below L (by assumption))) ?_
              refine E.GL.run rfl rfl rfl (E.Runs.assign rfl rfl) ?_
              refine E.GL.done ?_
              refine E.QG.code ?_
              refine E.CG.block ?_
              have s19_b3 := b3
              have s19_b5 := b5
              have s19_L := L
              refine E.CG.loop (fun (k : Nat) => [(1, .slice A p.length c), (3, .pointer (some ⟨g3, 0, none⟩)), (5, .pointer (some ⟨g5, 0, none⟩)), (7, .int .i64 ((V.rs.length : Int) - 1)), (9, .int .i64 (((x.f2.toNat + n) : Nat) : Int)), (12, .int .i64 (((x.f4.toNat + k) : Nat) : Int))]) (fun k w' => k ≤ nH x ∧ (x.f0 = 4 → ∀ q, q < k → sh V x p (x.f2.toNat + n) (x.f4.toNat + q) ≤ 1) ∧ (x.f0 = 5 → ∀ q, q < k → 1 ≤ sh V x p (x.f2.toNat + n) (x.f4.toNat + q)) ∧ w'.heap[g3]? = some (.cells #[.int .i64 V.d, .slice m.A V.rs.length m.a, .int .i64 V.h, .slice m.B V.fs.length m.b, .slice m.C V.ds.length m.c] 26 (0, 0)) ∧ w'.heap[g5]? = some (.cells #[.int .i64 x.f0, .int .i64 x.f1, .int .i64 x.f2, .int .i64 x.f3, .int .i64 x.f4, .int .i64 x.f5, .int .i64 x.f6, .int .i64 x.f7] 45 (0, 0)) ∧ Below w.heap.size w w') (fun k => nH x - k) 0 (E.subc rfl (E.subc rfl (E.subc rfl (E.subc rfl (E.subc rfl (E.subc (congrArg (fun t => some (Value.int .i64 t)) (show (x.f4 : Int) = ((x.f4.toNat + 0 : Nat) : Int) by omega)) E.subn)))))) ⟨Nat.zero_le _, fun _ q hq => by omega, fun _ q hq => by omega, b3, b5, L⟩ ?_
              rintro k w19 ⟨hk, k4, k5, b3, b5, L⟩
              refine E.CG.seq ?_
              refine E.CG.seq ?_
              refine E.CG.list ?_
              refine E.GL.run rfl rfl rfl (E.Runs.move rfl rfl) ?_
              refine E.GL.run rfl rfl rfl (E.Runs.fieldAddr rfl rfl hu45 rfl (by assumption) rfl) ?_
              refine E.GL.run rfl rfl rfl (E.Runs.load rfl rfl hu3 (by first | assumption | exact E.blkc (by assumption) rfl | exact pw_cell_below L (by assumption))) ?_
              refine E.GL.cmp rfl rfl rfl (fun _ h => (E.Runs.leq rfl rfl rfl h)) (fun h92 => ?_) (fun h92 => ?_)
              · have hshl := shN_le V x p (x.f2.toNat + n) (x.f4.toNat + k) V.rs.length
                have hshe : sh V x p (x.f2.toNat + n) (x.f4.toNat + k) = shN V x p (x.f2.toNat + n) (x.f4.toNat + k) V.rs.length := rfl
                refine E.GL.done ?_
                refine E.QG.code ?_
                refine E.CG.cond_t rfl ?_
                refine E.CG.skip ?_
                refine E.QG.code ?_
                refine E.CG.seq ?_
                refine E.CG.block ?_
                refine E.CG.seq ?_
                refine E.CG.list ?_
                refine E.GL.run rfl rfl rfl (E.Runs.loads (cs := [.int .i64 V.d, .slice m.A V.rs.length m.a, .int .i64 V.h, .slice m.B V.fs.length m.b, .slice m.C V.ds.length m.c]) rfl rfl hu26 rfl info26s (blk_cells b3)) ?_
                refine E.GL.run rfl rfl rfl (E.Runs.move rfl rfl) ?_
                refine E.GL.run rfl rfl rfl (E.Runs.loads (cs := [.int .i64 x.f0, .int .i64 x.f1, .int .i64 x.f2, .int .i64 x.f3, .int .i64 x.f4, .int .i64 x.f5, .int .i64 x.f6, .int .i64 x.f7]) rfl rfl hu45 rfl info45s (blk_cells b5)) ?_
                refine E.GL.run rfl rfl rfl (E.Runs.move rfl rfl) ?_
                refine E.GL.run rfl rfl rfl (E.Runs.move rfl rfl) ?_
                refine E.GL.run rfl rfl rfl (E.Runs.move rfl rfl) ?_
                refine E.GL.run rfl rfl rfl (E.Runs.move rfl rfl) ?_
                refine E.GL.run rfl rfl rfl (E.Runs.move rfl rfl) ?_
                refine E.GL.st rfl rfl rfl (E.ST.call rfl ent78 (E.evc rfl (E.evc rfl (E.evc rfl (E.evc rfl (E.evc rfl (E.evc rfl (E.evc rfl (E.evc rfl (E.evc rfl E.evn))))))))) ((shows_r V m x p A c _ ok (hV.below L) hx (Kd.C_below hp L) hpl (x.f2.toNat + n) 1 (x.f4.toNat + k) 1 0 V.rs.length (((x.f2.toNat + n) : Nat) : Int) (((x.f2.toNat + n) : Nat) : Int) (((x.f4.toNat + k) : Nat) : Int) (((x.f4.toNat + k) : Nat) : Int) 0 ((V.rs.length : Int) - 1) (by omega) (by omega) (by omega) (by omega) (by omega) (by omega) (by omega) (by omega) (by omega)).mono ?_))
                rintro e w103 ⟨rfl, l103⟩
                refine ⟨_, rfl, ?_⟩
                replace b3 := blk_below b3 l103
                replace b5 := blk_below b5 l103
                replace L := below_step L l103
                rw [c3_hour]
                refine E.GL.run rfl rfl rfl (E.Runs.assign rfl rfl) ?_
                refine E.GL.done ?_
                refine E.QG.code ?_
                refine E.CG.seq ?_
                refine E.CG.list ?_
                refine E.GL.run rfl rfl rfl (E.Runs.fieldAddr rfl rfl hu45 rfl (by assumption) rfl) ?_
                refine E.GL.run rfl rfl rfl (E.Runs.load rfl rfl hu3 (by first | assumption | exact E.blkc (by assumption) rfl | exact pw_cell_below L (by assumption))) ?_
                refine E.GL.cmp rfl rfl rfl (fun _ h => (E.Runs.eql rfl rfl rfl h)) (fun h106 => ?_) (fun h106 => ?_)
                · refine E.GL.run rfl rfl rfl (E.Runs.move rfl rfl) ?_
                  refine E.GL.run rfl rfl rfl (E.Runs.move rfl rfl) ?_
                  refine E.GL.cmp rfl rfl rfl (fun _ h => (E.Runs.gtr rfl rfl rfl h)) (fun h109 => ?_) (fun h109 => ?_)
                  · refine E.GL.run rfl rfl rfl (E.Runs.pick_t rfl rfl rfl) ?_
                    refine E.GL.run rfl rfl rfl (E.Runs.move rfl rfl) ?_
                    refine E.GL.skip rfl rfl rfl ?_
                    refine E.GL.skip rfl rfl rfl ?_
                    refine E.GL.skip rfl rfl rfl ?_
                    refine E.GL.skip rfl rfl rfl ?_
                    refine E.GL.skip rfl rfl rfl ?_
                    refine E.GL.skip rfl rfl rfl ?_
                    refine E.GL.skip rfl rfl rfl ?_
                    refine E.GL.run rfl rfl rfl (E.Runs.pick_t rfl rfl rfl) ?_
                    refine E.GL.done ?_
                    refine E.QG.code ?_
                    refine E.CG.cond_t rfl ?_
                    refine E.CG.seq ?_
                    refine E.CG.list ?_
                    refine E.GL.run rfl rfl rfl (E.Runs.assign rfl rfl) ?_
                    refine E.GL.done ?_
                    refine E.QG.code ?_
                    refine E.CG.ret ?_
                    refine E.QG.block_ret ?_
                    refine E.QG.pass_ret ?_
                    refine E.QG.pass_ret ?_
                    refine E.QG.block_ret ?_
                    refine E.QG.block_ret ?_
                    refine E.QG.pass_ret ?_
                    refine E.QG.pass_ret ?_
                    refine E.QG.block_ret ?_
                    refine E.QG.pass_ret ?_
                    exact E.QG.result rfl rfl ⟨by rw [bool_no hb (fun hk_ => by have := (keep4 h106).mp hk_ n (by omega) k (by omega); omega)], L⟩
                  · refine E.GL.run rfl rfl rfl (E.Runs.pick_t rfl rfl rfl) ?_
                    refine E.GL.run rfl rfl rfl (E.Runs.move rfl rfl) ?_
                    refine E.GL.run rfl rfl rfl (E.Runs.fieldAddr rfl rfl hu45 rfl (by assumption) rfl) ?_
                    refine E.GL.run rfl rfl rfl (E.Runs.load rfl rfl hu3 (by first | assumption | exact E.blkc (by assumption) rfl | exact pw_cell_below L (by assumption))) ?_
                    refine E.GL.run rfl rfl rfl (E.Runs.eql rfl rfl rfl (decide_eq_false (by omega))) ?_
                    refine E.GL.run rfl rfl rfl (E.Runs.move rfl rfl) ?_
                    refine E.GL.skip rfl rfl rfl ?_
                    refine E.GL.skip rfl rfl rfl ?_
                    refine E.GL.run rfl rfl rfl (E.Runs.pick_f rfl rfl rfl) ?_
                    refine E.GL.run rfl rfl rfl (E.Runs.pick_f rfl rfl rfl) ?_
                    refine E.GL.done ?_
                    refine E.QG.code ?_
                    refine E.CG.cond_f rfl ?_
                    refine E.CG.skip ?_
                    refine E.QG.block_normal ?_
                    refine E.QG.code ?_
                    refine E.CG.list ?_
                    refine E.GL.run rfl rfl rfl (E.Runs.move rfl rfl) ?_
                    refine E.GL.run rfl rfl rfl (E.Runs.add rfl rfl rfl (IntWalk.i64_in _ (by omega))) ?_
                    refine E.GL.run rfl rfl rfl (E.Runs.assign rfl rfl) ?_
                    refine E.GL.done ?_
                    exact E.QG.round (k + 1) (E.subc rfl (E.subc rfl (E.subc rfl (E.subc rfl (E.subc rfl (E.subc rfl E.subn)))))) ⟨by omega, fun e => upto (k4 e) (by omega), fun e => upto (k5 e) (by omega), b3, b5, L⟩ (by omega)
                · refine E.GL.run rfl rfl rfl (E.Runs.move rfl rfl) ?_
                  refine E.GL.skip rfl rfl rfl ?_
                  refine E.GL.skip rfl rfl rfl ?_
                  refine E.GL.run rfl rfl rfl (E.Runs.pick_f rfl rfl rfl) ?_
                  refine E.GL.run rfl rfl rfl (E.Runs.move rfl rfl) ?_
                  refine E.GL.run rfl rfl rfl (E.Runs.fieldAddr rfl rfl hu45 rfl (by assumption) rfl) ?_
                  refine E.GL.run rfl rfl rfl (E.Runs.load rfl rfl hu3 (by first | assumption | exact E.blkc (by assumption) rfl | exact pw_cell_below L (by assumption))) ?_
                  refine E.GL.cmp rfl rfl rfl (fun _ h => (E.Runs.eql rfl rfl rfl h)) (fun h114 => ?_) (fun h114 => ?_)
                  · refine E.GL.run rfl rfl rfl (E.Runs.move rfl rfl) ?_
                    refine E.GL.run rfl rfl rfl (E.Runs.move rfl rfl) ?_
                    refine E.GL.cmp rfl rfl rfl (fun _ h => (E.Runs.eql rfl rfl rfl h)) (fun h117 => ?_) (fun h117 => ?_)
                    · refine E.GL.run rfl rfl rfl (E.Runs.pick_t rfl rfl rfl) ?_
                      refine E.GL.run rfl rfl rfl (E.Runs.pick_f rfl rfl rfl) ?_
                      refine E.GL.done ?_
                      refine E.QG.code ?_
                      refine E.CG.cond_t rfl ?_
                      refine E.CG.seq ?_
                      refine E.CG.list ?_
                      refine E.GL.run rfl rfl rfl (E.Runs.assign rfl rfl) ?_
                      refine E.GL.done ?_
                      refine E.QG.code ?_
                      refine E.CG.ret ?_
                      refine E.QG.block_ret ?_
                      refine E.QG.pass_ret ?_
                      refine E.QG.pass_ret ?_
                      refine E.QG.block_ret ?_
                      refine E.QG.block_ret ?_
                      refine E.QG.pass_ret ?_
                      refine E.QG.pass_ret ?_
                      refine E.QG.block_ret ?_
                      refine E.QG.pass_ret ?_
                      exact E.QG.result rfl rfl ⟨by rw [bool_no hb (fun hk_ => by have := (keep5 h114).mp hk_ n (by omega) k (by omega); omega)], L⟩
                    · refine E.GL.run rfl rfl rfl (E.Runs.pick_t rfl rfl rfl) ?_
                      refine E.GL.run rfl rfl rfl (E.Runs.pick_f rfl rfl rfl) ?_
                      refine E.GL.done ?_
                      refine E.QG.code ?_
                      refine E.CG.cond_f rfl ?_
                      refine E.CG.skip ?_
                      refine E.QG.block_normal ?_
                      refine E.QG.code ?_
                      refine E.CG.list ?_
                      refine E.GL.run rfl rfl rfl (E.Runs.move rfl rfl) ?_
                      refine E.GL.run rfl rfl rfl (E.Runs.add rfl rfl rfl (IntWalk.i64_in _ (by omega))) ?_
                      refine E.GL.run rfl rfl rfl (E.Runs.assign rfl rfl) ?_
                      refine E.GL.done ?_
                      exact E.QG.round (k + 1) (E.subc rfl (E.subc rfl (E.subc rfl (E.subc rfl (E.subc rfl (E.subc rfl E.subn)))))) ⟨by omega, fun e => upto (k4 e) (by omega), fun e => upto (k5 e) (by omega), b3, b5, L⟩ (by omega)
                  · refine E.GL.run rfl rfl rfl (E.Runs.move rfl rfl) ?_
                    refine E.GL.skip rfl rfl rfl ?_
                    refine E.GL.skip rfl rfl rfl ?_
                    refine E.GL.run rfl rfl rfl (E.Runs.pick_f rfl rfl rfl) ?_
                    refine E.GL.run rfl rfl rfl (E.Runs.pick_f rfl rfl rfl) ?_
                    refine E.GL.done ?_
                    refine E.QG.code ?_
                    refine E.CG.cond_f rfl ?_
                    refine E.CG.skip ?_
                    refine E.QG.block_normal ?_
                    refine E.QG.code ?_
                    refine E.CG.list ?_
                    refine E.GL.run rfl rfl rfl (E.Runs.move rfl rfl) ?_
                    refine E.GL.run rfl rfl rfl (E.Runs.add rfl rfl rfl (IntWalk.i64_in _ (by omega))) ?_
                    refine E.GL.run rfl rfl rfl (E.Runs.assign rfl rfl) ?_
                    refine E.GL.done ?_
                    exact E.QG.round (k + 1) (E.subc rfl (E.subc rfl (E.subc rfl (E.subc rfl (E.subc rfl (E.subc rfl E.subn)))))) ⟨by omega, fun e => upto (k4 e) (by omega), fun e => upto (k5 e) (by omega), b3, b5, L⟩ (by omega)
              · obtain rfl : k = nH x := by omega
                refine E.GL.done ?_
                refine E.QG.code ?_
                refine E.CG.cond_f rfl ?_
                refine E.CG.exit ?_
                refine E.QG.pass_exit ?_
                refine E.QG.pass_exit ?_
                refine E.QG.block_here ?_
                refine E.QG.block_normal ?_
                refine E.QG.code ?_
                refine E.CG.list ?_
                refine E.GL.run rfl rfl rfl (E.Runs.move rfl rfl) ?_
                refine E.GL.run rfl rfl rfl (E.Runs.add rfl rfl rfl (IntWalk.i64_in _ (by omega))) ?_
                refine E.GL.run rfl rfl rfl (E.Runs.assign rfl rfl) ?_
                refine E.GL.done ?_
                exact E.QG.round (n + 1) (E.subc rfl (E.subc rfl (E.subc rfl (E.subc rfl (E.subc rfl E.subn))))) ⟨by omega, fun e => upto (q3 e) (by first | exact cln_iff.mpr (hu.mp rfl) | exact absurd e h82 | fail), fun e => upto (q4 e) (k4 e), fun e => upto (q5 e) (k5 e), b3, b5, L⟩ (by omega)
        · refine E.GL.run rfl rfl rfl (E.Runs.move rfl rfl) ?_
          refine E.GL.run rfl rfl rfl (E.Runs.move rfl rfl) ?_
          refine E.GL.cmp rfl rfl rfl (fun _ h => (E.Runs.leq rfl rfl rfl h)) (fun h55 => ?_) (fun h55 => ?_)
          · refine E.GL.done ?_
            refine E.QG.code ?_
            refine E.CG.cond_t rfl ?_
            refine E.CG.skip ?_
            refine E.QG.code ?_
            refine E.CG.seq ?_
            refine E.CG.block ?_
            refine E.CG.heldH (none) (by kernel_rfl) fun v15 lD hh => ?_
            replace b3 := blk_below b3 lD
            replace b5 := blk_below b5 lD
            replace L := below_step L lD
            clear lD
            have s_b3 := b3
            have s_b5 := b5
            have s_L := L
            refine E.GH.take (i := 0) rfl (by kernel_rfl) (by kernel_rfl) (by kernel_rfl) (by intro c a d v w h; first | (cases d <;> exact h) | exact nomatch (show _ ∧ _ from h).1) rfl rfl rfl (fun w' hS => (E.Runs.move rfl rfl)) ?_
            refine E.GH.take (i := 1) rfl (by kernel_rfl) (by kernel_rfl) (by kernel_rfl) (by intro c a d v w h; first | (cases d <;> exact h) | exact nomatch (show _ ∧ _ from h).1) rfl rfl rfl (fun w' hS => (E.Runs.move rfl rfl)) ?_
            refine E.GH.pass (i := 2) rfl (by kernel_rfl) (by kernel_rfl) (by kernel_rfl) (by intro c a d v w h; first | (cases d <;> exact h) | exact nomatch (show _ ∧ _ from h).1) rfl rfl rfl ?_
            refine E.GH.pass (i := 3) rfl (by kernel_rfl) (by kernel_rfl) (by kernel_rfl) (by intro c a d v w h; first | (cases d <;> exact h) | exact nomatch (show _ ∧ _ from h).1) rfl rfl rfl ?_
            refine E.GH.pass (i := 4) rfl (by kernel_rfl) (by kernel_rfl) (by kernel_rfl) (by intro c a d v w h; first | (cases d <;> exact h) | exact nomatch (show _ ∧ _ from h).1) rfl rfl rfl ?_
            refine E.GH.pass (i := 5) rfl (by kernel_rfl) (by kernel_rfl) (by kernel_rfl) (by intro c a d v w h; first | (cases d <;> exact h) | exact nomatch (show _ ∧ _ from h).1) rfl rfl rfl ?_
            refine E.GH.pass (i := 6) rfl (by kernel_rfl) (by kernel_rfl) (by kernel_rfl) (by intro c a d v w h; first | (cases d <;> exact h) | exact nomatch (show _ ∧ _ from h).1) rfl rfl rfl ?_
            refine E.GH.pass (i := 7) rfl (by kernel_rfl) (by kernel_rfl) (by kernel_rfl) (by intro c a d v w h; first | (cases d <;> exact h) | exact nomatch (show _ ∧ _ from h).1) rfl rfl rfl ?_
            refine E.GH.pass (i := 8) rfl (by kernel_rfl) (by kernel_rfl) (by kernel_rfl) (by intro c a d v w h; first | (cases d <;> exact h) | exact nomatch (show _ ∧ _ from h).1) rfl rfl rfl ?_
            refine E.GH.pass (i := 9) rfl (by kernel_rfl) (by kernel_rfl) (by kernel_rfl) (by intro c a d v w h; first | (cases d <;> exact h) | exact nomatch (show _ ∧ _ from h).1) rfl rfl rfl ?_
            refine E.GH.pass (i := 10) rfl (by kernel_rfl) (by kernel_rfl) (by kernel_rfl) (by intro c a d v w h; first | (cases d <;> exact h) | exact nomatch (show _ ∧ _ from h).1) rfl rfl rfl ?_
            refine E.GH.pass (i := 11) rfl (by kernel_rfl) (by kernel_rfl) (by kernel_rfl) (by intro c a d v w h; first | (cases d <;> exact h) | exact nomatch (show _ ∧ _ from h).1) rfl rfl rfl ?_
            refine E.GH.pass (i := 12) rfl (by kernel_rfl) (by kernel_rfl) (by kernel_rfl) (by intro c a d v w h; first | (cases d <;> exact h) | exact nomatch (show _ ∧ _ from h).1) rfl rfl rfl ?_
            refine E.GH.pass (i := 13) rfl (by kernel_rfl) (by kernel_rfl) (by kernel_rfl) (by intro c a d v w h; first | (cases d <;> exact h) | exact nomatch (show _ ∧ _ from h).1) rfl rfl rfl ?_
            refine E.GH.pass (i := 14) rfl (by kernel_rfl) (by kernel_rfl) (by kernel_rfl) (by intro c a d v w h; first | (cases d <;> exact h) | exact nomatch (show _ ∧ _ from h).1) rfl rfl rfl ?_
            refine E.GH.pass (i := 15) rfl (by kernel_rfl) (by kernel_rfl) (by kernel_rfl) (by intro c a d v w h; first | (cases d <;> exact h) | exact nomatch (show _ ∧ _ from h).1) rfl rfl rfl ?_
            refine E.GH.pass (i := 16) rfl (by kernel_rfl) (by kernel_rfl) (by kernel_rfl) (by intro c a d v w h; first | (cases d <;> exact h) | exact nomatch (show _ ∧ _ from h).1) rfl rfl rfl ?_
            refine E.GH.pass (i := 17) rfl (by kernel_rfl) (by kernel_rfl) (by kernel_rfl) (by intro c a d v w h; first | (cases d <;> exact h) | exact nomatch (show _ ∧ _ from h).1) rfl rfl rfl ?_
            refine E.GH.pass (i := 18) rfl (by kernel_rfl) (by kernel_rfl) (by kernel_rfl) (by intro c a d v w h; first | (cases d <;> exact h) | exact nomatch (show _ ∧ _ from h).1) rfl rfl rfl ?_
            refine E.GH.pass (i := 19) rfl (by kernel_rfl) (by kernel_rfl) (by kernel_rfl) (by intro c a d v w h; first | (cases d <;> exact h) | exact nomatch (show _ ∧ _ from h).1) rfl rfl rfl ?_
            refine E.GH.pass (i := 20) rfl (by kernel_rfl) (by kernel_rfl) (by kernel_rfl) (by intro c a d v w h; first | (cases d <;> exact h) | exact nomatch (show _ ∧ _ from h).1) rfl rfl rfl ?_
            refine E.GH.take (i := 21) rfl (by kernel_rfl) (by kernel_rfl) (by kernel_rfl) (by intro c a d v w h; first | (cases d <;> exact h) | exact nomatch (show _ ∧ _ from h).1) rfl rfl rfl (fun w' hS => (E.Runs.pick_t rfl rfl rfl)) ?_
            refine E.GH.take (i := 22) rfl (by kernel_rfl) (by kernel_rfl) (by kernel_rfl) (by intro c a d v w h; first | (cases d <;> exact h) | exact nomatch (show _ ∧ _ from h).1) rfl rfl rfl (fun w' hS => (E.Runs.assign rfl rfl)) ?_
            refine E.GH.done (by kernel_rfl) ?_
            refine E.QG.block_normal ?_
            refine E.QG.code ?_
            refine E.CG.list ?_
            refine E.GL.run rfl rfl rfl (E.Runs.move rfl rfl) ?_
            refine E.GL.run rfl rfl rfl (E.Runs.add rfl rfl rfl (IntWalk.i64_in _ (by omega))) ?_
            refine E.GL.run rfl rfl rfl (E.Runs.assign rfl rfl) ?_
            refine E.GL.done ?_
            exact E.QG.round2 (d := false) (s + 1) true (E.subc rfl (E.subc rfl (E.subc rfl (E.subc rfl (E.subc rfl (E.subc rfl (E.subc rfl E.subn))))))) (by first | exact ⟨by omega, iff_of_true rfl (exR_more.mpr (.inl (hu.mp rfl))), b3, b5, L⟩ | exact ⟨by omega, iff_of_true rfl (exR_more.mpr (.inr (hcl.mp (by omega)))), b3, b5, L⟩ | exact ⟨by omega, iff_of_false Bool.false_ne_true (fun h => (exR_more.mp h).elim (fun h => Bool.false_ne_true (hu.mpr h)) (fun h => by have := hcl.mpr h; omega)), b3, b5, L⟩ | fail) (by omega)
          · obtain rfl : s = V.rs.length := by omega
            refine E.GL.done ?_
            refine E.QG.code ?_
            refine E.CG.cond_f rfl ?_
            refine E.CG.exit ?_
            refine E.QG.pass_exit ?_
            refine E.QG.pass_exit ?_
            refine E.QG.block_here ?_
            refine E.QG.code ?_
            refine E.CG.seq ?_
            refine E.CG.seq ?_
            refine E.CG.list ?_
            refine E.GL.run rfl rfl rfl (E.Runs.fieldAddr rfl rfl hu45 rfl (by assumption) rfl) ?_
            refine E.GL.run rfl rfl rfl (E.Runs.load rfl rfl hu3 (by first | assumption | exact E.blkc (by assumption) rfl | exact pw_cell_below L (by assumption))) ?_
            refine E.GL.cmp rfl rfl rfl (fun _ h => (E.Runs.eql rfl rfl rfl h)) (fun h82 => ?_) (fun h82 => ?_)
            · have hk3 : x.f0 = 3 := h82
              refine E.GL.run rfl rfl rfl (E.Runs.move rfl rfl) ?_
              refine E.GL.run rfl rfl rfl (E.Runs.move rfl rfl) ?_
              refine E.GL.run rfl rfl rfl (E.Runs.not rfl rfl) ?_
              refine E.GL.run rfl rfl rfl (E.Runs.pick_t rfl rfl rfl) ?_
              refine E.GL.done ?_
              refine E.QG.code ?_
              refine E.CG.cond_f rfl ?_
              refine E.CG.skip ?_
              refine E.QG.code ?_
              refine E.CG.seq ?_
              refine E.CG.list ?_
              refine E.GL.run rfl rfl rfl (E.Runs.fieldAddr rfl rfl hu45 rfl (by assumption) rfl) ?_
              refine E.GL.run rfl rfl rfl (E.Runs.load rfl rfl hu3 (by first | assumption | exact E.blkc (by assumption) rfl | exact pw_cell_below L (by assumption))) ?_
              refine E.GL.run rfl rfl rfl (E.Runs.assign rfl rfl) ?_
              refine E.GL.done ?_
              refine E.QG.code ?_
              refine E.CG.block ?_
              have s19_b3 := b3
              have s19_b5 := b5
              have s19_L := L
              refine E.CG.loop (fun (k : Nat) => [(1, .slice A p.length c), (3, .pointer (some ⟨g3, 0, none⟩)), (5, .pointer (some ⟨g5, 0, none⟩)), (7, .int .i64 ((V.rs.length : Int) - 1)), (9, .int .i64 (((x.f2.toNat + n) : Nat) : Int)), (12, .int .i64 (((x.f4.toNat + k) : Nat) : Int))]) (fun k w' => k ≤ nH x ∧ (x.f0 = 4 → ∀ q, q < k → sh V x p (x.f2.toNat + n) (x.f4.toNat + q) ≤ 1) ∧ (x.f0 = 5 → ∀ q, q < k → 1 ≤ sh V x p (x.f2.toNat + n) (x.f4.toNat + q)) ∧ w'.heap[g3]? = some (.cells #[.int .i64 V.d, .slice m.A V.rs.length m.a, .int .i64 V.h, .slice m.B V.fs.length m.b, .slice m.C V.ds.length m.c] 26 (0, 0)) ∧ w'.heap[g5]? = some (.cells #[.int .i64 x.f0, .int .i64 x.f1, .int .i64 x.f2, .int .i64 x.f3, .int .i64 x.f4, .int .i64 x.f5, .int .i64 x.f6, .int .i64 x.f7] 45 (0, 0)) ∧ Below w.heap.size w w') (fun k => nH x - k) 0 (E.subc rfl (E.subc rfl (E.subc rfl (E.subc rfl (E.subc rfl (E.subc (congrArg (fun t => some (Value.int .i64 t)) (show (x.f4 : Int) = ((x.f4.toNat + 0 : Nat) : Int) by omega)) E.subn)))))) ⟨Nat.zero_le _, fun _ q hq => by omega, fun _ q hq => by omega, b3, b5, L⟩ ?_
              rintro k w19 ⟨hk, k4, k5, b3, b5, L⟩
              refine E.CG.seq ?_
              refine E.CG.seq ?_
              refine E.CG.list ?_
              refine E.GL.run rfl rfl rfl (E.Runs.move rfl rfl) ?_
              refine E.GL.run rfl rfl rfl (E.Runs.fieldAddr rfl rfl hu45 rfl (by assumption) rfl) ?_
              refine E.GL.run rfl rfl rfl (E.Runs.load rfl rfl hu3 (by first | assumption | exact E.blkc (by assumption) rfl | exact pw_cell_below L (by assumption))) ?_
              refine E.GL.cmp rfl rfl rfl (fun _ h => (E.Runs.leq rfl rfl rfl h)) (fun h92 => ?_) (fun h92 => ?_)
              · have hshl := shN_le V x p (x.f2.toNat + n) (x.f4.toNat + k) V.rs.length
                have hshe : sh V x p (x.f2.toNat + n) (x.f4.toNat + k) = shN V x p (x.f2.toNat + n) (x.f4.toNat + k) V.rs.length := rfl
                refine E.GL.done ?_
                refine E.QG.code ?_
                refine E.CG.cond_t rfl ?_
                refine E.CG.skip ?_
                refine E.QG.code ?_
                refine E.CG.seq ?_
                refine E.CG.block ?_
                refine E.CG.seq ?_
                refine E.CG.list ?_
                refine E.GL.run rfl rfl rfl (E.Runs.loads (cs := [.int .i64 V.d, .slice m.A V.rs.length m.a, .int .i64 V.h, .slice m.B V.fs.length m.b, .slice m.C V.ds.length m.c]) rfl rfl hu26 rfl info26s (blk_cells b3)) ?_
                refine E.GL.run rfl rfl rfl (E.Runs.move rfl rfl) ?_
                refine E.GL.run rfl rfl rfl (E.Runs.loads (cs := [.int .i64 x.f0, .int .i64 x.f1, .int .i64 x.f2, .int .i64 x.f3, .int .i64 x.f4, .int .i64 x.f5, .int .i64 x.f6, .int .i64 x.f7]) rfl rfl hu45 rfl info45s (blk_cells b5)) ?_
                refine E.GL.run rfl rfl rfl (E.Runs.move rfl rfl) ?_
                refine E.GL.run rfl rfl rfl (E.Runs.move rfl rfl) ?_
                refine E.GL.run rfl rfl rfl (E.Runs.move rfl rfl) ?_
                refine E.GL.run rfl rfl rfl (E.Runs.move rfl rfl) ?_
                refine E.GL.run rfl rfl rfl (E.Runs.move rfl rfl) ?_
                refine E.GL.st rfl rfl rfl (E.ST.call rfl ent78 (E.evc rfl (E.evc rfl (E.evc rfl (E.evc rfl (E.evc rfl (E.evc rfl (E.evc rfl (E.evc rfl (E.evc rfl E.evn))))))))) ((shows_r V m x p A c _ ok (hV.below L) hx (Kd.C_below hp L) hpl (x.f2.toNat + n) 1 (x.f4.toNat + k) 1 0 V.rs.length (((x.f2.toNat + n) : Nat) : Int) (((x.f2.toNat + n) : Nat) : Int) (((x.f4.toNat + k) : Nat) : Int) (((x.f4.toNat + k) : Nat) : Int) 0 ((V.rs.length : Int) - 1) (by omega) (by omega) (by omega) (by omega) (by omega) (by omega) (by omega) (by omega) (by omega)).mono ?_))
                rintro e w103 ⟨rfl, l103⟩
                refine ⟨_, rfl, ?_⟩
                replace b3 := blk_below b3 l103
                replace b5 := blk_below b5 l103
                replace L := below_step L l103
                rw [c3_hour]
                refine E.GL.run rfl rfl rfl (E.Runs.assign rfl rfl) ?_
                refine E.GL.done ?_
                refine E.QG.code ?_
                refine E.CG.seq ?_
                refine E.CG.list ?_
                refine E.GL.run rfl rfl rfl (E.Runs.fieldAddr rfl rfl hu45 rfl (by assumption) rfl) ?_
                refine E.GL.run rfl rfl rfl (E.Runs.load rfl rfl hu3 (by first | assumption | exact E.blkc (by assumption) rfl | exact pw_cell_below L (by assumption))) ?_
                refine E.GL.cmp rfl rfl rfl (fun _ h => (E.Runs.eql rfl rfl rfl h)) (fun h106 => ?_) (fun h106 => ?_)
                · refine E.GL.run rfl rfl rfl (E.Runs.move rfl rfl) ?_
                  refine E.GL.run rfl rfl rfl (E.Runs.move rfl rfl) ?_
                  refine E.GL.cmp rfl rfl rfl (fun _ h => (E.Runs.gtr rfl rfl rfl h)) (fun h109 => ?_) (fun h109 => ?_)
                  · refine E.GL.run rfl rfl rfl (E.Runs.pick_t rfl rfl rfl) ?_
                    refine E.GL.run rfl rfl rfl (E.Runs.move rfl rfl) ?_
                    refine E.GL.skip rfl rfl rfl ?_
                    refine E.GL.skip rfl rfl rfl ?_
                    refine E.GL.skip rfl rfl rfl ?_
                    refine E.GL.skip rfl rfl rfl ?_
                    refine E.GL.skip rfl rfl rfl ?_
                    refine E.GL.skip rfl rfl rfl ?_
                    refine E.GL.skip rfl rfl rfl ?_
                    refine E.GL.run rfl rfl rfl (E.Runs.pick_t rfl rfl rfl) ?_
                    refine E.GL.done ?_
                    refine E.QG.code ?_
                    refine E.CG.cond_t rfl ?_
                    refine E.CG.seq ?_
                    refine E.CG.list ?_
                    refine E.GL.run rfl rfl rfl (E.Runs.assign rfl rfl) ?_
                    refine E.GL.done ?_
                    refine E.QG.code ?_
                    refine E.CG.ret ?_
                    refine E.QG.block_ret ?_
                    refine E.QG.pass_ret ?_
                    refine E.QG.pass_ret ?_
                    refine E.QG.block_ret ?_
                    refine E.QG.block_ret ?_
                    refine E.QG.pass_ret ?_
                    refine E.QG.pass_ret ?_
                    refine E.QG.block_ret ?_
                    refine E.QG.pass_ret ?_
                    exact E.QG.result rfl rfl ⟨by rw [bool_no hb (fun hk_ => by have := (keep4 h106).mp hk_ n (by omega) k (by omega); omega)], L⟩
                  · refine E.GL.run rfl rfl rfl (E.Runs.pick_t rfl rfl rfl) ?_
                    refine E.GL.run rfl rfl rfl (E.Runs.move rfl rfl) ?_
                    refine E.GL.run rfl rfl rfl (E.Runs.fieldAddr rfl rfl hu45 rfl (by assumption) rfl) ?_
                    refine E.GL.run rfl rfl rfl (E.Runs.load rfl rfl hu3 (by first | assumption | exact E.blkc (by assumption) rfl | exact pw_cell_below L (by assumption))) ?_
                    refine E.GL.run rfl rfl rfl (E.Runs.eql rfl rfl rfl (decide_eq_false (by omega))) ?_
                    refine E.GL.run rfl rfl rfl (E.Runs.move rfl rfl) ?_
                    refine E.GL.skip rfl rfl rfl ?_
                    refine E.GL.skip rfl rfl rfl ?_
                    refine E.GL.run rfl rfl rfl (E.Runs.pick_f rfl rfl rfl) ?_
                    refine E.GL.run rfl rfl rfl (E.Runs.pick_f rfl rfl rfl) ?_
                    refine E.GL.done ?_
                    refine E.QG.code ?_
                    refine E.CG.cond_f rfl ?_
                    refine E.CG.skip ?_
                    refine E.QG.block_normal ?_
                    refine E.QG.code ?_
                    refine E.CG.list ?_
                    refine E.GL.run rfl rfl rfl (E.Runs.move rfl rfl) ?_
                    refine E.GL.run rfl rfl rfl (E.Runs.add rfl rfl rfl (IntWalk.i64_in _ (by omega))) ?_
                    refine E.GL.run rfl rfl rfl (E.Runs.assign rfl rfl) ?_
                    refine E.GL.done ?_
                    exact E.QG.round (k + 1) (E.subc rfl (E.subc rfl (E.subc rfl (E.subc rfl (E.subc rfl (E.subc rfl E.subn)))))) ⟨by omega, fun e => upto (k4 e) (by omega), fun e => upto (k5 e) (by omega), b3, b5, L⟩ (by omega)
                · refine E.GL.run rfl rfl rfl (E.Runs.move rfl rfl) ?_
                  refine E.GL.skip rfl rfl rfl ?_
                  refine E.GL.skip rfl rfl rfl ?_
                  refine E.GL.run rfl rfl rfl (E.Runs.pick_f rfl rfl rfl) ?_
                  refine E.GL.run rfl rfl rfl (E.Runs.move rfl rfl) ?_
                  refine E.GL.run rfl rfl rfl (E.Runs.fieldAddr rfl rfl hu45 rfl (by assumption) rfl) ?_
                  refine E.GL.run rfl rfl rfl (E.Runs.load rfl rfl hu3 (by first | assumption | exact E.blkc (by assumption) rfl | exact pw_cell_below L (by assumption))) ?_
                  refine E.GL.cmp rfl rfl rfl (fun _ h => (E.Runs.eql rfl rfl rfl h)) (fun h114 => ?_) (fun h114 => ?_)
                  · refine E.GL.run rfl rfl rfl (E.Runs.move rfl rfl) ?_
                    refine E.GL.run rfl rfl rfl (E.Runs.move rfl rfl) ?_
                    refine E.GL.cmp rfl rfl rfl (fun _ h => (E.Runs.eql rfl rfl rfl h)) (fun h117 => ?_) (fun h117 => ?_)
                    · refine E.GL.run rfl rfl rfl (E.Runs.pick_t rfl rfl rfl) ?_
                      refine E.GL.run rfl rfl rfl (E.Runs.pick_f rfl rfl rfl) ?_
                      refine E.GL.done ?_
                      refine E.QG.code ?_
                      refine E.CG.cond_t rfl ?_
                      refine E.CG.seq ?_
                      refine E.CG.list ?_
                      refine E.GL.run rfl rfl rfl (E.Runs.assign rfl rfl) ?_
                      refine E.GL.done ?_
                      refine E.QG.code ?_
                      refine E.CG.ret ?_
                      refine E.QG.block_ret ?_
                      refine E.QG.pass_ret ?_
                      refine E.QG.pass_ret ?_
                      refine E.QG.block_ret ?_
                      refine E.QG.block_ret ?_
                      refine E.QG.pass_ret ?_
                      refine E.QG.pass_ret ?_
                      refine E.QG.block_ret ?_
                      refine E.QG.pass_ret ?_
                      exact E.QG.result rfl rfl ⟨by rw [bool_no hb (fun hk_ => by have := (keep5 h114).mp hk_ n (by omega) k (by omega); omega)], L⟩
                    · refine E.GL.run rfl rfl rfl (E.Runs.pick_t rfl rfl rfl) ?_
                      refine E.GL.run rfl rfl rfl (E.Runs.pick_f rfl rfl rfl) ?_
                      refine E.GL.done ?_
                      refine E.QG.code ?_
                      refine E.CG.cond_f rfl ?_
                      refine E.CG.skip ?_
                      refine E.QG.block_normal ?_
                      refine E.QG.code ?_
                      refine E.CG.list ?_
                      refine E.GL.run rfl rfl rfl (E.Runs.move rfl rfl) ?_
                      refine E.GL.run rfl rfl rfl (E.Runs.add rfl rfl rfl (IntWalk.i64_in _ (by omega))) ?_
                      refine E.GL.run rfl rfl rfl (E.Runs.assign rfl rfl) ?_
                      refine E.GL.done ?_
                      exact E.QG.round (k + 1) (E.subc rfl (E.subc rfl (E.subc rfl (E.subc rfl (E.subc rfl (E.subc rfl E.subn)))))) ⟨by omega, fun e => upto (k4 e) (by omega), fun e => upto (k5 e) (by omega), b3, b5, L⟩ (by omega)
                  · refine E.GL.run rfl rfl rfl (E.Runs.move rfl rfl) ?_
                    refine E.GL.skip rfl rfl rfl ?_
                    refine E.GL.skip rfl rfl rfl ?_
                    refine E.GL.run rfl rfl rfl (E.Runs.pick_f rfl rfl rfl) ?_
                    refine E.GL.run rfl rfl rfl (E.Runs.pick_f rfl rfl rfl) ?_
                    refine E.GL.done ?_
                    refine E.QG.code ?_
                    refine E.CG.cond_f rfl ?_
                    refine E.CG.skip ?_
                    refine E.QG.block_normal ?_
                    refine E.QG.code ?_
                    refine E.CG.list ?_
                    refine E.GL.run rfl rfl rfl (E.Runs.move rfl rfl) ?_
                    refine E.GL.run rfl rfl rfl (E.Runs.add rfl rfl rfl (IntWalk.i64_in _ (by omega))) ?_
                    refine E.GL.run rfl rfl rfl (E.Runs.assign rfl rfl) ?_
                    refine E.GL.done ?_
                    exact E.QG.round (k + 1) (E.subc rfl (E.subc rfl (E.subc rfl (E.subc rfl (E.subc rfl (E.subc rfl E.subn)))))) ⟨by omega, fun e => upto (k4 e) (by omega), fun e => upto (k5 e) (by omega), b3, b5, L⟩ (by omega)
              · obtain rfl : k = nH x := by omega
                refine E.GL.done ?_
                refine E.QG.code ?_
                refine E.CG.cond_f rfl ?_
                refine E.CG.exit ?_
                refine E.QG.pass_exit ?_
                refine E.QG.pass_exit ?_
                refine E.QG.block_here ?_
                refine E.QG.block_normal ?_
                refine E.QG.code ?_
                refine E.CG.list ?_
                refine E.GL.run rfl rfl rfl (E.Runs.move rfl rfl) ?_
                refine E.GL.run rfl rfl rfl (E.Runs.add rfl rfl rfl (IntWalk.i64_in _ (by omega))) ?_
                refine E.GL.run rfl rfl rfl (E.Runs.assign rfl rfl) ?_
                refine E.GL.done ?_
                exact E.QG.round (n + 1) (E.subc rfl (E.subc rfl (E.subc rfl (E.subc rfl (E.subc rfl E.subn))))) ⟨by omega, fun e => upto (q3 e) (by first | exact cln_iff.mpr (hu.mp rfl) | exact absurd e h82 | fail), fun e => upto (q4 e) (k4 e), fun e => upto (q5 e) (k5 e), b3, b5, L⟩ (by omega)
            · refine E.GL.run rfl rfl rfl (E.Runs.move rfl rfl) ?_
              refine E.GL.skip rfl rfl rfl ?_
              refine E.GL.skip rfl rfl rfl ?_
              refine E.GL.run rfl rfl rfl (E.Runs.pick_f rfl rfl rfl) ?_
              refine E.GL.done ?_
              refine E.QG.code ?_
              refine E.CG.cond_f rfl ?_
              refine E.CG.skip ?_
              refine E.QG.code ?_
              refine E.CG.seq ?_
              refine E.CG.list ?_
              refine E.GL.run rfl rfl rfl (E.Runs.fieldAddr rfl rfl hu45 rfl (by assumption) rfl) ?_
              refine E.GL.run rfl rfl rfl (E.Runs.load rfl rfl hu3 (by first | assumption | exact E.blkc (by assumption) rfl | exact pw_cell_below L (by assumption))) ?_
              refine E.GL.run rfl rfl rfl (E.Runs.assign rfl rfl) ?_
              refine E.GL.done ?_
              refine E.QG.code ?_
              refine E.CG.block ?_
              have s19_b3 := b3
              have s19_b5 := b5
              have s19_L := L
              refine E.CG.loop (fun (k : Nat) => [(1, .slice A p.length c), (3, .pointer (some ⟨g3, 0, none⟩)), (5, .pointer (some ⟨g5, 0, none⟩)), (7, .int .i64 ((V.rs.length : Int) - 1)), (9, .int .i64 (((x.f2.toNat + n) : Nat) : Int)), (12, .int .i64 (((x.f4.toNat + k) : Nat) : Int))]) (fun k w' => k ≤ nH x ∧ (x.f0 = 4 → ∀ q, q < k → sh V x p (x.f2.toNat + n) (x.f4.toNat + q) ≤ 1) ∧ (x.f0 = 5 → ∀ q, q < k → 1 ≤ sh V x p (x.f2.toNat + n) (x.f4.toNat + q)) ∧ w'.heap[g3]? = some (.cells #[.int .i64 V.d, .slice m.A V.rs.length m.a, .int .i64 V.h, .slice m.B V.fs.length m.b, .slice m.C V.ds.length m.c] 26 (0, 0)) ∧ w'.heap[g5]? = some (.cells #[.int .i64 x.f0, .int .i64 x.f1, .int .i64 x.f2, .int .i64 x.f3, .int .i64 x.f4, .int .i64 x.f5, .int .i64 x.f6, .int .i64 x.f7] 45 (0, 0)) ∧ Below w.heap.size w w') (fun k => nH x - k) 0 (E.subc rfl (E.subc rfl (E.subc rfl (E.subc rfl (E.subc rfl (E.subc (congrArg (fun t => some (Value.int .i64 t)) (show (x.f4 : Int) = ((x.f4.toNat + 0 : Nat) : Int) by omega)) E.subn)))))) ⟨Nat.zero_le _, fun _ q hq => by omega, fun _ q hq => by omega, b3, b5, L⟩ ?_
              rintro k w19 ⟨hk, k4, k5, b3, b5, L⟩
              refine E.CG.seq ?_
              refine E.CG.seq ?_
              refine E.CG.list ?_
              refine E.GL.run rfl rfl rfl (E.Runs.move rfl rfl) ?_
              refine E.GL.run rfl rfl rfl (E.Runs.fieldAddr rfl rfl hu45 rfl (by assumption) rfl) ?_
              refine E.GL.run rfl rfl rfl (E.Runs.load rfl rfl hu3 (by first | assumption | exact E.blkc (by assumption) rfl | exact pw_cell_below L (by assumption))) ?_
              refine E.GL.cmp rfl rfl rfl (fun _ h => (E.Runs.leq rfl rfl rfl h)) (fun h92 => ?_) (fun h92 => ?_)
              · have hshl := shN_le V x p (x.f2.toNat + n) (x.f4.toNat + k) V.rs.length
                have hshe : sh V x p (x.f2.toNat + n) (x.f4.toNat + k) = shN V x p (x.f2.toNat + n) (x.f4.toNat + k) V.rs.length := rfl
                refine E.GL.done ?_
                refine E.QG.code ?_
                refine E.CG.cond_t rfl ?_
                refine E.CG.skip ?_
                refine E.QG.code ?_
                refine E.CG.seq ?_
                refine E.CG.block ?_
                refine E.CG.seq ?_
                refine E.CG.list ?_
                refine E.GL.run rfl rfl rfl (E.Runs.loads (cs := [.int .i64 V.d, .slice m.A V.rs.length m.a, .int .i64 V.h, .slice m.B V.fs.length m.b, .slice m.C V.ds.length m.c]) rfl rfl hu26 rfl info26s (blk_cells b3)) ?_
                refine E.GL.run rfl rfl rfl (E.Runs.move rfl rfl) ?_
                refine E.GL.run rfl rfl rfl (E.Runs.loads (cs := [.int .i64 x.f0, .int .i64 x.f1, .int .i64 x.f2, .int .i64 x.f3, .int .i64 x.f4, .int .i64 x.f5, .int .i64 x.f6, .int .i64 x.f7]) rfl rfl hu45 rfl info45s (blk_cells b5)) ?_
                refine E.GL.run rfl rfl rfl (E.Runs.move rfl rfl) ?_
                refine E.GL.run rfl rfl rfl (E.Runs.move rfl rfl) ?_
                refine E.GL.run rfl rfl rfl (E.Runs.move rfl rfl) ?_
                refine E.GL.run rfl rfl rfl (E.Runs.move rfl rfl) ?_
                refine E.GL.run rfl rfl rfl (E.Runs.move rfl rfl) ?_
                refine E.GL.st rfl rfl rfl (E.ST.call rfl ent78 (E.evc rfl (E.evc rfl (E.evc rfl (E.evc rfl (E.evc rfl (E.evc rfl (E.evc rfl (E.evc rfl (E.evc rfl E.evn))))))))) ((shows_r V m x p A c _ ok (hV.below L) hx (Kd.C_below hp L) hpl (x.f2.toNat + n) 1 (x.f4.toNat + k) 1 0 V.rs.length (((x.f2.toNat + n) : Nat) : Int) (((x.f2.toNat + n) : Nat) : Int) (((x.f4.toNat + k) : Nat) : Int) (((x.f4.toNat + k) : Nat) : Int) 0 ((V.rs.length : Int) - 1) (by omega) (by omega) (by omega) (by omega) (by omega) (by omega) (by omega) (by omega) (by omega)).mono ?_))
                rintro e w103 ⟨rfl, l103⟩
                refine ⟨_, rfl, ?_⟩
                replace b3 := blk_below b3 l103
                replace b5 := blk_below b5 l103
                replace L := below_step L l103
                rw [c3_hour]
                refine E.GL.run rfl rfl rfl (E.Runs.assign rfl rfl) ?_
                refine E.GL.done ?_
                refine E.QG.code ?_
                refine E.CG.seq ?_
                refine E.CG.list ?_
                refine E.GL.run rfl rfl rfl (E.Runs.fieldAddr rfl rfl hu45 rfl (by assumption) rfl) ?_
                refine E.GL.run rfl rfl rfl (E.Runs.load rfl rfl hu3 (by first | assumption | exact E.blkc (by assumption) rfl | exact pw_cell_below L (by assumption))) ?_
                refine E.GL.cmp rfl rfl rfl (fun _ h => (E.Runs.eql rfl rfl rfl h)) (fun h106 => ?_) (fun h106 => ?_)
                · refine E.GL.run rfl rfl rfl (E.Runs.move rfl rfl) ?_
                  refine E.GL.run rfl rfl rfl (E.Runs.move rfl rfl) ?_
                  refine E.GL.cmp rfl rfl rfl (fun _ h => (E.Runs.gtr rfl rfl rfl h)) (fun h109 => ?_) (fun h109 => ?_)
                  · refine E.GL.run rfl rfl rfl (E.Runs.pick_t rfl rfl rfl) ?_
                    refine E.GL.run rfl rfl rfl (E.Runs.move rfl rfl) ?_
                    refine E.GL.skip rfl rfl rfl ?_
                    refine E.GL.skip rfl rfl rfl ?_
                    refine E.GL.skip rfl rfl rfl ?_
                    refine E.GL.skip rfl rfl rfl ?_
                    refine E.GL.skip rfl rfl rfl ?_
                    refine E.GL.skip rfl rfl rfl ?_
                    refine E.GL.skip rfl rfl rfl ?_
                    refine E.GL.run rfl rfl rfl (E.Runs.pick_t rfl rfl rfl) ?_
                    refine E.GL.done ?_
                    refine E.QG.code ?_
                    refine E.CG.cond_t rfl ?_
                    refine E.CG.seq ?_
                    refine E.CG.list ?_
                    refine E.GL.run rfl rfl rfl (E.Runs.assign rfl rfl) ?_
                    refine E.GL.done ?_
                    refine E.QG.code ?_
                    refine E.CG.ret ?_
                    refine E.QG.block_ret ?_
                    refine E.QG.pass_ret ?_
                    refine E.QG.pass_ret ?_
                    refine E.QG.block_ret ?_
                    refine E.QG.block_ret ?_
                    refine E.QG.pass_ret ?_
                    refine E.QG.pass_ret ?_
                    refine E.QG.block_ret ?_
                    refine E.QG.pass_ret ?_
                    exact E.QG.result rfl rfl ⟨by rw [bool_no hb (fun hk_ => by have := (keep4 h106).mp hk_ n (by omega) k (by omega); omega)], L⟩
                  · refine E.GL.run rfl rfl rfl (E.Runs.pick_t rfl rfl rfl) ?_
                    refine E.GL.run rfl rfl rfl (E.Runs.move rfl rfl) ?_
                    refine E.GL.run rfl rfl rfl (E.Runs.fieldAddr rfl rfl hu45 rfl (by assumption) rfl) ?_
                    refine E.GL.run rfl rfl rfl (E.Runs.load rfl rfl hu3 (by first | assumption | exact E.blkc (by assumption) rfl | exact pw_cell_below L (by assumption))) ?_
                    refine E.GL.run rfl rfl rfl (E.Runs.eql rfl rfl rfl (decide_eq_false (by omega))) ?_
                    refine E.GL.run rfl rfl rfl (E.Runs.move rfl rfl) ?_
                    refine E.GL.skip rfl rfl rfl ?_
                    refine E.GL.skip rfl rfl rfl ?_
                    refine E.GL.run rfl rfl rfl (E.Runs.pick_f rfl rfl rfl) ?_
                    refine E.GL.run rfl rfl rfl (E.Runs.pick_f rfl rfl rfl) ?_
                    refine E.GL.done ?_
                    refine E.QG.code ?_
                    refine E.CG.cond_f rfl ?_
                    refine E.CG.skip ?_
                    refine E.QG.block_normal ?_
                    refine E.QG.code ?_
                    refine E.CG.list ?_
                    refine E.GL.run rfl rfl rfl (E.Runs.move rfl rfl) ?_
                    refine E.GL.run rfl rfl rfl (E.Runs.add rfl rfl rfl (IntWalk.i64_in _ (by omega))) ?_
                    refine E.GL.run rfl rfl rfl (E.Runs.assign rfl rfl) ?_
                    refine E.GL.done ?_
                    exact E.QG.round (k + 1) (E.subc rfl (E.subc rfl (E.subc rfl (E.subc rfl (E.subc rfl (E.subc rfl E.subn)))))) ⟨by omega, fun e => upto (k4 e) (by omega), fun e => upto (k5 e) (by omega), b3, b5, L⟩ (by omega)
                · refine E.GL.run rfl rfl rfl (E.Runs.move rfl rfl) ?_
                  refine E.GL.skip rfl rfl rfl ?_
                  refine E.GL.skip rfl rfl rfl ?_
                  refine E.GL.run rfl rfl rfl (E.Runs.pick_f rfl rfl rfl) ?_
                  refine E.GL.run rfl rfl rfl (E.Runs.move rfl rfl) ?_
                  refine E.GL.run rfl rfl rfl (E.Runs.fieldAddr rfl rfl hu45 rfl (by assumption) rfl) ?_
                  refine E.GL.run rfl rfl rfl (E.Runs.load rfl rfl hu3 (by first | assumption | exact E.blkc (by assumption) rfl | exact pw_cell_below L (by assumption))) ?_
                  refine E.GL.cmp rfl rfl rfl (fun _ h => (E.Runs.eql rfl rfl rfl h)) (fun h114 => ?_) (fun h114 => ?_)
                  · refine E.GL.run rfl rfl rfl (E.Runs.move rfl rfl) ?_
                    refine E.GL.run rfl rfl rfl (E.Runs.move rfl rfl) ?_
                    refine E.GL.cmp rfl rfl rfl (fun _ h => (E.Runs.eql rfl rfl rfl h)) (fun h117 => ?_) (fun h117 => ?_)
                    · refine E.GL.run rfl rfl rfl (E.Runs.pick_t rfl rfl rfl) ?_
                      refine E.GL.run rfl rfl rfl (E.Runs.pick_f rfl rfl rfl) ?_
                      refine E.GL.done ?_
                      refine E.QG.code ?_
                      refine E.CG.cond_t rfl ?_
                      refine E.CG.seq ?_
                      refine E.CG.list ?_
                      refine E.GL.run rfl rfl rfl (E.Runs.assign rfl rfl) ?_
                      refine E.GL.done ?_
                      refine E.QG.code ?_
                      refine E.CG.ret ?_
                      refine E.QG.block_ret ?_
                      refine E.QG.pass_ret ?_
                      refine E.QG.pass_ret ?_
                      refine E.QG.block_ret ?_
                      refine E.QG.block_ret ?_
                      refine E.QG.pass_ret ?_
                      refine E.QG.pass_ret ?_
                      refine E.QG.block_ret ?_
                      refine E.QG.pass_ret ?_
                      exact E.QG.result rfl rfl ⟨by rw [bool_no hb (fun hk_ => by have := (keep5 h114).mp hk_ n (by omega) k (by omega); omega)], L⟩
                    · refine E.GL.run rfl rfl rfl (E.Runs.pick_t rfl rfl rfl) ?_
                      refine E.GL.run rfl rfl rfl (E.Runs.pick_f rfl rfl rfl) ?_
                      refine E.GL.done ?_
                      refine E.QG.code ?_
                      refine E.CG.cond_f rfl ?_
                      refine E.CG.skip ?_
                      refine E.QG.block_normal ?_
                      refine E.QG.code ?_
                      refine E.CG.list ?_
                      refine E.GL.run rfl rfl rfl (E.Runs.move rfl rfl) ?_
                      refine E.GL.run rfl rfl rfl (E.Runs.add rfl rfl rfl (IntWalk.i64_in _ (by omega))) ?_
                      refine E.GL.run rfl rfl rfl (E.Runs.assign rfl rfl) ?_
                      refine E.GL.done ?_
                      exact E.QG.round (k + 1) (E.subc rfl (E.subc rfl (E.subc rfl (E.subc rfl (E.subc rfl (E.subc rfl E.subn)))))) ⟨by omega, fun e => upto (k4 e) (by omega), fun e => upto (k5 e) (by omega), b3, b5, L⟩ (by omega)
                  · refine E.GL.run rfl rfl rfl (E.Runs.move rfl rfl) ?_
                    refine E.GL.skip rfl rfl rfl ?_
                    refine E.GL.skip rfl rfl rfl ?_
                    refine E.GL.run rfl rfl rfl (E.Runs.pick_f rfl rfl rfl) ?_
                    refine E.GL.run rfl rfl rfl (E.Runs.pick_f rfl rfl rfl) ?_
                    refine E.GL.done ?_
                    refine E.QG.code ?_
                    refine E.CG.cond_f rfl ?_
                    refine E.CG.skip ?_
                    refine E.QG.block_normal ?_
                    refine E.QG.code ?_
                    refine E.CG.list ?_
                    refine E.GL.run rfl rfl rfl (E.Runs.move rfl rfl) ?_
                    refine E.GL.run rfl rfl rfl (E.Runs.add rfl rfl rfl (IntWalk.i64_in _ (by omega))) ?_
                    refine E.GL.run rfl rfl rfl (E.Runs.assign rfl rfl) ?_
                    refine E.GL.done ?_
                    exact E.QG.round (k + 1) (E.subc rfl (E.subc rfl (E.subc rfl (E.subc rfl (E.subc rfl (E.subc rfl E.subn)))))) ⟨by omega, fun e => upto (k4 e) (by omega), fun e => upto (k5 e) (by omega), b3, b5, L⟩ (by omega)
              · obtain rfl : k = nH x := by omega
                refine E.GL.done ?_
                refine E.QG.code ?_
                refine E.CG.cond_f rfl ?_
                refine E.CG.exit ?_
                refine E.QG.pass_exit ?_
                refine E.QG.pass_exit ?_
                refine E.QG.block_here ?_
                refine E.QG.block_normal ?_
                refine E.QG.code ?_
                refine E.CG.list ?_
                refine E.GL.run rfl rfl rfl (E.Runs.move rfl rfl) ?_
                refine E.GL.run rfl rfl rfl (E.Runs.add rfl rfl rfl (IntWalk.i64_in _ (by omega))) ?_
                refine E.GL.run rfl rfl rfl (E.Runs.assign rfl rfl) ?_
                refine E.GL.done ?_
                exact E.QG.round (n + 1) (E.subc rfl (E.subc rfl (E.subc rfl (E.subc rfl (E.subc rfl E.subn))))) ⟨by omega, fun e => upto (q3 e) (by first | exact cln_iff.mpr (hu.mp rfl) | exact absurd e h82 | fail), fun e => upto (q4 e) (k4 e), fun e => upto (q5 e) (k5 e), b3, b5, L⟩ (by omega)
      · obtain rfl : n = nD x := by omega
        refine E.GL.done ?_
        refine E.QG.code ?_
        refine E.CG.cond_f rfl ?_
        refine E.CG.exit ?_
        refine E.QG.pass_exit ?_
        refine E.QG.pass_exit ?_
        refine E.QG.block_here ?_
        refine E.QG.code ?_
        refine E.CG.seq ?_
        refine E.CG.list ?_
        refine E.GL.run rfl rfl rfl (E.Runs.assign rfl rfl) ?_
        refine E.GL.done ?_
        refine E.QG.code ?_
        refine E.CG.ret ?_
        exact E.QG.result rfl rfl ⟨by rw [hb.mpr (keep_rest h34 h40 q3 q4 q5)], L⟩

end Go.Proofs.Ytdiambcjghlffaa.T
namespace Go.Proofs.Ytdiambcjghlffaa.T
open Go.RowKit Go.Proofs.YtdiambcjghlffaaW.PrintWords Go.Proofs.YtdiambcjghlffaaW.PrintMore
open Go.Proofs.Ytdiambcjghlffaa.P
set_option linter.unusedVariables false
set_option linter.unusedSimpArgs false

theorem slN_mod {V : Wk} {day r h : Nat} (hh : h < V.h.toNat) (hr : r < V.rs.length) : slN V day r h % V.h.toNat = h ∧ slN V day r h / V.h.toNat % V.rs.length = r := by
  have e1 : slN V day r h = h + V.h.toNat * (day * V.rs.length + r) := by unfold slN; rw [Nat.add_comm, Nat.mul_comm]
  have e2 : day * V.rs.length + r = r + V.rs.length * day := by rw [Nat.add_comm, Nat.mul_comm]
  constructor
  · rw [e1, Nat.add_mul_mod_self_left, Nat.mod_eq_of_lt hh]
  · rw [e1, Nat.add_mul_div_left _ _ (by omega), Nat.div_eq_of_lt hh, Nat.zero_add, e2, Nat.add_mul_mod_self_left, Nat.mod_eq_of_lt hr]
theorem slN_hour (V : Wk) (day r : Nat) : slN V day r V.h.toNat = slN V day (r + 1) 0 := by
  unfold slN
  rw [← Nat.add_assoc, Nat.add_mul (day * V.rs.length + r) 1, Nat.one_mul, Nat.add_zero]
theorem slN_room (V : Wk) (day : Nat) : slN V day V.rs.length 0 = slN V (day + 1) 0 0 := by
  unfold slN
  rw [Nat.add_mul day 1, Nat.one_mul]
  rfl
theorem slN_end (V : Wk) : slN V V.d.toNat 0 0 = Sl V := by
  unfold slN Sl
  rw [Nat.add_zero, Nat.add_zero]
theorem slN_zero (V : Wk) : slN V 0 0 0 = 0 := by
  unfold slN
  rw [Nat.zero_mul, Nat.zero_add, Nat.zero_mul]
theorem slN_succ (V : Wk) (day r h : Nat) : slN V day r (h + 1) = slN V day r h + 1 := rfl
set_option maxRecDepth 100000 in
set_option maxHeartbeats 8000000 in

theorem brokenL_r (V : Wk) (m : Wa) (p : List Int) (A : Option Addr) (c : Nat) (w : World) (hV : WM w V m) (hs : Sz V) (hp : Kd.C kI w A p.length p) (hpn : p.length ≤ 1000000) (ok : WOk V) (hP : IsP V p) :
    Calls Try.prog 53 #[wv V m, .slice A p.length c] w fun e w' => ∃ v, e = .returned v ∧ Kd.R kI 3 w' w.heap.size (fun _ => True) v (brk V p V.ds.length) ∧ Below w.heap.size w w' := by
  have hds := ok.s.ds
  have hu3 := Try.underlying3
  have hu22 := Try.underlying22
  have hu24 := Try.underlying24
  have hu26 := Try.underlying26
  have hu45 := Try.underlying45
  obtain ⟨z3, o3⟩ := info_some info3s (by decide)
  obtain ⟨z22, o22⟩ := info_some info22s (by decide)
  obtain ⟨z24, o24⟩ := info_some info24s (by decide)
  obtain ⟨z45, o45⟩ := info_some info45s (by decide)
  refine E.enter (N := 28) Try.func53 rfl Try.ntmps53 (args := [wv V m, .slice A p.length c]) (by simp) ?_
  have L := Below.refl w.heap.size w
  refine E.CG.seq ?_
  refine E.CG.list ?_
  refine E.GL.st rfl rfl rfl (E.ST.box rfl rfl fun g2 w2 e2 b2 l2 => ?_)
  have h2_L : w.heap.size ≤ g2 := by rw [e2]; exact L.size
  replace L := below_step L l2
  refine E.GL.run rfl rfl rfl (E.Runs.assign rfl rfl) ?_
  refine E.GL.done ?_
  refine E.QG.code ?_
  refine E.CG.seq ?_
  refine E.CG.list ?_
  refine E.GL.run rfl rfl rfl (E.Runs.assign rfl rfl) ?_
  refine E.GL.done ?_
  refine E.QG.code ?_
  refine E.CG.seq ?_
  refine E.CG.seq ?_
  refine E.CG.list ?_
  refine E.GL.run rfl rfl rfl (E.Runs.assign rfl rfl) ?_
  refine E.GL.done ?_
  refine E.QG.code ?_
  refine E.CG.block ?_
  have s3_b2 := b2
  have s3_L := L
  refine E.CG.loop2 (fun (i : Nat) (v5 : Value) => [(1, .slice A p.length c), (2, .pointer (some ⟨g2, 0, none⟩)), (5, v5), (6, .int .i64 i)]) (fun i v5 w' => i ≤ V.ds.length ∧ Kd.R kI 3 w' w.heap.size (fun _ => True) v5 (brk V p i) ∧ w'.heap[g2]? = some (.cells #[.int .i64 V.d, .slice m.A V.rs.length m.a, .int .i64 V.h, .slice m.B V.fs.length m.b, .slice m.C V.ds.length m.c] 26 (0, 0)) ∧ Below w.heap.size w w') (fun i v5 => V.ds.length - i) 0 (.slice none 0 0) (E.subc rfl (E.subc rfl (E.subc rfl (E.subc rfl E.subn)))) ⟨Nat.zero_le _, Kd.R_nil _ _ _ _ _, b2, L⟩ ?_
  rintro i v5 w3 ⟨hi, R5, b2, L⟩
  refine E.CG.seq ?_
  refine E.CG.seq ?_
  refine E.CG.list ?_
  refine E.GL.run rfl rfl rfl (E.Runs.move rfl rfl) ?_
  refine E.GL.run rfl rfl rfl (E.Runs.fieldAddr rfl rfl hu26 rfl (by assumption) rfl) ?_
  refine E.GL.run rfl rfl rfl (E.Runs.load1 rfl rfl hu24 rfl (by first | assumption | exact E.blkc (by assumption) rfl | exact pw_cell_below L (by assumption))) ?_
  refine E.GL.run rfl rfl rfl (E.Runs.len rfl rfl hu24) ?_
  refine E.GL.cmp rfl rfl rfl (fun _ h => (E.Runs.lss rfl rfl rfl h)) (fun h11 => ?_) (fun h11 => ?_)
  · obtain ⟨x, hx⟩ := get_ex (show i < V.ds.length by omega)
    obtain ⟨ad, eA, X⟩ := deal_at hV.ds hx
    refine E.GL.done ?_
    refine E.QG.code ?_
    refine E.CG.cond_t rfl ?_
    refine E.CG.skip ?_
    refine E.QG.code ?_
    refine E.CG.seq ?_
    refine E.CG.block ?_
    refine E.CG.seq ?_
    refine E.CG.heldH (none) (by kernel_rfl) fun v5 lD hh => ?_
    replace b2 := blk_below b2 lD
    replace R5 := Kd.R_below R5 lD
    replace L := below_step L lD
    clear lD
    have s_b2 := b2
    have s_L := L
    refine E.GH.take (i := 0) rfl (by kernel_rfl) (by kernel_rfl) (by kernel_rfl) (by intro c a d v w h; first | (cases d <;> exact h) | exact nomatch (show _ ∧ _ from h).1) rfl rfl rfl (fun w' hS => (E.Runs.loads (cs := [.int .i64 V.d, .slice m.A V.rs.length m.a, .int .i64 V.h, .slice m.B V.fs.length m.b, .slice m.C V.ds.length m.c]) rfl rfl hu26 rfl info26s (blk_cells (blk_grown s_b2 hS E.nen)))) ?_
    refine E.GH.take (i := 1) rfl (by kernel_rfl) (by kernel_rfl) (by kernel_rfl) (by intro c a d v w h; first | (cases d <;> exact h) | exact nomatch (show _ ∧ _ from h).1) rfl rfl rfl (fun w' hS => (E.Runs.move rfl rfl)) ?_
    refine E.GH.take (i := 2) rfl (by kernel_rfl) (by kernel_rfl) (by kernel_rfl) (by intro c a d v w h; first | (cases d <;> exact h) | exact nomatch (show _ ∧ _ from h).1) rfl rfl rfl (fun w' hS => (E.Runs.fieldAddr rfl rfl hu26 rfl (by assumption) rfl)) ?_
    refine E.GH.take (i := 3) rfl (by kernel_rfl) (by kernel_rfl) (by kernel_rfl) (by intro c a d v w h; first | (cases d <;> exact h) | exact nomatch (show _ ∧ _ from h).1) rfl rfl rfl (fun w' hS => (E.Runs.load1 rfl rfl hu24 rfl (by first | exact E.keeps hS (E.blkc (by assumption) rfl) (by first | exact E.nen | exact E.nes (by assumption) | exact E.nes (Ne.symm (by assumption))) | exact pw_cell_below (below_step s_L (E.belowG hS)) (by assumption)))) ?_
    refine E.GH.take (i := 4) rfl (by kernel_rfl) (by kernel_rfl) (by kernel_rfl) (by intro c a d v w h; first | (cases d <;> exact h) | exact nomatch (show _ ∧ _ from h).1) rfl rfl rfl (fun w' hS => (E.Runs.move rfl rfl)) ?_
    refine E.GH.take (i := 5) rfl (by kernel_rfl) (by kernel_rfl) (by kernel_rfl) (by intro c a d v w h; first | (cases d <;> exact h) | exact nomatch (show _ ∧ _ from h).1) rfl rfl rfl (fun w' hS => (E.Runs.indexAddrA (i := i) rfl rfl rfl hu24 z45 o45 (by omega) eA rfl)) ?_
    refine E.GH.take (i := 6) rfl (by kernel_rfl) (by kernel_rfl) (by kernel_rfl) (by intro c a d v w h; first | (cases d <;> exact h) | exact nomatch (show _ ∧ _ from h).1) rfl rfl rfl (fun w' hS => (E.Runs.loads (cs := [.int .i64 x.f0, .int .i64 x.f1, .int .i64 x.f2, .int .i64 x.f3, .int .i64 x.f4, .int .i64 x.f5, .int .i64 x.f6, .int .i64 x.f7]) rfl rfl hu45 rfl info45s (fun j v hv => pw_cell_below (below_step s_L (E.belowG hS)) (X j v hv)))) ?_
    by_cases h21 : Keep V x p
    · refine E.GH.one (i := 7) (by kernel_rfl) rfl ?_
      refine E.GO.st rfl rfl rfl (E.ST.call rfl ent68 (E.evc rfl (E.evc rfl (E.evc rfl E.evn))) ((isKept_r V m x p A c _ ok.s (hV.below L) (ok.ds x (mem_of hx)) (Kd.C_below hp L) hP.1 true (iff_of_true rfl h21)).mono ?_))
      rintro e w21 ⟨rfl, l21⟩
      refine ⟨_, rfl, hh.trans (E.gbB l21), ?_⟩
      replace hh := hh.trans (E.gbB l21)
      replace b2 := blk_below b2 l21
      replace R5 := Kd.R_below R5 l21
      replace L := below_step L l21
      refine E.GH.take (i := 8) rfl (by kernel_rfl) (by kernel_rfl) (by kernel_rfl) (by intro c a d v w h; first | (cases d <;> exact h) | exact nomatch (show _ ∧ _ from h).1) rfl rfl rfl (fun w' hS => (E.Runs.not rfl rfl)) ?_
      refine E.GH.done (by kernel_rfl) ?_
      refine E.QG.code ?_
      refine E.CG.cond_f rfl ?_
      refine E.CG.skip ?_
      refine E.QG.block_normal ?_
      refine E.QG.code ?_
      refine E.CG.list ?_
      refine E.GL.run rfl rfl rfl (E.Runs.move rfl rfl) ?_
      refine E.GL.run rfl rfl rfl (E.Runs.add rfl rfl rfl (IntWalk.i64_in _ (by omega))) ?_
      refine E.GL.run rfl rfl rfl (E.Runs.assign rfl rfl) ?_
      refine E.GL.done ?_
      exact E.QG.round2 (d := .slice none 0 0) (i + 1) _ (E.subc rfl (E.subc rfl (E.subc rfl (E.subc rfl E.subn)))) (by first | exact ⟨by omega, by rw [brk_yes hx h21]; exact R5, b2, L⟩ | exact ⟨by omega, by rw [brk_no hx h21]; exact r26, b2, L⟩ | fail) (by omega)
    · refine E.GH.one (i := 7) (by kernel_rfl) rfl ?_
      refine E.GO.st rfl rfl rfl (E.ST.call rfl ent68 (E.evc rfl (E.evc rfl (E.evc rfl E.evn))) ((isKept_r V m x p A c _ ok.s (hV.below L) (ok.ds x (mem_of hx)) (Kd.C_below hp L) hP.1 false (iff_of_false Bool.false_ne_true h21)).mono ?_))
      rintro e w21 ⟨rfl, l21⟩
      refine ⟨_, rfl, hh.trans (E.gbB l21), ?_⟩
      replace hh := hh.trans (E.gbB l21)
      replace b2 := blk_below b2 l21
      replace R5 := Kd.R_below R5 l21
      replace L := below_step L l21
      refine E.GH.take (i := 8) rfl (by kernel_rfl) (by kernel_rfl) (by kernel_rfl) (by intro c a d v w h; first | (cases d <;> exact h) | exact nomatch (show _ ∧ _ from h).1) rfl rfl rfl (fun w' hS => (E.Runs.not rfl rfl)) ?_
      refine E.GH.done (by kernel_rfl) ?_
      refine E.QG.code ?_
      refine E.CG.cond_t rfl ?_
      refine E.CG.list ?_
      refine E.GL.run rfl rfl rfl (E.Runs.move rfl rfl) ?_
      refine E.GL.run rfl rfl rfl (E.Runs.move rfl rfl) ?_
      refine E.GL.st rfl rfl rfl (E.ST.lit rfl (E.epc rfl E.epn) (lit22 _) ?_)
      refine E.GL.st rfl rfl rfl (E.ST.append kI w.heap.size (w0 := w) (s := .tmp 23) (x := .tmp 25) rfl hu22 info3 rfl (by decide) (by decide) (i : Int) rfl rfl rfl (fun _ _ => trivial) R5 L L.size (by have := brk_len V p i; omega) fun u26 w26 r26 k26 gr26 => ?_)
      replace b2 := blk_grown b2 gr26 (Kd.R_ne R5 b2 (by decide))
      replace L := k26
      refine E.GL.run rfl rfl rfl (E.Runs.assign rfl rfl) ?_
      refine E.GL.done ?_
      refine E.QG.block_normal ?_
      refine E.QG.code ?_
      refine E.CG.list ?_
      refine E.GL.run rfl rfl rfl (E.Runs.move rfl rfl) ?_
      refine E.GL.run rfl rfl rfl (E.Runs.add rfl rfl rfl (IntWalk.i64_in _ (by omega))) ?_
      refine E.GL.run rfl rfl rfl (E.Runs.assign rfl rfl) ?_
      refine E.GL.done ?_
      exact E.QG.round2 (d := .slice none 0 0) (i + 1) _ (E.subc rfl (E.subc rfl (E.subc rfl (E.subc rfl E.subn)))) (by first | exact ⟨by omega, by rw [brk_yes hx h21]; exact R5, b2, L⟩ | exact ⟨by omega, by rw [brk_no hx h21]; exact r26, b2, L⟩ | fail) (by omega)
  · obtain rfl : i = V.ds.length := by omega
    refine E.GL.done ?_
    refine E.QG.code ?_
    refine E.CG.cond_f rfl ?_
    refine E.CG.exit ?_
    refine E.QG.pass_exit ?_
    refine E.QG.pass_exit ?_
    refine E.QG.block_here ?_
    refine E.QG.code ?_
    refine E.CG.seq ?_
    refine E.CG.list ?_
    refine E.GL.run rfl rfl rfl (E.Runs.move rfl rfl) ?_
    refine E.GL.run rfl rfl rfl (E.Runs.assign rfl rfl) ?_
    refine E.GL.done ?_
    refine E.QG.code ?_
    refine E.CG.ret ?_
    exact E.QG.result rfl rfl ⟨_, rfl, R5, L⟩

set_option maxRecDepth 100000 in
set_option maxHeartbeats 8000000 in

theorem takings_r (V : Wk) (m : Wa) (p : List Int) (A : Option Addr) (c : Nat) (w : World) (ok : Shp V) (hV : WM w V m) (hp : Kd.C kI w A p.length p) (hP : IsP V p) :
    Calls Try.prog 54 #[wv V m, .slice A p.length c] w fun e w' => e = .returned (.int .i64 (takes V p)) ∧ Below w.heap.size w w' := by
  have hu3 := Try.underlying3
  have hu22 := Try.underlying22
  have hu23 := Try.underlying23
  have hu26 := Try.underlying26
  have hu49 := Try.underlying49
  obtain ⟨z3, o3⟩ := info_some info3s (by decide)
  obtain ⟨z22, o22⟩ := info_some info22s (by decide)
  obtain ⟨z23, o23⟩ := info_some info23s (by decide)
  obtain ⟨z49, o49⟩ := info_some info49s (by decide)
  obtain ⟨_, hsl8, hsl1⟩ := slots_nat ok
  have hpl := hP.1
  have okd := ok.d
  have okh := ok.h
  have okr := ok.r
  have okf := ok.f
  have tk0 := slN_zero V
  refine E.enter (N := 64) Try.func54 rfl Try.ntmps54 (args := [wv V m, .slice A p.length c]) (by simp) ?_
  have L := Below.refl w.heap.size w
  refine E.CG.seq ?_
  refine E.CG.list ?_
  refine E.GL.st rfl rfl rfl (E.ST.box rfl rfl fun g2 w2 e2 b2 l2 => ?_)
  have h2_L : w.heap.size ≤ g2 := by rw [e2]; exact L.size
  replace L := below_step L l2
  refine E.GL.run rfl rfl rfl (E.Runs.assign rfl rfl) ?_
  refine E.GL.done ?_
  refine E.QG.code ?_
  refine E.CG.seq ?_
  refine E.CG.list ?_
  refine E.GL.run rfl rfl rfl (E.Runs.assign rfl rfl) ?_
  refine E.GL.done ?_
  refine E.QG.code ?_
  refine E.CG.seq ?_
  refine E.CG.seq ?_
  refine E.CG.list ?_
  refine E.GL.run rfl rfl rfl (E.Runs.assign rfl rfl) ?_
  refine E.GL.done ?_
  refine E.QG.code ?_
  refine E.CG.block ?_
  have s3_b2 := b2
  have s3_L := L
  refine E.CG.loop (fun (i : Nat) => [(1, .slice A p.length c), (2, .pointer (some ⟨g2, 0, none⟩)), (5, .int .i64 (tkS V p (slN V i 0 0))), (6, .int .i64 ((i : Nat) : Int))]) (fun i w' => i ≤ V.d.toNat ∧ w'.heap[g2]? = some (.cells #[.int .i64 V.d, .slice m.A V.rs.length m.a, .int .i64 V.h, .slice m.B V.fs.length m.b, .slice m.C V.ds.length m.c] 26 (0, 0)) ∧ Below w.heap.size w w') (fun i => V.d.toNat - i) 0 (E.subc rfl (E.subc rfl (E.subc (congrArg (fun t => some (Value.int .i64 t)) (show (0 : Int) = tkS V p (slN V 0 0 0) from by rw [tk0]; rfl)) (E.subc rfl E.subn)))) ⟨Nat.zero_le _, b2, L⟩ ?_
  rintro i w3 ⟨hi, b2, L⟩
  refine E.CG.seq ?_
  refine E.CG.seq ?_
  refine E.CG.list ?_
  refine E.GL.run rfl rfl rfl (E.Runs.move rfl rfl) ?_
  refine E.GL.run rfl rfl rfl (E.Runs.fieldAddr rfl rfl hu26 rfl (by assumption) rfl) ?_
  refine E.GL.run rfl rfl rfl (E.Runs.load rfl rfl hu3 (by first | assumption | exact E.blkc (by assumption) rfl | exact pw_cell_below L (by assumption))) ?_
  refine E.GL.cmp rfl rfl rfl (fun _ h => (E.Runs.lss rfl rfl rfl h)) (fun h13 => ?_) (fun h13 => ?_)
  · refine E.GL.done ?_
    refine E.QG.code ?_
    refine E.CG.cond_t rfl ?_
    refine E.CG.skip ?_
    refine E.QG.code ?_
    refine E.CG.seq ?_
    refine E.CG.block ?_
    refine E.CG.seq ?_
    refine E.CG.list ?_
    refine E.GL.run rfl rfl rfl (E.Runs.assign rfl rfl) ?_
    refine E.GL.done ?_
    refine E.QG.code ?_
    refine E.CG.block ?_
    have s6_b2 := b2
    have s6_L := L
    refine E.CG.loop (fun (j : Nat) => [(1, .slice A p.length c), (2, .pointer (some ⟨g2, 0, none⟩)), (5, .int .i64 (tkS V p (slN V i j 0))), (6, .int .i64 ((i : Nat) : Int)), (7, .int .i64 ((j : Nat) : Int))]) (fun j w' => j ≤ V.rs.length ∧ w'.heap[g2]? = some (.cells #[.int .i64 V.d, .slice m.A V.rs.length m.a, .int .i64 V.h, .slice m.B V.fs.length m.b, .slice m.C V.ds.length m.c] 26 (0, 0)) ∧ Below w.heap.size w w') (fun j => V.rs.length - j) 0 (E.subc rfl (E.subc rfl (E.subc rfl (E.subc rfl (E.subc rfl E.subn))))) ⟨Nat.zero_le _, b2, L⟩ ?_
    rintro j w6 ⟨hj, b2, L⟩
    refine E.CG.seq ?_
    refine E.CG.seq ?_
    refine E.CG.list ?_
    refine E.GL.run rfl rfl rfl (E.Runs.move rfl rfl) ?_
    refine E.GL.run rfl rfl rfl (E.Runs.fieldAddr rfl rfl hu26 rfl (by assumption) rfl) ?_
    refine E.GL.run rfl rfl rfl (E.Runs.load1 rfl rfl hu22 rfl (by first | assumption | exact E.blkc (by assumption) rfl | exact pw_cell_below L (by assumption))) ?_
    refine E.GL.run rfl rfl rfl (E.Runs.len rfl rfl hu22) ?_
    refine E.GL.cmp rfl rfl rfl (fun _ h => (E.Runs.lss rfl rfl rfl h)) (fun h20 => ?_) (fun h20 => ?_)
    · refine E.GL.done ?_
      refine E.QG.code ?_
      refine E.CG.cond_t rfl ?_
      refine E.CG.skip ?_
      refine E.QG.code ?_
      refine E.CG.seq ?_
      refine E.CG.block ?_
      refine E.CG.seq ?_
      refine E.CG.list ?_
      refine E.GL.run rfl rfl rfl (E.Runs.assign rfl rfl) ?_
      refine E.GL.done ?_
      refine E.QG.code ?_
      refine E.CG.block ?_
      have s9_b2 := b2
      have s9_L := L
      refine E.CG.loop (fun (k : Nat) => [(1, .slice A p.length c), (2, .pointer (some ⟨g2, 0, none⟩)), (5, .int .i64 (tkS V p (slN V i j k))), (6, .int .i64 ((i : Nat) : Int)), (7, .int .i64 ((j : Nat) : Int)), (8, .int .i64 ((k : Nat) : Int))]) (fun k w' => k ≤ V.h.toNat ∧ w'.heap[g2]? = some (.cells #[.int .i64 V.d, .slice m.A V.rs.length m.a, .int .i64 V.h, .slice m.B V.fs.length m.b, .slice m.C V.ds.length m.c] 26 (0, 0)) ∧ Below w.heap.size w w') (fun k => V.h.toNat - k) 0 (E.subc rfl (E.subc rfl (E.subc rfl (E.subc rfl (E.subc rfl (E.subc rfl E.subn)))))) ⟨Nat.zero_le _, b2, L⟩ ?_
      rintro k w9 ⟨hk, b2, L⟩
      refine E.CG.seq ?_
      refine E.CG.seq ?_
      refine E.CG.list ?_
      refine E.GL.run rfl rfl rfl (E.Runs.move rfl rfl) ?_
      refine E.GL.run rfl rfl rfl (E.Runs.fieldAddr rfl rfl hu26 rfl (by assumption) rfl) ?_
      refine E.GL.run rfl rfl rfl (E.Runs.load rfl rfl hu3 (by first | assumption | exact E.blkc (by assumption) rfl | exact pw_cell_below L (by assumption))) ?_
      refine E.GL.cmp rfl rfl rfl (fun _ h => (E.Runs.lss rfl rfl rfl h)) (fun h26 => ?_) (fun h26 => ?_)
      · have hlt := slN_lt (V := V) (day := i) (r := j) (h := k) (by omega) (by omega) (by omega)
        obtain ⟨y, hy⟩ := get_ex (show slN V i j k < p.length by omega)
        obtain ⟨ap, eP, XP⟩ := int_at hp hy
        have hyr := hP.2 y (mem_of hy)
        have htk := tkS_small ok hP (i := slN V i j k) (by omega)
        obtain ⟨hm1, hm2⟩ := slN_mod (V := V) (day := i) (r := j) (h := k) (by omega) (by omega)
        refine E.GL.done ?_
        refine E.QG.code ?_
        refine E.CG.cond_t rfl ?_
        refine E.CG.skip ?_
        refine E.QG.code ?_
        refine E.CG.seq ?_
        refine E.CG.block ?_
        refine E.CG.seq ?_
        refine E.CG.list ?_
        refine E.GL.run rfl rfl rfl (E.Runs.move rfl rfl) ?_
        refine E.GL.run rfl rfl rfl (E.Runs.loads (cs := [.int .i64 V.d, .slice m.A V.rs.length m.a, .int .i64 V.h, .slice m.B V.fs.length m.b, .slice m.C V.ds.length m.c]) rfl rfl hu26 rfl info26s (blk_cells b2)) ?_
        refine E.GL.run rfl rfl rfl (E.Runs.move rfl rfl) ?_
        refine E.GL.run rfl rfl rfl (E.Runs.move rfl rfl) ?_
        refine E.GL.run rfl rfl rfl (E.Runs.move rfl rfl) ?_
        refine E.GL.st rfl rfl rfl (E.ST.call rfl ent33 (E.evc rfl (E.evc rfl (E.evc rfl (E.evc rfl E.evn)))) ((slot_r V m i j k _ ok (by omega) (by omega) (by omega)).mono ?_))
        rintro e w34 ⟨rfl, l34⟩
        refine ⟨_, rfl, ?_⟩
        replace b2 := blk_below b2 l34
        replace L := below_step L l34
        refine E.GL.run rfl rfl rfl (E.Runs.indexAddrA (i := slN V i j k) rfl rfl rfl hu22 z3 o3 (by omega) eP rfl) ?_
        refine E.GL.run rfl rfl rfl (E.Runs.load rfl rfl hu3 (pw_cell_below L XP)) ?_
        refine E.GL.run rfl rfl rfl (E.Runs.assign rfl rfl) ?_
        refine E.GL.done ?_
        refine E.QG.code ?_
        refine E.CG.seq ?_
        refine E.CG.list ?_
        refine E.GL.run rfl rfl rfl (E.Runs.move rfl rfl) ?_
        refine E.GL.cmpn rfl rfl rfl (fun _ h => (E.Runs.neq rfl rfl rfl h)) (fun h38 => ?_) (fun h38 => ?_)
        · obtain ⟨q, rfl⟩ : ∃ q : Nat, y = q := ⟨y.toNat, by omega⟩
          obtain ⟨f, hf⟩ := get_ex (show q < V.fs.length by omega)
          obtain ⟨af, a0, k0, eF, _, hf1, XF⟩ := film_at hV.fs hf
          obtain ⟨⟨p0, p1⟩, hl, hcr⟩ := ok.fs f (mem_of hf)
          obtain ⟨a, ha⟩ := get_ex (show k < f.f1.length by omega)
          obtain ⟨ac, eC, XC⟩ := int_at hf1 ha
          obtain ⟨b, hb⟩ := get_ex (show j < V.rs.length by omega)
          obtain ⟨ab, eR, XR⟩ := int_at hV.rs hb
          have hra := hcr a (mem_of ha)
          have hrb := ok.rs b (mem_of hb)
          have hmn : 0 ≤ mn a b ∧ mn a b ≤ 999 := by unfold mn; split <;> omega
          have hml := mul_small p0 p1 hmn.1 hmn.2
          have htf := tk_film hy (by omega) hf (by rw [hm1]; exact ha) (by rw [hm2]; exact hb)
          refine E.GL.done ?_
          refine E.QG.code ?_
          refine E.CG.cond_t rfl ?_
          refine E.CG.quietF (by kernel_rfl) rfl (by kernel_rfl) (by kernel_rfl) ?_
          refine E.GQ.run rfl rfl rfl (E.Runs.move rfl rfl) ?_
          refine E.GQ.run rfl rfl rfl (E.Runs.fieldAddr rfl rfl hu26 rfl (by assumption) rfl) ?_
          refine E.GQ.run rfl rfl rfl (E.Runs.load1 rfl rfl hu23 rfl (by first | assumption | exact E.blkc (by assumption) rfl | exact pw_cell_below L (by assumption))) ?_
          refine E.GQ.run rfl rfl rfl (E.Runs.move rfl rfl) ?_
          refine E.GQ.run rfl rfl rfl (E.Runs.indexAddrA (i := q) rfl rfl rfl hu23 z49 o49 (by omega) eF rfl) ?_
          refine E.GQ.run rfl rfl rfl (E.Runs.fieldAddr rfl rfl hu49 rfl (by assumption) rfl) ?_
          refine E.GQ.run rfl rfl rfl (E.Runs.load rfl rfl hu3 (show _ = some (Value.int .i64 f.f0) from pw_cell_below L (XF 0 _ rfl))) ?_
          refine E.GQ.run rfl rfl rfl (E.Runs.fieldAddr rfl rfl hu26 rfl (by assumption) rfl) ?_
          refine E.GQ.run rfl rfl rfl (E.Runs.load1 rfl rfl hu23 rfl (by first | assumption | exact E.blkc (by assumption) rfl | exact pw_cell_below L (by assumption))) ?_
          refine E.GQ.run rfl rfl rfl (E.Runs.move rfl rfl) ?_
          refine E.GQ.run rfl rfl rfl (E.Runs.indexAddrA (i := q) rfl rfl rfl hu23 z49 o49 (by omega) eF rfl) ?_
          refine E.GQ.run rfl rfl rfl (E.Runs.fieldAddr rfl rfl hu49 rfl (by assumption) rfl) ?_
          refine E.GQ.run rfl rfl rfl (E.Runs.load1 rfl rfl hu22 rfl (show _ = some (Value.slice a0 f.f1.length k0) from pw_cell_below L (XF 1 _ rfl))) ?_
          refine E.GQ.run rfl rfl rfl (E.Runs.move rfl rfl) ?_
          refine E.GQ.run rfl rfl rfl (E.Runs.indexAddrA (i := k) rfl rfl rfl hu22 z3 o3 (by omega) eC rfl) ?_
          refine E.GQ.run rfl rfl rfl (E.Runs.load rfl rfl hu3 (pw_cell_below L XC)) ?_
          refine E.GQ.run rfl rfl rfl (E.Runs.fieldAddr rfl rfl hu26 rfl (by assumption) rfl) ?_
          refine E.GQ.run rfl rfl rfl (E.Runs.load1 rfl rfl hu22 rfl (by first | assumption | exact E.blkc (by assumption) rfl | exact pw_cell_below L (by assumption))) ?_
          refine E.GQ.run rfl rfl rfl (E.Runs.move rfl rfl) ?_
          refine E.GQ.run rfl rfl rfl (E.Runs.indexAddrA (i := j) rfl rfl rfl hu22 z3 o3 (by omega) eR rfl) ?_
          refine E.GQ.run rfl rfl rfl (E.Runs.load rfl rfl hu3 (pw_cell_below L XR)) ?_
          refine E.GQ.run rfl rfl rfl (E.Runs.min rfl rfl rfl rfl) ?_
          refine E.GQ.run rfl rfl rfl (E.Runs.mul rfl rfl rfl (IntWalk.i64_in _ (by omega))) ?_
          refine E.GQ.run rfl rfl rfl (E.Runs.add rfl rfl rfl (IntWalk.i64_in _ (by omega))) ?_
          refine E.GQ.run rfl rfl rfl (E.Runs.assign rfl rfl) ?_
          refine E.GQ.doneB fun v13 lD => ?_
          replace b2 := blk_below b2 lD
          replace L := below_step L lD
          have lD13 := lD
          clear lD
          refine E.QG.block_normal ?_
          refine E.QG.code ?_
          refine E.CG.list ?_
          refine E.GL.run rfl rfl rfl (E.Runs.move rfl rfl) ?_
          refine E.GL.run rfl rfl rfl (E.Runs.add rfl rfl rfl (IntWalk.i64_in _ (by omega))) ?_
          refine E.GL.run rfl rfl rfl (E.Runs.assign rfl rfl) ?_
          refine E.GL.done ?_
          exact E.QG.round (k + 1) (E.subc rfl (E.subc rfl (E.subc (by first | (rw [slN_succ, tkS, htf]; rfl) | (rw [slN_succ, tkS, tk_dark (by rw [hy, show y = -1 by omega]), Int.add_zero]; rfl)) (E.subc rfl (E.subc rfl (E.subc rfl E.subn)))))) ⟨by omega, b2, L⟩ (by omega)
        · refine E.GL.done ?_
          refine E.QG.code ?_
          refine E.CG.cond_f rfl ?_
          refine E.CG.skip ?_
          refine E.QG.block_normal ?_
          refine E.QG.code ?_
          refine E.CG.list ?_
          refine E.GL.run rfl rfl rfl (E.Runs.move rfl rfl) ?_
          refine E.GL.run rfl rfl rfl (E.Runs.add rfl rfl rfl (IntWalk.i64_in _ (by omega))) ?_
          refine E.GL.run rfl rfl rfl (E.Runs.assign rfl rfl) ?_
          refine E.GL.done ?_
          exact E.QG.round (k + 1) (E.subc rfl (E.subc rfl (E.subc (by first | (rw [slN_succ, tkS, htf]; rfl) | (rw [slN_succ, tkS, tk_dark (by rw [hy, show y = -1 by omega]), Int.add_zero]; rfl)) (E.subc rfl (E.subc rfl (E.subc rfl E.subn)))))) ⟨by omega, b2, L⟩ (by omega)
      · obtain rfl : k = V.h.toNat := by omega
        refine E.GL.done ?_
        refine E.QG.code ?_
        refine E.CG.cond_f rfl ?_
        refine E.CG.exit ?_
        refine E.QG.pass_exit ?_
        refine E.QG.pass_exit ?_
        refine E.QG.block_here ?_
        refine E.QG.block_normal ?_
        refine E.QG.code ?_
        refine E.CG.list ?_
        refine E.GL.run rfl rfl rfl (E.Runs.move rfl rfl) ?_
        refine E.GL.run rfl rfl rfl (E.Runs.add rfl rfl rfl (IntWalk.i64_in _ (by omega))) ?_
        refine E.GL.run rfl rfl rfl (E.Runs.assign rfl rfl) ?_
        refine E.GL.done ?_
        exact E.QG.round (j + 1) (E.subc rfl (E.subc rfl (E.subc (congrArg (fun t => some (Value.int .i64 t)) (show tkS V p (slN V i j V.h.toNat) = tkS V p (slN V i (j + 1) 0) from by rw [slN_hour])) (E.subc rfl (E.subc rfl E.subn))))) ⟨by omega, b2, L⟩ (by omega)
    · obtain rfl : j = V.rs.length := by omega
      refine E.GL.done ?_
      refine E.QG.code ?_
      refine E.CG.cond_f rfl ?_
      refine E.CG.exit ?_
      refine E.QG.pass_exit ?_
      refine E.QG.pass_exit ?_
      refine E.QG.block_here ?_
      refine E.QG.block_normal ?_
      refine E.QG.code ?_
      refine E.CG.list ?_
      refine E.GL.run rfl rfl rfl (E.Runs.move rfl rfl) ?_
      refine E.GL.run rfl rfl rfl (E.Runs.add rfl rfl rfl (IntWalk.i64_in _ (by omega))) ?_
      refine E.GL.run rfl rfl rfl (E.Runs.assign rfl rfl) ?_
      refine E.GL.done ?_
      exact E.QG.round (i + 1) (E.subc rfl (E.subc rfl (E.subc (congrArg (fun t => some (Value.int .i64 t)) (show tkS V p (slN V i V.rs.length 0) = tkS V p (slN V (i + 1) 0 0) from by rw [slN_room])) (E.subc rfl E.subn)))) ⟨by omega, b2, L⟩ (by omega)
  · obtain rfl : i = V.d.toNat := by omega
    refine E.GL.done ?_
    refine E.QG.code ?_
    refine E.CG.cond_f rfl ?_
    refine E.CG.exit ?_
    refine E.QG.pass_exit ?_
    refine E.QG.pass_exit ?_
    refine E.QG.block_here ?_
    refine E.QG.code ?_
    refine E.CG.seq ?_
    refine E.CG.list ?_
    refine E.GL.run rfl rfl rfl (E.Runs.move rfl rfl) ?_
    refine E.GL.run rfl rfl rfl (E.Runs.assign rfl rfl) ?_
    refine E.GL.done ?_
    refine E.QG.code ?_
    refine E.CG.ret ?_
    exact E.QG.result rfl rfl ⟨by rw [slN_end, ← hpl]; rfl, L⟩

end Go.Proofs.Ytdiambcjghlffaa.T
namespace Go.Proofs.Ytdiambcjghlffaa.E
open Go.RowKit Go.Proofs.YtdiambcjghlffaaW.PrintWords Go.Proofs.YtdiambcjghlffaaW.PrintMore
open Go.Proofs.Ytdiambcjghlffaa.T
set_option linter.unusedVariables false
set_option linter.unusedSimpArgs false
section
variable {P : Program} {Q : Exit → Act → World → Prop} {N : Nat} {w : World} {env : Env} {o : Oper} {K : Value → World → Prop}
theorem ST.makeC {t e : TypeId} {x y : Operand} {z : Value} {m bytes : Nat} (ho : o.op = .makeSlice t x y) (hx : Ev env x (.int .i64 (m : Int))) (hy : Ev env y (.int .i64 (m : Int))) (ht : P.underlying t = some (.slice e)) (hinfo : (P.info? e).map (fun i => (i.zero, i.size, i.bytes)) = some (some z, 1, bytes)) (hz : z.cells = #[z]) (hb : bytes ≤ 64) (hm : m ≤ 1000000)
    (h : ∀ g w1, g = w.heap.size → w1.heap[g]? = some (.cells (List.replicate m z).toArray e (0, 0)) → Below w.heap.size w w1 → K (.slice (some ⟨g, 0, none⟩) m m) w1) : ST P Q N env w o K := by
  obtain ⟨i0, hi, hzz⟩ := Option.map_eq_some_iff.1 hinfo
  simp only [Prod.mk.injEq] at hzz
  obtain ⟨hz0, hz1, hz2⟩ := hzz
  have hmb : bytes * m ≤ 64 * 1000000 := Nat.mul_le_mul hb hm
  have hr := run_make (P := P) w t e i0 z ht hi hz0 .i64 .i64 (m : Int) (m : Int) (by omega) (by omega) (by rw [hz2]; omega) (by omega)
  simp only [Int.toNat_natCast] at hr
  rw [hz1, Nat.mul_one, hz] at hr
  refine ST.ev (v := .slice (some ⟨w.heap.size, 0, none⟩) m m) (w1 := w.alloc (.cells (madeCells #[z] m) e (0, 0))) (fun a ha => ?_) (h _ _ rfl ?_ (below_alloc (Below.refl _ _) _))
  · unfold execOp; rw [ho]; simp only []; rw [ha.eval hx, ha.eval hy]
    simp [go_sem, hr]
  · have : madeCells #[z] m = (List.replicate m z).toArray := by
      apply Array.ext
      · simp [size_madeCells]
      · intro j h1 h2
        simp [madeCells, Nat.mod_one]
    rw [← this]
    exact blk_new w _
theorem u64_in (v : Int) (h : 0 ≤ v ∧ v ≤ 18446744073709551615) : IntKind.u64.wrap v = v := by
  simp [IntKind.wrap, IntKind.bits, IntKind.signed]
  omega
theorem Runs.low32 {t u : TypeId} {x y : Operand} {a : Nat} (ho : o.op = .binOp .and t x y u) (hx : Ev env x (.int .u64 a)) (hy : Ev env y (.int .u64 4294967295)) (ha : a < 2 ^ 32) : Runs P N env o w (.int .u64 a) := by
  have h := Runs.and (P := P) (N := N) (w := w) (b := 4294967295) (.inl rfl) ho hx hy ha (by decide)
  have e : a &&& 4294967295 = a := by
    have := Nat.and_two_pow_sub_one_eq_mod a 32
    rw [show 2 ^ 32 - 1 = 4294967295 from rfl] at this
    rw [this, Nat.mod_eq_of_lt ha]
  rwa [e] at h
theorem Runs.hi32 {t u : TypeId} {x y : Operand} {k' : IntKind} {a : Nat} (ho : o.op = .binOp .shr t x y u) (hx : Ev env x (.int .u64 a)) (hy : Ev env y (.int k' 32)) (ha : a < 2 ^ 32) : Runs P N env o w (.int .u64 0) := by
  have h := Runs.shr (P := P) (N := N) (w := w) (n := 32) (.inl rfl) ho hx hy (by decide)
  rw [Nat.div_eq_of_lt ha] at h
  exact h
end
end Go.Proofs.Ytdiambcjghlffaa.E
namespace Go.Proofs.Ytdiambcjghlffaa.T
open Go.RowKit Go.Proofs.YtdiambcjghlffaaW.PrintWords Go.Proofs.YtdiambcjghlffaaW.PrintMore
open Go.Proofs.Ytdiambcjghlffaa.P
set_option linter.unusedVariables false
set_option linter.unusedSimpArgs false

/-- The first so many slots are dark. -/
def rp (m n : Nat) : List Value := List.replicate m (.int .i64 (-1)) ++ List.replicate (n - m) (.int .i64 0)
theorem rp_zero (n : Nat) : rp 0 n = List.replicate n (.int .i64 0) := by simp [rp]
theorem rp_full (n : Nat) : rp n n = (List.replicate n (-1 : Int)).map (Value.int .i64) := by simp [rp]
theorem rp_len {m n : Nat} (h : m ≤ n) : (rp m n).length = n := by simp [rp]; omega
theorem rp_copy {m n k : Nat} (h : m + k ≤ n) : (rp m n).take m ++ (List.replicate k (.int .i64 (-1)) ++ (rp m n).drop (m + (List.replicate k (Value.int .i64 (-1))).length)) = rp (m + k) n := by
  unfold rp
  rw [List.length_replicate, List.take_left' (by simp), List.drop_append, List.length_replicate, List.drop_eq_nil_of_le (by simp), List.nil_append, Nat.add_sub_cancel_left, List.drop_replicate, ← List.append_assoc, List.replicate_append_replicate, Nat.sub_sub]
theorem rp_at {m n j : Nat} (h : j < m) : (rp m n)[j]? = some (.int .i64 (-1)) := by
  unfold rp
  rw [List.getElem?_append_left (by simpa using h)]
  simp [h]
set_option maxRecDepth 100000 in
set_option maxHeartbeats 8000000 in

theorem mul64_calls (x y : Nat) (w : World) (hx : x < 65536) (hy : y < 65536) :
    Calls Try.prog 85 #[.int .u64 (x : Int), .int .u64 (y : Int)] w fun e w' => e = .returned (.tuple #[.int .u64 0, .int .u64 ((x * y : Nat) : Int)]) ∧ Below w.heap.size w w' := by
  have hxy : x * y ≤ 65535 * 65535 := Nat.mul_le_mul (by omega) (by omega)
  have hxy2 : x * y < 2 ^ 32 := by omega
  refine E.enter (N := 51) Try.func85 rfl Try.ntmps85 (args := [.int .u64 (x : Int), .int .u64 (y : Int)]) (by simp) ?_
  have L := Below.refl w.heap.size w
  refine E.CG.seq ?_
  refine E.CG.list ?_
  refine E.GL.run rfl rfl rfl (E.Runs.assign rfl rfl) ?_
  refine E.GL.run rfl rfl rfl (E.Runs.assign rfl rfl) ?_
  refine E.GL.done ?_
  refine E.QG.code ?_
  refine E.CG.seq ?_
  refine E.CG.list ?_
  refine E.GL.run rfl rfl rfl (E.Runs.move rfl rfl) ?_
  refine E.GL.run rfl rfl rfl (E.Runs.low32 (a := x) rfl rfl rfl (by omega)) ?_
  refine E.GL.run rfl rfl rfl (E.Runs.assign rfl rfl) ?_
  refine E.GL.done ?_
  refine E.QG.code ?_
  refine E.CG.seq ?_
  refine E.CG.list ?_
  refine E.GL.run rfl rfl rfl (E.Runs.move rfl rfl) ?_
  refine E.GL.run rfl rfl rfl (E.Runs.hi32 (a := x) rfl rfl rfl (by omega)) ?_
  refine E.GL.run rfl rfl rfl (E.Runs.assign rfl rfl) ?_
  refine E.GL.done ?_
  refine E.QG.code ?_
  refine E.CG.seq ?_
  refine E.CG.list ?_
  refine E.GL.run rfl rfl rfl (E.Runs.move rfl rfl) ?_
  refine E.GL.run rfl rfl rfl (E.Runs.low32 (a := y) rfl rfl rfl (by omega)) ?_
  refine E.GL.run rfl rfl rfl (E.Runs.assign rfl rfl) ?_
  refine E.GL.done ?_
  refine E.QG.code ?_
  refine E.CG.seq ?_
  refine E.CG.list ?_
  refine E.GL.run rfl rfl rfl (E.Runs.move rfl rfl) ?_
  refine E.GL.run rfl rfl rfl (E.Runs.hi32 (a := y) rfl rfl rfl (by omega)) ?_
  refine E.GL.run rfl rfl rfl (E.Runs.assign rfl rfl) ?_
  refine E.GL.done ?_
  refine E.QG.code ?_
  refine E.CG.seq ?_
  refine E.CG.list ?_
  refine E.GL.run rfl rfl rfl (E.Runs.move rfl rfl) ?_
  refine E.GL.run rfl rfl rfl (E.Runs.move rfl rfl) ?_
  refine E.GL.run rfl rfl rfl (E.Runs.mul rfl rfl rfl (show _ = ((x * y : Nat) : Int) from by rw [← Int.natCast_mul]; exact E.u64_in _ (by omega))) ?_
  refine E.GL.run rfl rfl rfl (E.Runs.assign rfl rfl) ?_
  refine E.GL.done ?_
  refine E.QG.code ?_
  refine E.CG.seq ?_
  refine E.CG.list ?_
  refine E.GL.run rfl rfl rfl (E.Runs.move rfl rfl) ?_
  refine E.GL.run rfl rfl rfl (E.Runs.move rfl rfl) ?_
  refine E.GL.run rfl rfl rfl (E.Runs.mul rfl rfl rfl (show _ = (0 : Int) from by rw [Int.zero_mul]; decide)) ?_
  refine E.GL.run rfl rfl rfl (E.Runs.move rfl rfl) ?_
  refine E.GL.run rfl rfl rfl (E.Runs.hi32 (a := x * y) rfl rfl rfl hxy2) ?_
  refine E.GL.run rfl rfl rfl (E.Runs.add rfl rfl rfl (show _ = (0 : Int) from by decide)) ?_
  refine E.GL.run rfl rfl rfl (E.Runs.assign rfl rfl) ?_
  refine E.GL.done ?_
  refine E.QG.code ?_
  refine E.CG.seq ?_
  refine E.CG.list ?_
  refine E.GL.run rfl rfl rfl (E.Runs.move rfl rfl) ?_
  refine E.GL.run rfl rfl rfl (E.Runs.low32 (a := 0) rfl rfl rfl (by omega)) ?_
  refine E.GL.run rfl rfl rfl (E.Runs.assign rfl rfl) ?_
  refine E.GL.done ?_
  refine E.QG.code ?_
  refine E.CG.seq ?_
  refine E.CG.list ?_
  refine E.GL.run rfl rfl rfl (E.Runs.move rfl rfl) ?_
  refine E.GL.run rfl rfl rfl (E.Runs.hi32 (a := 0) rfl rfl rfl (by omega)) ?_
  refine E.GL.run rfl rfl rfl (E.Runs.assign rfl rfl) ?_
  refine E.GL.done ?_
  refine E.QG.code ?_
  refine E.CG.seq ?_
  refine E.CG.list ?_
  refine E.GL.run rfl rfl rfl (E.Runs.move rfl rfl) ?_
  refine E.GL.run rfl rfl rfl (E.Runs.move rfl rfl) ?_
  refine E.GL.run rfl rfl rfl (E.Runs.move rfl rfl) ?_
  refine E.GL.run rfl rfl rfl (E.Runs.mul rfl rfl rfl (show _ = (0 : Int) from by rw [Int.mul_zero]; decide)) ?_
  refine E.GL.run rfl rfl rfl (E.Runs.add rfl rfl rfl (show _ = (0 : Int) from by decide)) ?_
  refine E.GL.run rfl rfl rfl (E.Runs.assign rfl rfl) ?_
  refine E.GL.done ?_
  refine E.QG.code ?_
  refine E.CG.seq ?_
  refine E.CG.list ?_
  refine E.GL.run rfl rfl rfl (E.Runs.move rfl rfl) ?_
  refine E.GL.run rfl rfl rfl (E.Runs.move rfl rfl) ?_
  refine E.GL.run rfl rfl rfl (E.Runs.mul rfl rfl rfl (show _ = (0 : Int) from by decide)) ?_
  refine E.GL.run rfl rfl rfl (E.Runs.move rfl rfl) ?_
  refine E.GL.run rfl rfl rfl (E.Runs.add rfl rfl rfl (show _ = (0 : Int) from by decide)) ?_
  refine E.GL.run rfl rfl rfl (E.Runs.move rfl rfl) ?_
  refine E.GL.run rfl rfl rfl (E.Runs.hi32 (a := 0) rfl rfl rfl (by omega)) ?_
  refine E.GL.run rfl rfl rfl (E.Runs.add rfl rfl rfl (show _ = (0 : Int) from by decide)) ?_
  refine E.GL.run rfl rfl rfl (E.Runs.assign rfl rfl) ?_
  refine E.GL.done ?_
  refine E.QG.code ?_
  refine E.CG.seq ?_
  refine E.CG.list ?_
  refine E.GL.run rfl rfl rfl (E.Runs.move rfl rfl) ?_
  refine E.GL.run rfl rfl rfl (E.Runs.move rfl rfl) ?_
  refine E.GL.run rfl rfl rfl (E.Runs.mul rfl rfl rfl (show _ = ((x * y : Nat) : Int) from by rw [← Int.natCast_mul]; exact E.u64_in _ (by omega))) ?_
  refine E.GL.run rfl rfl rfl (E.Runs.assign rfl rfl) ?_
  refine E.GL.done ?_
  refine E.QG.code ?_
  refine E.CG.ret ?_
  exact E.QG.result2 rfl rfl rfl ⟨rfl, L⟩

set_option maxRecDepth 100000 in
set_option maxHeartbeats 8000000 in

theorem mul_calls (x y : Nat) (w : World) (hx : x < 65536) (hy : y < 65536) :
    Calls Try.prog 83 #[.int .u64 (x : Int), .int .u64 (y : Int)] w fun e w' => e = .returned (.tuple #[.int .u64 0, .int .u64 ((x * y : Nat) : Int)]) ∧ Below w.heap.size w w' := by
  refine E.enter (N := 30) Try.func83 rfl Try.ntmps83 (args := [.int .u64 (x : Int), .int .u64 (y : Int)]) (by simp) ?_
  have L := Below.refl w.heap.size w
  refine E.CG.seq ?_
  refine E.CG.list ?_
  refine E.GL.run rfl rfl rfl (E.Runs.assign rfl rfl) ?_
  refine E.GL.run rfl rfl rfl (E.Runs.assign rfl rfl) ?_
  refine E.GL.done ?_
  refine E.QG.code ?_
  refine E.CG.seq ?_
  refine E.CG.cond_f rfl ?_
  refine E.CG.skip ?_
  refine E.QG.code ?_
  refine E.CG.seq ?_
  refine E.CG.list ?_
  refine E.GL.run rfl rfl rfl (E.Runs.move rfl rfl) ?_
  refine E.GL.run rfl rfl rfl (E.Runs.move rfl rfl) ?_
  refine E.GL.st rfl rfl rfl (E.ST.call rfl ent85 (E.evc rfl (E.evc rfl E.evn)) ((mul64_calls x y _ hx hy).mono ?_))
  rintro e w25 ⟨rfl, l25⟩
  refine ⟨_, rfl, ?_⟩
  replace L := below_step L l25
  refine E.GL.run rfl rfl rfl (E.Runs.move rfl rfl) ?_
  refine E.GL.run rfl rfl rfl (E.Runs.extract rfl rfl rfl) ?_
  refine E.GL.run rfl rfl rfl (E.Runs.extract rfl rfl rfl) ?_
  refine E.GL.run rfl rfl rfl (E.Runs.assign rfl rfl) ?_
  refine E.GL.run rfl rfl rfl (E.Runs.assign rfl rfl) ?_
  refine E.GL.done ?_
  refine E.QG.code ?_
  refine E.CG.seq ?_
  refine E.CG.list ?_
  refine E.GL.run rfl rfl rfl (E.Runs.move rfl rfl) ?_
  refine E.GL.run rfl rfl rfl (E.Runs.move rfl rfl) ?_
  refine E.GL.run rfl rfl rfl (E.Runs.assign rfl rfl) ?_
  refine E.GL.run rfl rfl rfl (E.Runs.assign rfl rfl) ?_
  refine E.GL.done ?_
  refine E.QG.code ?_
  refine E.CG.ret ?_
  exact E.QG.result2 rfl rfl rfl ⟨rfl, L⟩

set_option maxRecDepth 100000 in
set_option maxHeartbeats 8000000 in

theorem repeat_calls (g0 n : Nat) (w : World) (h1 : 1 ≤ n) (h8 : n ≤ 8) (b0 : w.heap[g0]? = some (.cells #[.int .i64 (-1)] 3 (0, 0))) :
    Calls Try.prog 81 #[.slice (some ⟨g0, 0, none⟩) 1 1, .int .i64 (n : Int)] w fun e w' => ∃ g, e = .returned (.slice (some ⟨g, 0, none⟩) n n) ∧ w'.heap[g]? = some (.cells ((List.replicate n (-1 : Int)).map (Value.int .i64)).toArray 3 (0, 0)) ∧ w.heap.size ≤ g ∧ Below w.heap.size w w' := by
  have hu3 := Try.underlying3
  have hu22 := Try.underlying22
  have hu65 := Try.underlying65
  obtain ⟨z3, o3⟩ := info_some info3s (by decide)
  refine E.enter (N := 48) Try.func81 rfl Try.ntmps81 (args := [.slice (some ⟨g0, 0, none⟩) 1 1, .int .i64 (n : Int)]) (by simp) ?_
  have L := Below.refl w.heap.size w
  refine E.CG.seq ?_
  refine E.CG.list ?_
  refine E.GL.run rfl rfl rfl (E.Runs.assign rfl rfl) ?_
  refine E.GL.done ?_
  refine E.QG.code ?_
  refine E.CG.seq ?_
  refine E.CG.seq ?_
  refine E.CG.list ?_
  refine E.GL.run rfl rfl rfl (E.Runs.move rfl rfl) ?_
  refine E.GL.run rfl rfl rfl (E.Runs.lss rfl rfl rfl (decide_eq_false (by omega))) ?_
  refine E.GL.done ?_
  refine E.QG.code ?_
  refine E.CG.cond_f rfl ?_
  refine E.CG.skip ?_
  refine E.QG.code ?_
  refine E.CG.seq ?_
  refine E.CG.list ?_
  refine E.GL.run rfl rfl rfl (E.Runs.move rfl rfl) ?_
  refine E.GL.run rfl rfl rfl (E.Runs.len rfl rfl hu22) ?_
  refine E.GL.run rfl rfl rfl (E.Runs.conv (a := 1) hu65 hu3 (.inl rfl) rfl rfl (by omega)) ?_
  refine E.GL.run rfl rfl rfl (E.Runs.move rfl rfl) ?_
  refine E.GL.run rfl rfl rfl (E.Runs.conv (a := n) hu65 hu3 (.inl rfl) rfl rfl (by omega)) ?_
  refine E.GL.st rfl rfl rfl (E.ST.call rfl ent83 (E.evc rfl (E.evc rfl E.evn)) ((mul_calls 1 n _ (by omega) (by omega)).mono ?_))
  rintro e w18 ⟨rfl, l18⟩
  refine ⟨_, rfl, ?_⟩
  replace L := below_step L l18
  rw [Nat.one_mul]
  refine E.GL.run rfl rfl rfl (E.Runs.move rfl rfl) ?_
  refine E.GL.run rfl rfl rfl (E.Runs.extract rfl rfl rfl) ?_
  refine E.GL.run rfl rfl rfl (E.Runs.extract rfl rfl rfl) ?_
  refine E.GL.run rfl rfl rfl (E.Runs.assign rfl rfl) ?_
  refine E.GL.run rfl rfl rfl (E.Runs.assign rfl rfl) ?_
  refine E.GL.done ?_
  refine E.QG.code ?_
  refine E.CG.seq ?_
  refine E.CG.seq ?_
  refine E.CG.list ?_
  refine E.GL.run rfl rfl rfl (E.Runs.move rfl rfl) ?_
  refine E.GL.run rfl rfl rfl (E.Runs.gtr rfl rfl rfl (decide_eq_false (by omega))) ?_
  refine E.GL.run rfl rfl rfl (E.Runs.move rfl rfl) ?_
  refine E.GL.run rfl rfl rfl (E.Runs.move rfl rfl) ?_
  refine E.GL.run rfl rfl rfl (E.Runs.gtr rfl rfl rfl (decide_eq_false (by omega))) ?_
  refine E.GL.run rfl rfl rfl (E.Runs.pick_f rfl rfl rfl) ?_
  refine E.GL.done ?_
  refine E.QG.code ?_
  refine E.CG.cond_f rfl ?_
  refine E.CG.skip ?_
  refine E.QG.code ?_
  refine E.CG.seq ?_
  refine E.CG.list ?_
  refine E.GL.run rfl rfl rfl (E.Runs.move rfl rfl) ?_
  refine E.GL.run rfl rfl rfl (E.Runs.conv (a := n) hu3 hu65 (.inr rfl) rfl rfl (by omega)) ?_
  refine E.GL.st rfl rfl rfl (E.ST.makeC (m := n) rfl rfl rfl hu22 info3 rfl (by decide) (by omega) fun g30 w30 e30 b30 l30 => ?_)
  have h30_L : w.heap.size ≤ g30 := by rw [e30]; exact L.size
  have b0' := blk_below b0 L
  have hg0 := blk_lt b0'
  replace L := below_step L l30
  have hne : g0 ≠ g30 := by omega
  replace b0' := blk_below b0' l30
  rw [← rp_zero] at b30
  refine E.GL.run rfl rfl rfl (E.Runs.assign rfl rfl) ?_
  refine E.GL.done ?_
  refine E.QG.code ?_
  refine E.CG.seq ?_
  refine E.CG.list ?_
  refine E.GL.run rfl rfl rfl (E.Runs.move rfl rfl) ?_
  refine E.GL.run rfl rfl rfl (E.Runs.move rfl rfl) ?_
  refine E.GL.st rfl rfl rfl (E.ST.copy (cs := List.replicate 1 (.int .i64 (-1))) (all := rp 0 n) rfl rfl rfl hu22 info3s b30 (show 1 = Nat.min 1 n from (Nat.min_eq_left h1).symm) (fun _ => ⟨_, rfl, fun j v hj => by rw [Addr.add_mid, blk_cell b0']; rcases j with _ | j; exact hj; simp at hj⟩) (by rw [rp_len (by omega)]; simp; omega) (by simp [Value.oneCell']) (rp_copy (by omega)) fun w33 c33 gr33 => ?_)
  replace b30 := c33
  replace L := E.below_own L h30_L gr33
  clear c33
  refine E.GL.run rfl rfl rfl (E.Runs.assign rfl rfl) ?_
  refine E.GL.done ?_
  refine E.QG.code ?_
  refine E.CG.seq ?_
  refine E.CG.block ?_
  have s8_L := L
  refine E.CG.loop (fun (q : Nat) => [(7, .slice (some ⟨g30, 0, none⟩) n n), (8, .int .i64 ((q : Nat) : Int))]) (fun q w' => 1 ≤ q ∧ q ≤ n ∧ w'.heap[g30]? = some (.cells (rp q n).toArray 3 (0, 0)) ∧ Below w.heap.size w w') (fun q => n - q) 1 (E.subc rfl (E.subc rfl E.subn)) ⟨Nat.le_refl _, h1, b30, L⟩ ?_
  rintro q w8 ⟨hq1, hq, b30, L⟩
  have hg30 : w.heap.size ≤ g30 := h30_L
  refine E.CG.seq ?_
  refine E.CG.seq ?_
  refine E.CG.list ?_
  refine E.GL.run rfl rfl rfl (E.Runs.move rfl rfl) ?_
  refine E.GL.run rfl rfl rfl (E.Runs.move rfl rfl) ?_
  refine E.GL.run rfl rfl rfl (E.Runs.len rfl rfl hu22) ?_
  refine E.GL.cmp rfl rfl rfl (fun _ h => (E.Runs.lss rfl rfl rfl h)) (fun h37 => ?_) (fun h37 => ?_)
  · refine E.GL.done ?_
    refine E.QG.code ?_
    refine E.CG.cond_t rfl ?_
    refine E.CG.skip ?_
    refine E.QG.code ?_
    refine E.CG.block ?_
    refine E.CG.heldJ 7 (fun v W => v.grownBy W (some g30)) (fun _ _ => True) (by kernel_rfl) (by kernel_rfl) (fun v => World.grownBy.refl _ _) fun v9 lD => ?_
    replace b30 := blk_below b30 lD
    replace L := below_step L lD
    have lD9 := lD
    clear lD
    have s_b30 := b30
    have s_L := L
    have hh : v9.grownBy v9 (some g30) := World.grownBy.refl _ _
    refine E.GJ.take2 (i := 0) rfl (by kernel_rfl) (by kernel_rfl) (by kernel_rfl) (by kernel_rfl) (by intro c a d v w h; first | (cases d <;> exact h) | exact nomatch (show _ ∧ _ from h).1) rfl rfl rfl (fun w' hS => (E.Runs.move rfl rfl)) ?_
    refine E.GJ.take1t (i := 1) 3 rfl (by kernel_rfl) (by kernel_rfl) (by kernel_rfl) (by kernel_rfl) rfl (by kernel_rfl) rfl (by kernel_rfl) (by kernel_rfl) (by kernel_rfl) (by kernel_rfl) (by kernel_rfl) (by intro c a d v w h; first | (cases d <;> exact h) | exact nomatch (show _ ∧ _ from h).1) rfl rfl rfl (fun w' hS => (E.Runs.move rfl rfl)) ?_
    refine E.GJ.take1t (i := 2) 3 rfl (by kernel_rfl) (by kernel_rfl) (by kernel_rfl) (by kernel_rfl) rfl (by kernel_rfl) rfl (by kernel_rfl) (by kernel_rfl) (by kernel_rfl) (by kernel_rfl) (by kernel_rfl) (by intro c a d v w h; first | (cases d <;> exact h) | exact nomatch (show _ ∧ _ from h).1) rfl rfl rfl (fun w' hS => (E.Runs.move rfl rfl)) ?_
    refine E.GJ.take1 (i := 3) rfl (by kernel_rfl) (by kernel_rfl) (by kernel_rfl) (by kernel_rfl) rfl (by kernel_rfl) (by kernel_rfl) (by intro c a d v w h; first | (cases d <;> exact h) | exact nomatch (show _ ∧ _ from h).1) rfl rfl rfl (fun w' hS => (E.Runs.sliceFrom (i := q) (q := some ⟨g30, q, none⟩) rfl rfl rfl hu22 z3 o3 (by omega) (Nat.le_refl _) (by rw [if_neg (by omega)]; simp [Go.Addr.add_mid]))) ?_
    refine E.GJ.take1t (i := 4) 6 rfl (by kernel_rfl) (by kernel_rfl) (by kernel_rfl) (by kernel_rfl) rfl (by kernel_rfl) rfl (by kernel_rfl) (by kernel_rfl) (by kernel_rfl) (by kernel_rfl) (by kernel_rfl) (by intro c a d v w h; first | (cases d <;> exact h) | exact nomatch (show _ ∧ _ from h).1) rfl rfl rfl (fun w' hS => (E.Runs.move rfl rfl)) ?_
    refine E.GJ.take1t (i := 5) 6 rfl (by kernel_rfl) (by kernel_rfl) (by kernel_rfl) (by kernel_rfl) rfl (by kernel_rfl) rfl (by kernel_rfl) (by kernel_rfl) (by kernel_rfl) (by kernel_rfl) (by kernel_rfl) (by intro c a d v w h; first | (cases d <;> exact h) | exact nomatch (show _ ∧ _ from h).1) rfl rfl rfl (fun w' hS => (E.Runs.move rfl rfl)) ?_
    refine E.GJ.take1 (i := 6) rfl (by kernel_rfl) (by kernel_rfl) (by kernel_rfl) (by kernel_rfl) rfl (by kernel_rfl) (by kernel_rfl) (by intro c a d v w h; first | (cases d <;> exact h) | exact nomatch (show _ ∧ _ from h).1) rfl rfl rfl (fun w' hS => (E.Runs.sliceTo rfl rfl rfl hu22 z3 (by omega))) ?_
    refine E.GJ.one (i := 7) (by kernel_rfl) (E.OJ.st rfl rfl rfl rfl (E.ST.copy (cs := List.replicate (min (n - q) q) (.int .i64 (-1))) (all := rp q n) rfl rfl rfl hu22 info3s b30 (by rw [List.length_replicate]; exact (Nat.min_comm _ _)) (fun _ => ⟨_, rfl, fun j v hj => by rw [Addr.add_mid, Nat.zero_add, blk_cell b30]; rw [List.getElem?_replicate] at hj; split at hj; (obtain rfl := Option.some.inj hj; simpa using rp_at (show j < q by omega)); cases hj⟩) (by rw [rp_len (by omega), List.length_replicate]; omega) (by intro v hv; rw [List.eq_of_mem_replicate hv]; rfl) (rp_copy (by omega)) fun w45 c45 gr45 => ⟨(E.SJ.behind (by kernel_rfl)).mpr trivial, ?_⟩))
    replace b30 := c45
    replace L := E.below_own L hg30 gr45
    clear c45
    refine E.GJ.one (i := 8) (by kernel_rfl) (E.OJ.st rfl rfl rfl rfl (E.ST.reads (E.Runs.add rfl rfl rfl (show _ = ((q + (min (n - q) q) : Nat) : Int) from by rw [List.length_replicate, ← Int.natCast_add]; exact IntWalk.i64_in _ (by omega))) ⟨(E.SJ.behind (by kernel_rfl)).mpr trivial, ?_⟩))
    refine E.GJ.one (i := 9) (by kernel_rfl) (E.OJ.st rfl rfl rfl rfl (E.ST.reads (E.Runs.assign rfl rfl) ⟨(E.SJ.behind (by kernel_rfl)).mpr trivial, ?_⟩))
    refine E.GJ.done (by kernel_rfl) ?_
    refine E.QG.block_normal ?_
    exact E.QG.round (q + (min (n - q) q)) (E.subc rfl (E.subc rfl E.subn)) ⟨by omega, by omega, b30, L⟩ (by omega)
  · obtain rfl : n = q := by omega
    refine E.GL.done ?_
    refine E.QG.code ?_
    refine E.CG.cond_f rfl ?_
    refine E.CG.exit ?_
    refine E.QG.pass_exit ?_
    refine E.QG.pass_exit ?_
    refine E.QG.block_here ?_
    refine E.QG.code ?_
    refine E.CG.seq ?_
    refine E.CG.list ?_
    refine E.GL.run rfl rfl rfl (E.Runs.move rfl rfl) ?_
    refine E.GL.run rfl rfl rfl (E.Runs.assign rfl rfl) ?_
    refine E.GL.done ?_
    refine E.QG.code ?_
    refine E.CG.ret ?_
    exact E.QG.result rfl rfl ⟨g30, rfl, by rw [← rp_full]; exact b30, h30_L, L⟩

end Go.Proofs.Ytdiambcjghlffaa.T
namespace Go.Proofs.Ytdiambcjghlffaa.T
open Go.RowKit Go.Proofs.YtdiambcjghlffaaW.PrintWords Go.Proofs.YtdiambcjghlffaaW.PrintMore
open Go.Proofs.Ytdiambcjghlffaa.P
set_option linter.unusedVariables false
set_option linter.unusedSimpArgs false
/-- A digit. -/
def dg (B t i : Nat) : Nat := t / B ^ i % B
theorem dg_lt {B t i : Nat} (hB : 0 < B) : dg B t i < B := Nat.mod_lt _ hB
theorem low_max {B t : Nat} (hB : 0 < B) : ∀ {i : Nat}, (∀ j, j < i → dg B t j = B - 1) → t % B ^ i = B ^ i - 1
  | 0, _ => by simp [Nat.mod_one]
  | i + 1, h => by
    have ih := low_max hB (i := i) fun j hj => h j (by omega)
    have hd := h i (by omega)
    unfold dg at hd
    have hp : 0 < B ^ i := Nat.pow_pos hB
    rw [Nat.mod_pow_succ, ih, hd, Nat.pow_succ, Nat.mul_sub, Nat.mul_one]
    have : B ^ i ≤ B ^ i * B := Nat.le_mul_of_pos_right _ hB
    omega
theorem succ_low {B t i : Nat} (hB : 0 < B) (h : t % B ^ i = B ^ i - 1) : t + 1 = B ^ i * (t / B ^ i + 1) := by
  have hp : 0 < B ^ i := Nat.pow_pos hB
  have := Nat.div_add_mod t (B ^ i)
  rw [h] at this
  rw [Nat.mul_add, Nat.mul_one]
  omega
/-- The next number's digits. -/
theorem dg_below {B t i j : Nat} (hB : 0 < B) (h : t % B ^ i = B ^ i - 1) (hj : j < i) : dg B (t + 1) j = 0 := by
  unfold dg
  have hp : 0 < B ^ j := Nat.pow_pos hB
  rw [succ_low hB h]
  have e : B ^ i = B ^ j * (B ^ (i - j - 1) * B) := by
    rw [← Nat.pow_succ, ← Nat.pow_add]
    congr 1
    omega
  rw [e, Nat.mul_assoc, Nat.mul_div_cancel_left _ hp, Nat.mul_assoc, Nat.mul_comm B, ← Nat.mul_assoc, Nat.mul_mod_left]
theorem div_low {B t i : Nat} (hB : 0 < B) (h : t % B ^ i = B ^ i - 1) : (t + 1) / B ^ i = t / B ^ i + 1 := by
  have hp : 0 < B ^ i := Nat.pow_pos hB
  rw [succ_low hB h, Nat.mul_div_cancel_left _ hp]
theorem dg_here {B t i : Nat} (hB : 0 < B) (h : t % B ^ i = B ^ i - 1) (hd : dg B t i < B - 1) : dg B (t + 1) i = dg B t i + 1 := by
  unfold dg at hd ⊢
  rw [div_low hB h, Nat.add_mod, Nat.mod_eq_of_lt (a := t / B ^ i % B + 1 % B)]
  · by_cases h1 : B = 1
    · omega
    · rw [Nat.mod_eq_of_lt (show 1 < B by omega)]
  · by_cases h1 : B = 1
    · omega
    · rw [Nat.mod_eq_of_lt (show 1 < B by omega)]; omega
theorem dg_above {B t i j : Nat} (hB : 0 < B) (h : t % B ^ i = B ^ i - 1) (hd : dg B t i < B - 1) (hj : i < j) : dg B (t + 1) j = dg B t j := by
  unfold dg at hd ⊢
  have e : B ^ j = B ^ i * (B * B ^ (j - i - 1)) := by
    rw [← Nat.pow_succ', ← Nat.pow_add]
    congr 1
    omega
  have key : (t / B ^ i + 1) / B = t / B ^ i / B := by
    have h1 := Nat.div_add_mod (t / B ^ i) B
    generalize t / B ^ i = q at hd h1 ⊢
    have : q + 1 = B * (q / B) + (q % B + 1) := by omega
    rw [this, Nat.mul_add_div hB, Nat.div_eq_of_lt (show q % B + 1 < B by omega), Nat.add_zero]
  rw [e, ← Nat.div_div_eq_div_mul, ← Nat.div_div_eq_div_mul, div_low hB h, key, Nat.div_div_eq_div_mul, Nat.div_div_eq_div_mul]
/-- The base: dark, or a film. -/
def bs (V : Wk) : Nat := V.fs.length + 1
/-- The t-th program. -/
def pr (V : Wk) (t : Nat) : List Int := (List.range (Sl V)).map fun i => ((dg (bs V) t i : Nat) : Int) - 1
def nP (V : Wk) : Nat := bs V ^ Sl V
theorem pr_len (V : Wk) (t : Nat) : (pr V t).length = Sl V := by simp [pr]
theorem pr_at {V : Wk} {t i : Nat} (h : i < Sl V) : (pr V t)[i]? = some (((dg (bs V) t i : Nat) : Int) - 1) := by simp [pr, h]
theorem pr_ok (V : Wk) (t : Nat) : IsP V (pr V t) := by
  refine ⟨pr_len V t, fun x hx => ?_⟩
  obtain ⟨i, hi⟩ := List.mem_iff_getElem?.mp hx
  have hl := (List.getElem?_eq_some_iff.1 hi).1
  rw [pr_len] at hl
  rw [pr_at hl] at hi
  have := dg_lt (B := bs V) (t := t) (i := i) (by unfold bs; omega)
  unfold bs at this hi
  obtain rfl := Option.some.inj hi
  omega
theorem pr_zero (V : Wk) : pr V 0 = List.replicate (Sl V) (-1) := by
  refine List.ext_getElem? fun i => ?_
  by_cases h : i < Sl V
  · rw [pr_at h]
    simp [dg, h]
  · rw [List.getElem?_eq_none (by rw [pr_len]; omega), List.getElem?_eq_none (by simp; omega)]
/-- The first so many slots are dark again. -/
def mixP (V : Wk) (t i : Nat) : List Int := (List.range (Sl V)).map fun j => if j < i then -1 else ((dg (bs V) t j : Nat) : Int) - 1
theorem mixP_zero (V : Wk) (t : Nat) : mixP V t 0 = pr V t := by simp [mixP, pr]
theorem mixP_len (V : Wk) (t i : Nat) : (mixP V t i).length = Sl V := by simp [mixP]
theorem mixP_at {V : Wk} {t i : Nat} (h : i < Sl V) : (mixP V t i)[i]? = some (((dg (bs V) t i : Nat) : Int) - 1) := by simp [mixP, h]
theorem mixP_set {V : Wk} {t i : Nat} (h : i < Sl V) : (mixP V t i).set i (-1) = mixP V t (i + 1) := by
  refine List.ext_getElem? fun j => ?_
  by_cases e : j = i
  · subst e
    rw [List.getElem?_set_self (by rw [mixP_len]; exact h)]
    simp [mixP, h]
  · rw [List.getElem?_set_ne (Ne.symm e)]
    by_cases hj : j < Sl V
    · simp only [mixP, List.getElem?_map, List.getElem?_range hj, Option.map_some]
      by_cases q : j < i
      · rw [if_pos q, if_pos (by omega)]
      · rw [if_neg q, if_neg (by omega)]
    · rw [List.getElem?_eq_none (by rw [mixP_len]; omega), List.getElem?_eq_none (by rw [mixP_len]; omega)]
theorem mixP_next {V : Wk} {t i : Nat} (h : i < Sl V) (hl : ∀ j, j < i → dg (bs V) t j = bs V - 1) (hd : dg (bs V) t i < bs V - 1) : (mixP V t i).set i (((dg (bs V) t i : Nat) : Int) - 1 + 1) = pr V (t + 1) := by
  have hB : 0 < bs V := by unfold bs; omega
  have hm := low_max hB hl
  refine List.ext_getElem? fun j => ?_
  by_cases hj : j < Sl V
  · rw [pr_at hj]
    by_cases e : j = i
    · subst e
      rw [List.getElem?_set_self (by rw [mixP_len]; exact h), dg_here hB hm hd]
      congr 1
      omega
    · rw [List.getElem?_set_ne (Ne.symm e)]
      simp only [mixP, List.getElem?_map, List.getElem?_range hj, Option.map_some]
      by_cases q : j < i
      · rw [if_pos q, dg_below hB hm q]
        rfl
      · rw [if_neg q, dg_above hB hm hd (by omega)]
  · rw [List.getElem?_eq_none (by rw [List.length_set, mixP_len]; omega), List.getElem?_eq_none (by rw [pr_len]; omega)]
/-- All slots show the last film: the last program. -/
theorem pr_last {V : Wk} {t : Nat} (ht : t < nP V) (hl : ∀ j, j < Sl V → dg (bs V) t j = bs V - 1) : t + 1 = nP V := by
  have hB : 0 < bs V := by unfold bs; omega
  have hm := low_max hB hl
  unfold nP at ht ⊢
  rw [Nat.mod_eq_of_lt ht] at hm
  have : 0 < bs V ^ Sl V := Nat.pow_pos hB
  omega
/-- Not the last one: some slot does not. -/
theorem pr_more {V : Wk} {t i : Nat} (ht : t < nP V) (h : i < Sl V) (hl : ∀ j, j < i → dg (bs V) t j = bs V - 1) (hd : dg (bs V) t i < bs V - 1) : t + 1 < nP V := by
  have hB : 0 < bs V := by unfold bs; omega
  refine Nat.lt_of_le_of_ne ht fun e => ?_
  have hp : 0 < bs V ^ Sl V := Nat.pow_pos hB
  have h0 : dg (bs V) t i = bs V - 1 := by
    have et : t = bs V ^ Sl V - 1 := by unfold nP at e; omega
    unfold dg
    have e2 : bs V ^ Sl V = bs V ^ i * (bs V ^ (Sl V - i - 1) * bs V) := by
      rw [← Nat.pow_succ, ← Nat.pow_add]
      congr 1
      omega
    have hpi : 0 < bs V ^ i := Nat.pow_pos hB
    have hq : 0 < bs V ^ (Sl V - i - 1) := Nat.pow_pos hB
    have hm : t % bs V ^ i = bs V ^ i - 1 := low_max hB hl
    have hsl := succ_low hB hm
    have e3 : bs V ^ i * (t / bs V ^ i + 1) = bs V ^ i * (bs V ^ (Sl V - i - 1) * bs V) := by rw [← hsl, ← e2]; omega
    have e4 := Nat.eq_of_mul_eq_mul_left hpi e3
    have e5 : (t / bs V ^ i + 1) % bs V = 0 := by rw [e4, Nat.mul_mod_left]
    generalize t / bs V ^ i = q at e5 ⊢
    have h1 := Nat.mod_lt q hB
    by_cases hq1 : q % bs V + 1 < bs V
    · rw [Nat.add_mod] at e5
      by_cases hb1 : bs V = 1
      · omega
      · rw [Nat.mod_eq_of_lt (show 1 < bs V by omega), Nat.mod_eq_of_lt hq1] at e5
        omega
    · omega
  omega
end Go.Proofs.Ytdiambcjghlffaa.T
namespace Go.Proofs.Ytdiambcjghlffaa.T
open Go.RowKit Go.Proofs.YtdiambcjghlffaaW.PrintWords Go.Proofs.YtdiambcjghlffaaW.PrintMore
open Go.Proofs.Ytdiambcjghlffaa.P
set_option linter.unusedVariables false
set_option linter.unusedSimpArgs false

/-- A program, and the block of the row in which it lies. -/
abbrev It := List Int × Nat
def itV (V : Wk) (x : It) : Array Value := #[.slice (some ⟨x.2, 0, none⟩) (Sl V) (Sl V)]
def Fp (V : Wk) (x : It) (W : World) : Prop := W.heap[x.2]? = some (.cells (x.1.map (Value.int .i64)).toArray 3 (0, 0)) ∧ IsP V x.1
/-- What a round keeps. -/
def KpP (w : World) (g : Nat) (x : It) (X Y : World) : Prop := Below w.heap.size X Y ∧ Y.heap[g]? = X.heap[g]? ∧ Y.heap[x.2]? = X.heap[x.2]?
theorem cells_at {W : World} {g i : Nat} {l : List Int} {x : Int} (b : W.heap[g]? = some (.cells (l.map (Value.int .i64)).toArray 3 (0, 0))) (h : l[i]? = some x) : W.cell? ⟨g, i * 1, none⟩ = some (.int .i64 x) := by
  rw [Nat.mul_one, blk_cell b]
  simp [h]
theorem cells_at' {W : World} {g i : Nat} {l : List Int} {x : Int} (b : W.heap[g]? = some (.cells (l.map (Value.int .i64)).toArray 3 (0, 0))) (h : l[i]? = some x) : W.cell? ⟨g, i, none⟩ = some (.int .i64 x) := by
  have := cells_at b h
  rwa [Nat.mul_one] at this
theorem cells_put (l : List Int) (i : Nat) (x : Int) : (l.map (Value.int .i64)).toArray.setIfInBounds i (.int .i64 x) = ((l.set i x).map (Value.int .i64)).toArray := by
  simp [List.map_set]
/-- What is told of the programs handed out so far, and that it abides. -/
structure JA (B : Nat) (J : List It → World → Prop) (l : List It) (w : World) : Prop where
  ab : E.AbidesC B (fun x : It => x.2) J
  j : J l w
theorem JA.below {B : Nat} {J : List It → World → Prop} {l : List It} {w w' : World} (h : JA B J l w) (lb : Below w.heap.size w w') : JA B J l w' := ⟨h.ab, h.ab _ _ _ none h.j (E.gbB lb) (fun r er => nomatch er)⟩
theorem rng_snoc (V : Wk) (t : Nat) : (List.range (t + 1)).map (pr V) = (List.range t).map (pr V) ++ [pr V t] := by rw [List.range_succ, List.map_append]; rfl
set_option maxRecDepth 100000 in
set_option maxHeartbeats 8000000 in

theorem programs_run (V : Wk) (m : Wa) (g : Nat) (w W : World) (y k : Nat) (J : List It → World → Prop) (ok : Shp V) (hB : Below w.heap.size w W) (b1 : W.heap[g]? = some (.cells #[.int .i64 V.d, .slice m.A V.rs.length m.a, .int .i64 V.h, .slice m.B V.fs.length m.b, .slice m.C V.ds.length m.c] 26 (0, 0))) (hgw : w.heap.size ≤ g)
    (hJ : E.AbidesC W.heap.size (fun x : It => x.2) J) (h0 : J [] W)
    (hY : ∀ pre x W1, J pre W1 → Fp V x W1 → W.heap.size ≤ x.2 → (∀ y ∈ pre, y.2 = x.2) → YieldAt Fence.wide (k - 1) Try.prog y (itV V x) W1 fun e W' => e = .returned (.bool true) ∧ J (pre ++ [x]) W' ∧ KpP w g x W1 W') :
    Calls Try.prog 80 #[.func (.yield y) #[] #[], .pointer (some ⟨g, 0, none⟩)] W fun e W' => (∃ v, e = .returned v) ∧ ∃ xs, xs.map Prod.fst = (List.range (nP V)).map (pr V) ∧ J xs W' := by
  have hu3 := Try.underlying3
  have hu22 := Try.underlying22
  have hu23 := Try.underlying23
  have hu26 := Try.underlying26
  obtain ⟨z3, o3⟩ := info_some info3s (by decide)
  obtain ⟨z22, o22⟩ := info_some info22s (by decide)
  obtain ⟨z23, o23⟩ := info_some info23s (by decide)
  have hsn := slots_nat ok
  have okf := ok.f
  have hbs : bs V = V.fs.length + 1 := rfl
  have hnp : 0 < nP V := Nat.pow_pos (by omega)
  refine E.enter (N := 43) Try.func80 rfl Try.ntmps80 (args := [.func (.yield y) #[] #[], .pointer (some ⟨g, 0, none⟩)]) (by simp) ?_
  have L := hB
  have hgl := blk_lt b1
  refine E.CG.seq ?_
  refine E.CG.list ?_
  refine E.GL.st rfl rfl rfl (E.ST.litB (cs := #[.int .i64 (-1)]) rfl (E.epc rfl E.epn) (lit22 _) fun g5 w5 e5 b5 l5 => ?_)
  replace L := below_step L l5
  replace b1 := blk_below b1 l5
  refine E.GL.run rfl rfl rfl (E.Runs.loads (cs := [.int .i64 V.d, .slice m.A V.rs.length m.a, .int .i64 V.h, .slice m.B V.fs.length m.b, .slice m.C V.ds.length m.c]) rfl rfl hu26 rfl info26s (blk_cells b1)) ?_
  refine E.GL.st rfl rfl rfl (E.ST.call rfl ent64 (E.evc rfl E.evn) ((slots_o V m _ ok.d ok.r ok.h).mono ?_))
  rintro e w7 ⟨rfl, l7⟩
  refine ⟨_, rfl, ?_⟩
  replace b1 := blk_below b1 l7
  replace b5 := blk_below b5 l7
  replace L := below_step L l7
  rw [hsn.1]
  refine E.GL.st rfl rfl rfl (E.ST.call rfl ent81 (E.evc rfl (E.evc rfl E.evn)) ((repeat_calls g5 (Sl V) _ hsn.2.2 hsn.2.1 b5).mono ?_))
  rintro e w8 ⟨gp, rfl, bp, hgp, l8⟩
  refine ⟨_, rfl, ?_⟩
  replace b1 := blk_below b1 l8
  replace b5 := blk_below b5 l8
  replace L := below_step L l8
  refine E.GL.run rfl rfl rfl (E.Runs.assign rfl rfl) ?_
  refine E.GL.done ?_
  refine E.QG.code ?_
  refine E.CG.block ?_
  have lq : Below W.heap.size W w8 := (l5.trans (l7.mono l5.size)).trans (l8.mono (Nat.le_trans l5.size l7.size))
  have hJ8 : J [] w8 := hJ _ _ _ none h0 (E.gbB lq) (fun r er => nomatch er)
  have hgpW : W.heap.size ≤ gp := by have := l5.size; have := l7.size; omega
  have hgne : g ≠ gp := by omega
  rw [← pr_zero] at bp
  have s1_b1 := b1
  have s1_b5 := b5
  have s1_bp := bp
  have s1_L := L
  refine E.CG.loop2 (fun (t : Nat) (pre : List It) => [(0, .func (.yield y) #[] #[]), (1, .pointer (some ⟨g, 0, none⟩)), (3, .slice (some ⟨gp, 0, none⟩) (Sl V) (Sl V))]) (fun t pre w' => t < nP V ∧ pre.map Prod.fst = (List.range t).map (pr V) ∧ (∀ y ∈ pre, y.2 = gp) ∧ w'.heap[g]? = some (.cells #[.int .i64 V.d, .slice m.A V.rs.length m.a, .int .i64 V.h, .slice m.B V.fs.length m.b, .slice m.C V.ds.length m.c] 26 (0, 0)) ∧ w'.heap[gp]? = some (.cells ((pr V t).map (Value.int .i64)).toArray 3 (0, 0)) ∧ Below w.heap.size w w' ∧ J pre w') (fun t pre => nP V - t) 0 [] (E.subc rfl (E.subc rfl (E.subc rfl E.subn))) ⟨hnp, rfl, (fun y hy => nomatch hy), b1, bp, L, hJ8⟩ ?_
  rintro t pre w1 ⟨ht, hmap, hsame, b1, bp, L, hJ1⟩
  refine E.CG.block ?_
  refine E.CG.seq ?_
  refine E.CG.seq ?_
  refine E.CG.wide k (E.CI.list ?_)
  refine E.GI.run E.WF.wide rfl rfl rfl rfl (E.Runs.move rfl rfl) ?_
  refine E.GI.run E.WF.wide rfl rfl rfl rfl (E.Runs.move rfl rfl) ?_
  refine E.GI.yield E.WF.wide rfl rfl rfl rfl rfl (E.evc rfl E.evn) (hY pre (pr V t, gp) _ hJ1 ⟨bp, pr_ok V t⟩ hgpW hsame) ?_
  rintro e w1 ⟨rfl, hJ2, hk⟩
  · refine ⟨_, rfl, ?_⟩
    refine E.GI.run E.WF.wide rfl rfl rfl rfl (E.Runs.not rfl rfl) ?_
    refine E.GI.done ?_
    replace L := L.trans hk.1
    replace b1 := hk.2.1.trans b1
    replace bp := hk.2.2.trans bp
    have hmap2 : (pre ++ [(pr V t, gp)]).map Prod.fst = (List.range (t + 1)).map (pr V) := by rw [List.map_append, hmap, rng_snoc]; rfl
    have hsame2 : ∀ y ∈ pre ++ [((pr V t, gp) : It)], y.2 = gp := fun y hy => by
      rcases List.mem_append.mp hy with h | h
      · exact hsame y h
      · rw [List.mem_singleton.mp h]
    clear hk
    replace hJ2 : JA W.heap.size J _ _ := ⟨hJ, hJ2⟩
    refine E.QG.code ?_
    refine E.CG.cond_f rfl ?_
    refine E.CG.skip ?_
    refine E.QG.code ?_
    refine E.CG.seq ?_
    refine E.CG.list ?_
    refine E.GL.run rfl rfl rfl (E.Runs.assign rfl rfl) ?_
    refine E.GL.done ?_
    refine E.QG.code ?_
    refine E.CG.seq ?_
    refine E.CG.block ?_
    have s3_b1 := b1
    have s3_bp := bp
    have s3_L := L
    refine E.CG.loop (fun (i : Nat) => [(0, .func (.yield y) #[] #[]), (1, .pointer (some ⟨g, 0, none⟩)), (3, .slice (some ⟨gp, 0, none⟩) (Sl V) (Sl V)), (4, .int .i64 (i : Int))]) (fun i w' => i ≤ Sl V ∧ (∀ j, j < i → dg (bs V) t j = bs V - 1) ∧ w'.heap[g]? = some (.cells #[.int .i64 V.d, .slice m.A V.rs.length m.a, .int .i64 V.h, .slice m.B V.fs.length m.b, .slice m.C V.ds.length m.c] 26 (0, 0)) ∧ w'.heap[gp]? = some (.cells ((mixP V t i).map (Value.int .i64)).toArray 3 (0, 0)) ∧ Below w.heap.size w w' ∧ JA W.heap.size J (pre ++ [(pr V t, gp)]) w') (fun i => Sl V - i) 0 (E.subc rfl (E.subc rfl (E.subc rfl (E.subc rfl E.subn)))) ⟨Nat.zero_le _, fun j hj => by omega, b1, by rw [mixP_zero]; exact bp, L, hJ2⟩ ?_
    rintro i w3 ⟨hi, hmx, b1, bp, L, hJ2⟩
    refine E.CG.seq ?_
    refine E.CG.seq ?_
    refine E.CG.quietF (by kernel_rfl) rfl (by kernel_rfl) (by kernel_rfl) ?_
    refine E.GQ.run rfl rfl rfl (E.Runs.move rfl rfl) ?_
    refine E.GQ.run rfl rfl rfl (E.Runs.move rfl rfl) ?_
    refine E.GQ.run rfl rfl rfl (E.Runs.len rfl rfl hu22) ?_
    refine E.GQ.cmp rfl rfl rfl (fun _ h => (E.Runs.lss rfl rfl rfl h)) (fun h16 => ?_) (fun h16 => ?_)
    · refine E.GQ.run rfl rfl rfl (E.Runs.move rfl rfl) ?_
      refine E.GQ.run rfl rfl rfl (E.Runs.move rfl rfl) ?_
      refine E.GQ.run rfl rfl rfl (E.Runs.move rfl rfl) ?_
      refine E.GQ.run rfl rfl rfl (E.Runs.indexAddrA (i := i) rfl rfl rfl hu22 z3 o3 (by omega) rfl (show _ = (⟨gp, i, none⟩ : Addr) from by rw [Go.Addr.add_mid, Nat.zero_add, Nat.mul_one])) ?_
      refine E.GQ.run rfl rfl rfl (E.Runs.load rfl rfl hu3 (cells_at' bp (mixP_at (by omega)))) ?_
      refine E.GQ.run rfl rfl rfl (E.Runs.fieldAddr rfl rfl hu26 rfl (by assumption) rfl) ?_
      refine E.GQ.run rfl rfl rfl (E.Runs.load1 rfl rfl hu23 rfl (by first | assumption | exact E.blkc (by assumption) rfl | exact pw_cell_below L (by assumption))) ?_
      refine E.GQ.run rfl rfl rfl (E.Runs.len rfl rfl hu23) ?_
      refine E.GQ.run rfl rfl rfl (E.Runs.sub rfl rfl rfl (IntWalk.i64_in _ (by omega))) ?_
      refine E.GQ.cmp rfl rfl rfl (fun _ h => (E.Runs.eql rfl rfl rfl h)) (fun h26 => ?_) (fun h26 => ?_)
      · have hdl := dg_lt (B := bs V) (t := t) (i := i) (by omega)
        refine E.GQ.run rfl rfl rfl (E.Runs.pick_t rfl rfl rfl) ?_
        refine E.GQ.doneB fun v3 lD => ?_
        replace b1 := blk_below b1 lD
        replace bp := blk_below bp lD
        replace hJ2 := hJ2.below lD
        replace L := below_step L lD
        have lD3 := lD
        clear lD
        refine E.QG.code ?_
        refine E.CG.cond_t rfl ?_
        refine E.CG.skip ?_
        refine E.QG.code ?_
        refine E.CG.seq ?_
        refine E.CG.block ?_
        refine E.CG.list ?_
        refine E.GL.run rfl rfl rfl (E.Runs.move rfl rfl) ?_
        refine E.GL.run rfl rfl rfl (E.Runs.move rfl rfl) ?_
        refine E.GL.run rfl rfl rfl (E.Runs.indexAddrA (i := i) rfl rfl rfl hu22 z3 o3 (by omega) rfl (show _ = (⟨gp, i, none⟩ : Addr) from by rw [Go.Addr.add_mid, Nat.zero_add, Nat.mul_one])) ?_
        refine E.GL.sn rfl rfl (E.ST.store rfl z3 o3 rfl rfl bp (show Nat.blt i _ = true from by rw [Nat.blt_eq]; simp [mixP_len]; omega) (show _ = ((mixP V t (i + 1)).map (Value.int .i64)).toArray from by rw [cells_put, mixP_set (by omega)]) fun wS cS lS => ?_)
        replace b1 := blk_grown b1 lS (E.nes hgne)
        replace L := E.below_own L (Nat.le_trans hB.size hgpW) lS
        have hJn : JA W.heap.size J (pre ++ [(pr V t, gp)]) wS := ⟨hJ, hJ _ _ _ (some gp) hJ2.j lS (fun r er => by cases er; exact ⟨hgpW, ⟨_, _, bp⟩, _, List.mem_append_right _ (List.mem_singleton.mpr rfl), rfl⟩)⟩
        replace bp := cS
        clear cS
        refine E.GL.done ?_
        refine E.QG.block_normal ?_
        refine E.QG.code ?_
        refine E.CG.list ?_
        refine E.GL.run rfl rfl rfl (E.Runs.move rfl rfl) ?_
        refine E.GL.run rfl rfl rfl (E.Runs.add rfl rfl rfl (IntWalk.i64_in _ (by omega))) ?_
        refine E.GL.run rfl rfl rfl (E.Runs.assign rfl rfl) ?_
        refine E.GL.done ?_
        exact E.QG.round (i + 1) (E.subc rfl (E.subc rfl (E.subc rfl (E.subc rfl E.subn)))) ⟨by omega, fun j hj => by
          by_cases e : j = i
          · rw [e]; omega
          · exact hmx j (by omega), b1, bp, L, hJn⟩ (by omega)
      · have hdl := dg_lt (B := bs V) (t := t) (i := i) (by omega)
        have hd : dg (bs V) t i < bs V - 1 := by omega
        have hmore := pr_more ht (show i < Sl V by omega) hmx hd
        refine E.GQ.run rfl rfl rfl (E.Runs.pick_t rfl rfl rfl) ?_
        refine E.GQ.doneB fun v3 lD => ?_
        replace b1 := blk_below b1 lD
        replace bp := blk_below bp lD
        replace hJ2 := hJ2.below lD
        replace L := below_step L lD
        have lD3 := lD
        clear lD
        refine E.QG.code ?_
        refine E.CG.cond_f rfl ?_
        refine E.CG.exit ?_
        refine E.QG.pass_exit ?_
        refine E.QG.pass_exit ?_
        refine E.QG.block_here ?_
        refine E.QG.code ?_
        refine E.CG.seq ?_
        refine E.CG.seq ?_
        refine E.CG.list ?_
        refine E.GL.run rfl rfl rfl (E.Runs.move rfl rfl) ?_
        refine E.GL.run rfl rfl rfl (E.Runs.move rfl rfl) ?_
        refine E.GL.run rfl rfl rfl (E.Runs.len rfl rfl hu22) ?_
        refine E.GL.run rfl rfl rfl (E.Runs.eql rfl rfl rfl (decide_eq_false (by omega))) ?_
        refine E.GL.done ?_
        refine E.QG.code ?_
        refine E.CG.cond_f rfl ?_
        refine E.CG.skip ?_
        refine E.QG.code ?_
        refine E.CG.list ?_
        refine E.GL.run rfl rfl rfl (E.Runs.move rfl rfl) ?_
        refine E.GL.run rfl rfl rfl (E.Runs.move rfl rfl) ?_
        refine E.GL.run rfl rfl rfl (E.Runs.indexAddrA (i := i) rfl rfl rfl hu22 z3 o3 (by omega) rfl (show _ = (⟨gp, i, none⟩ : Addr) from by rw [Go.Addr.add_mid, Nat.zero_add, Nat.mul_one])) ?_
        refine E.GL.run rfl rfl rfl (E.Runs.load rfl rfl hu3 (cells_at' bp (mixP_at (by omega)))) ?_
        refine E.GL.run rfl rfl rfl (E.Runs.add rfl rfl rfl (IntWalk.i64_in _ (by omega))) ?_
        refine E.GL.run rfl rfl rfl (E.Runs.indexAddrA (i := i) rfl rfl rfl hu22 z3 o3 (by omega) rfl (show _ = (⟨gp, i, none⟩ : Addr) from by rw [Go.Addr.add_mid, Nat.zero_add, Nat.mul_one])) ?_
        refine E.GL.sn rfl rfl (E.ST.store rfl z3 o3 rfl rfl bp (show Nat.blt i _ = true from by rw [Nat.blt_eq]; simp [mixP_len]; omega) (show _ = ((pr V (t + 1)).map (Value.int .i64)).toArray from by rw [cells_put, mixP_next (by omega) hmx hd]) fun wS cS lS => ?_)
        replace b1 := blk_grown b1 lS (E.nes hgne)
        replace L := E.below_own L (Nat.le_trans hB.size hgpW) lS
        have hJ4 : JA W.heap.size J (pre ++ [(pr V t, gp)]) wS := ⟨hJ, hJ _ _ _ (some gp) hJ2.j lS (fun r er => by cases er; exact ⟨hgpW, ⟨_, _, bp⟩, _, List.mem_append_right _ (List.mem_singleton.mpr rfl), rfl⟩)⟩
        replace bp := cS
        clear cS
        refine E.GL.done ?_
        refine E.QG.block_normal ?_
        exact E.QG.round2 (d := []) (t + 1) _ (E.subc rfl (E.subc rfl (E.subc rfl E.subn))) ⟨hmore, hmap2, hsame2, b1, bp, L, hJ4.j⟩ (by omega)
    · refine E.GQ.run rfl rfl rfl (E.Runs.move rfl rfl) ?_
      refine E.GQ.skip rfl rfl rfl ?_
      refine E.GQ.skip rfl rfl rfl ?_
      refine E.GQ.skip rfl rfl rfl ?_
      refine E.GQ.skip rfl rfl rfl ?_
      refine E.GQ.skip rfl rfl rfl ?_
      refine E.GQ.skip rfl rfl rfl ?_
      refine E.GQ.skip rfl rfl rfl ?_
      refine E.GQ.skip rfl rfl rfl ?_
      refine E.GQ.skip rfl rfl rfl ?_
      refine E.GQ.run rfl rfl rfl (E.Runs.pick_f rfl rfl rfl) ?_
      refine E.GQ.doneB fun v3 lD => ?_
      replace b1 := blk_below b1 lD
      replace bp := blk_below bp lD
      replace hJ2 := hJ2.below lD
      replace L := below_step L lD
      have lD3 := lD
      clear lD
      refine E.QG.code ?_
      refine E.CG.cond_f rfl ?_
      refine E.CG.exit ?_
      refine E.QG.pass_exit ?_
      refine E.QG.pass_exit ?_
      refine E.QG.block_here ?_
      refine E.QG.code ?_
      refine E.CG.seq ?_
      refine E.CG.seq ?_
      refine E.CG.list ?_
      refine E.GL.run rfl rfl rfl (E.Runs.move rfl rfl) ?_
      refine E.GL.run rfl rfl rfl (E.Runs.move rfl rfl) ?_
      refine E.GL.run rfl rfl rfl (E.Runs.len rfl rfl hu22) ?_
      refine E.GL.run rfl rfl rfl (E.Runs.eql rfl rfl rfl (decide_eq_true (by omega))) ?_
      refine E.GL.done ?_
      refine E.QG.code ?_
      refine E.CG.cond_t rfl ?_
      refine E.CG.ret ?_
      refine E.QG.pass_ret ?_
      refine E.QG.block_ret ?_
      refine E.QG.pass_ret ?_
      refine E.QG.block_ret ?_
      exact E.QG.result0 rfl ⟨⟨_, rfl⟩, _, by rw [hmap2, pr_last ht (fun j hj => hmx j (by omega))], hJ2.j⟩

set_option maxRecDepth 100000 in
set_option maxHeartbeats 8000000 in

theorem programs_calls (V : Wk) (m : Wa) (w : World) :
    Calls Try.prog 72 #[wv V m] w fun e w' => ∃ g, e = .returned (.func (.func 80) #[] #[.pointer (some ⟨g, 0, none⟩)]) ∧ w'.heap[g]? = some (.cells #[.int .i64 V.d, .slice m.A V.rs.length m.a, .int .i64 V.h, .slice m.B V.fs.length m.b, .slice m.C V.ds.length m.c] 26 (0, 0)) ∧ w.heap.size ≤ g ∧ Below w.heap.size w w' := by
  have hu26 := Try.underlying26
  refine E.enter (N := 4) Try.func72 rfl Try.ntmps72 (args := [wv V m]) (by simp) ?_
  have L := Below.refl w.heap.size w
  refine E.CG.seq ?_
  refine E.CG.list ?_
  refine E.GL.st rfl rfl rfl (E.ST.box rfl rfl fun g1 w1 e1 b1 l1 => ?_)
  have h1_L : w.heap.size ≤ g1 := by rw [e1]; exact L.size
  replace L := below_step L l1
  refine E.GL.run rfl rfl rfl (E.Runs.assign rfl rfl) ?_
  refine E.GL.done ?_
  refine E.QG.code ?_
  refine E.CG.seq ?_
  refine E.CG.list ?_
  refine E.GL.run rfl rfl rfl (E.Runs.makeFunc rfl (E.evc rfl E.evn)) ?_
  refine E.GL.run rfl rfl rfl (E.Runs.assign rfl rfl) ?_
  refine E.GL.done ?_
  refine E.QG.code ?_
  refine E.CG.ret ?_
  exact E.QG.result rfl rfl ⟨_, rfl, b1, h1_L, L⟩

theorem programs_seq (V : Wk) (m : Wa) (g n : Nat) (w w6 : World) (ok : Shp V) (L : Below w.heap.size w w6) (b : w6.heap[g]? = some (.cells #[.int .i64 V.d, .slice m.A V.rs.length m.a, .int .i64 V.h, .slice m.B V.fs.length m.b, .slice m.C V.ds.length m.c] 26 (0, 0))) (hgw : w.heap.size ≤ g) :
    E.SeqC n Try.prog 80 #[.pointer (some ⟨g, 0, none⟩)] (itV V) (fun x => x.2) (Fp V) (KpP w g) (fun xs => xs.map Prod.fst = (List.range (nP V)).map (pr V)) w6 :=
  fun l J W hW hJ h hj => callsIn_wide.2 (programs_run V m g w W l n J ok (L.trans (hW.mono L.size)) (blk_below b hW) hgw hJ hj h)
end Go.Proofs.Ytdiambcjghlffaa.T
namespace Go.Proofs.Ytdiambcjghlffaa.T
open Go.RowKit Go.Proofs.YtdiambcjghlffaaW.PrintWords Go.Proofs.YtdiambcjghlffaaW.PrintMore
open Go.Proofs.Ytdiambcjghlffaa.P
set_option linter.unusedVariables false
set_option linter.unusedSimpArgs false

set_option maxRecDepth 100000 in
theorem eqNil22 (A : Option Addr) (n c : Nat) (W : World) : (Op.equal 22 (.slice A n c) (.slice none 0 0)).run Try.prog W = .ok A.isNone W := by
  have hu22 := Try.underlying22
  unfold Op.equal Op.maxDepth
  rw [show (10000 : Nat) = 9999 + 1 from rfl]
  cases A <;> (unfold Op.equalIn; go_simp)
set_option maxRecDepth 100000 in
theorem lit22n (W : World) : (Instr.buildSlice 22 0 #[]).run Try.prog W = .ok (.slice (some ⟨W.heap.size, 0, none⟩) 0 0) (W.alloc (.cells #[] 3)) := by
  have hu22 := Try.underlying22
  go_simp
theorem C_none {α : Type} {d : Kd α} {w : World} {xs : List α} (h : Kd.C d w none xs.length xs) : xs = [] := by
  cases xs with
  | nil => rfl
  | cons a l =>
    obtain ⟨ad, c, e, _⟩ := Kd.C_get h a 0 (by omega) (by simp only [List.length_cons]; omega)
    cases e
theorem made22 {W : World} {base : Nat} : ∀ (x : Int) cs, kI.K W x cs → kI.M W base (fun _ => False) x cs := fun x cs h => h
theorem C_nums {w : World} {g : Nat} (l : List Int) (hb : w.heap[g]? = some (.cells (l.map (Value.int .i64)).toArray 3 (0, 0))) (hn : l.length ≤ 1000000) : Kd.C kI w (some ⟨g, 0, none⟩) l.length l := by
  refine ⟨rfl, by omega, fun _ => ⟨_, rfl, ?_⟩⟩
  intro j p hj
  refine ⟨[.int .i64 p], rfl, rfl, fun i u hu => ?_⟩
  have hi : i = 0 := by have := (List.getElem?_eq_some_iff.1 hu).1; simpa using this
  subst hi
  rw [Addr.add_mid, Nat.zero_add, blk_cell hb]
  have : (l.map (Value.int .i64))[j]? = some u := by rw [List.getElem?_map, hj]; exact hu
  show (l.map (Value.int .i64)).toArray[j * 1 + 0]? = some u
  simpa using this
/-- The elements of a set. -/
def elN (s n : Nat) : List Int := ((List.range n).filter (fun i => decide (s / 2 ^ i % 2 = 1))).map (fun (i : Nat) => (i : Int))
theorem elN_yes {s i : Nat} (h : s / 2 ^ i % 2 = 1) : elN s (i + 1) = elN s i ++ [(i : Int)] := by
  unfold elN
  rw [List.range_succ, List.filter_append, List.map_append]
  simp [h]
theorem elN_no {s i : Nat} (h : ¬ s / 2 ^ i % 2 = 1) : elN s (i + 1) = elN s i := by
  unfold elN
  rw [List.range_succ, List.filter_append, List.map_append]
  simp [h]
theorem elN_len (s n : Nat) : (elN s n).length ≤ n := by
  unfold elN
  rw [List.length_map]
  have := List.length_filter_le (fun i => decide (s / 2 ^ i % 2 = 1)) (List.range n)
  rw [List.length_range] at this
  exact this
theorem pow_8 {n : Nat} (h : n ≤ 8) : 1 ≤ 2 ^ n ∧ 2 ^ n ≤ 256 := ⟨Nat.pow_pos (by decide), Nat.pow_le_pow_right (n := 2) (by decide) h⟩
theorem all_wrap {n : Nat} (h : n ≤ 8) : IntKind.u64.wrap (((1 * 2 ^ n : Nat) : Int) - 1) = ((2 ^ n - 1 : Nat) : Int) := by
  have := pow_8 h
  rw [Nat.one_mul]
  generalize 2 ^ n = q at this ⊢
  rw [show (q : Int) - 1 = ((q - 1 : Nat) : Int) by omega]
  exact E.u64_in _ (by omega)
set_option maxRecDepth 100000 in
set_option maxHeartbeats 8000000 in

theorem same_calls (l k : List Int) (A A1 : Option Addr) (c c1 : Nat) (w : World) (r : Bool) (hb : r = true ↔ l = k) (h1 : Kd.C kI w A l.length l) (h2 : Kd.C kI w A1 k.length k) (hn : l.length ≤ 1000000) :
    Calls Try.prog 21 #[.slice A l.length c, .slice A1 k.length c1] w fun e w' => e = .returned (.bool r) ∧ Below w.heap.size w w' := by
  have hu3 := Try.underlying3
  have hu22 := Try.underlying22
  obtain ⟨z3, o3⟩ := info_some info3s (by decide)
  refine E.enter (N := 26) Try.func21 rfl Try.ntmps21 (args := [.slice A l.length c, .slice A1 k.length c1]) (by simp) ?_
  have L := Below.refl w.heap.size w
  refine E.CG.seq ?_
  refine E.CG.list ?_
  refine E.GL.run rfl rfl rfl (E.Runs.assign rfl rfl) ?_
  refine E.GL.done ?_
  refine E.QG.code ?_
  refine E.CG.seq ?_
  refine E.CG.seq ?_
  refine E.CG.list ?_
  refine E.GL.run rfl rfl rfl (E.Runs.move rfl rfl) ?_
  refine E.GL.run rfl rfl rfl (E.Runs.len rfl rfl hu22) ?_
  refine E.GL.run rfl rfl rfl (E.Runs.move rfl rfl) ?_
  refine E.GL.run rfl rfl rfl (E.Runs.len rfl rfl hu22) ?_
  refine E.GL.cmpn rfl rfl rfl (fun _ h => (E.Runs.neq rfl rfl rfl h)) (fun h10 => ?_) (fun h10 => ?_)
  · refine E.GL.done ?_
    refine E.QG.code ?_
    refine E.CG.cond_t rfl ?_
    refine E.CG.seq ?_
    refine E.CG.list ?_
    refine E.GL.run rfl rfl rfl (E.Runs.assign rfl rfl) ?_
    refine E.GL.done ?_
    refine E.QG.code ?_
    refine E.CG.ret ?_
    refine E.QG.pass_ret ?_
    exact E.QG.result rfl rfl ⟨by rw [bool_no hb (fun e => h10 (by rw [e]))], L⟩
  · refine E.GL.done ?_
    refine E.QG.code ?_
    refine E.CG.cond_f rfl ?_
    refine E.CG.skip ?_
    refine E.QG.code ?_
    refine E.CG.seq ?_
    refine E.CG.seq ?_
    refine E.CG.list ?_
    refine E.GL.run rfl rfl rfl (E.Runs.assign rfl rfl) ?_
    refine E.GL.done ?_
    refine E.QG.code ?_
    refine E.CG.block ?_
    have s4_L := L
    refine E.CG.loop (fun (i : Nat) => [(0, .slice A l.length c), (1, .slice A1 k.length c1), (5, .int .i64 i)]) (fun i w' => i ≤ l.length ∧ Below w.heap.size w w' ∧ ∀ j, j < i → l[j]? = k[j]?) (fun i => l.length - i) 0 (E.subc rfl (E.subc rfl (E.subc rfl E.subn))) ⟨Nat.zero_le _, L, fun j hj => by omega⟩ ?_
    rintro i w4 ⟨hi, L, hs⟩
    refine E.CG.seq ?_
    refine E.CG.seq ?_
    refine E.CG.list ?_
    refine E.GL.run rfl rfl rfl (E.Runs.move rfl rfl) ?_
    refine E.GL.run rfl rfl rfl (E.Runs.move rfl rfl) ?_
    refine E.GL.run rfl rfl rfl (E.Runs.len rfl rfl hu22) ?_
    refine E.GL.cmp rfl rfl rfl (fun _ h => (E.Runs.lss rfl rfl rfl h)) (fun h14 => ?_) (fun h14 => ?_)
    · obtain ⟨x, hx⟩ := get_ex (show i < l.length by omega)
      obtain ⟨ad, eA, X⟩ := int_at h1 hx
      obtain ⟨y, hy⟩ := get_ex (show i < k.length by omega)
      obtain ⟨ae, eB, Y⟩ := int_at h2 hy
      have hik : (i : Int) < l.length := by omega
      have hik2 : (i : Int) < k.length := by omega
      refine E.GL.done ?_
      refine E.QG.code ?_
      refine E.CG.cond_t rfl ?_
      refine E.CG.skip ?_
      refine E.QG.code ?_
      refine E.CG.seq ?_
      refine E.CG.block ?_
      refine E.CG.seq ?_
      refine E.CG.quietF (by kernel_rfl) rfl (by kernel_rfl) (by kernel_rfl) ?_
      refine E.GQ.run rfl rfl rfl (E.Runs.move rfl rfl) ?_
      refine E.GQ.run rfl rfl rfl (E.Runs.move rfl rfl) ?_
      refine E.GQ.run rfl rfl rfl (E.Runs.indexAddrA rfl rfl rfl hu22 (by assumption) (by assumption) (by assumption) (by first | rfl | assumption) rfl) ?_
      refine E.GQ.run rfl rfl rfl (E.Runs.load rfl rfl hu3 (by first | assumption | exact E.blkc (by assumption) rfl | exact pw_cell_below L (by assumption))) ?_
      refine E.GQ.run rfl rfl rfl (E.Runs.move rfl rfl) ?_
      refine E.GQ.run rfl rfl rfl (E.Runs.move rfl rfl) ?_
      refine E.GQ.run rfl rfl rfl (E.Runs.indexAddrA rfl rfl rfl hu22 (by assumption) (by assumption) (by assumption) (by first | rfl | assumption) rfl) ?_
      refine E.GQ.run rfl rfl rfl (E.Runs.load rfl rfl hu3 (by first | assumption | exact E.blkc (by assumption) rfl | exact pw_cell_below L (by assumption))) ?_
      refine E.GQ.cmpn rfl rfl rfl (fun _ h => (E.Runs.neq rfl rfl rfl h)) (fun h25 => ?_) (fun h25 => ?_)
      · refine E.GQ.doneB fun v6 lD => ?_
        replace L := below_step L lD
        have lD6 := lD
        clear lD
        refine E.QG.code ?_
        refine E.CG.cond_t rfl ?_
        refine E.CG.seq ?_
        refine E.CG.list ?_
        refine E.GL.run rfl rfl rfl (E.Runs.assign rfl rfl) ?_
        refine E.GL.done ?_
        refine E.QG.code ?_
        refine E.CG.ret ?_
        refine E.QG.block_ret ?_
        refine E.QG.pass_ret ?_
        refine E.QG.pass_ret ?_
        refine E.QG.block_ret ?_
        refine E.QG.pass_ret ?_
        exact E.QG.result rfl rfl ⟨by rw [bool_no hb (fun e => by subst e; rw [hx] at hy; cases hy; exact h25 rfl)], L⟩
      · refine E.GQ.doneB fun v6 lD => ?_
        replace L := below_step L lD
        have lD6 := lD
        clear lD
        refine E.QG.code ?_
        refine E.CG.cond_f rfl ?_
        refine E.CG.skip ?_
        refine E.QG.block_normal ?_
        refine E.QG.code ?_
        refine E.CG.list ?_
        refine E.GL.run rfl rfl rfl (E.Runs.move rfl rfl) ?_
        refine E.GL.run rfl rfl rfl (E.Runs.add rfl rfl rfl (IntWalk.i64_in _ (by omega))) ?_
        refine E.GL.run rfl rfl rfl (E.Runs.assign rfl rfl) ?_
        refine E.GL.done ?_
        exact E.QG.round (i + 1) (E.subc rfl (E.subc rfl (E.subc rfl E.subn))) ⟨by omega, L, fun j hj => (Nat.lt_or_ge j i).elim (hs j) (fun q => (show j = i by omega) ▸ (by rw [hx, hy, h25]))⟩ (by omega)
    · refine E.GL.done ?_
      refine E.QG.code ?_
      refine E.CG.cond_f rfl ?_
      refine E.CG.exit ?_
      refine E.QG.pass_exit ?_
      refine E.QG.pass_exit ?_
      refine E.QG.block_here ?_
      refine E.QG.code ?_
      refine E.CG.seq ?_
      refine E.CG.list ?_
      refine E.GL.run rfl rfl rfl (E.Runs.assign rfl rfl) ?_
      refine E.GL.done ?_
      refine E.QG.code ?_
      refine E.CG.ret ?_
      exact E.QG.result rfl rfl ⟨by rw [hb.mpr (List.ext_getElem? fun j => (Nat.lt_or_ge j i).elim (hs j) (fun q => by rw [List.getElem?_eq_none (by omega), List.getElem?_eq_none (by omega)]))], L⟩

set_option maxRecDepth 100000 in
set_option maxHeartbeats 8000000 in

theorem clone73 (l : List Int) (A : Option Addr) (n c : Nat) (w : World) (hr : Kd.C kI w A n l) (hn : n ≤ 1000000) :
    Calls Try.prog 73 #[.slice A n c] w fun e w' => ∃ v, e = .returned v ∧ Kd.R kI 3 w' w.heap.size (fun _ => True) v l ∧ Below w.heap.size w w' := by
  have hu22 := Try.underlying22
  have hln : l.length = n := Kd.C_len hr
  refine E.enter (N := 8) Try.func73 rfl Try.ntmps73 (args := [.slice A n c]) (by simp) ?_
  have L := Below.refl w.heap.size w
  refine E.CG.seq ?_
  refine E.CG.list ?_
  refine E.GL.run rfl rfl rfl (E.Runs.assign rfl rfl) ?_
  refine E.GL.done ?_
  refine E.QG.code ?_
  refine E.CG.seq ?_
  refine E.CG.seq ?_
  refine E.CG.list ?_
  refine E.GL.run rfl rfl rfl (E.Runs.move rfl rfl) ?_
  rcases A with _ | ad
  · refine E.GL.run rfl rfl rfl (E.Runs.eqlv rfl rfl rfl rfl (fun _ _ _ => rfl) (eqNil22 _ _ _)) ?_
    refine E.GL.done ?_
    refine E.QG.code ?_
    refine E.CG.cond_t rfl ?_
    refine E.CG.seq ?_
    refine E.CG.list ?_
    refine E.GL.run rfl rfl rfl (E.Runs.assign rfl rfl) ?_
    refine E.GL.done ?_
    refine E.QG.code ?_
    refine E.CG.ret ?_
    refine E.QG.pass_ret ?_
    have hl : l = [] := C_none (hln ▸ hr)
    subst hl
    exact E.QG.result rfl rfl ⟨_, rfl, Kd.R_nil _ _ _ _ _, L⟩
  · refine E.GL.run rfl rfl rfl (E.Runs.eqlv rfl rfl rfl rfl (fun _ _ _ => rfl) (eqNil22 _ _ _)) ?_
    refine E.GL.done ?_
    refine E.QG.code ?_
    refine E.CG.cond_f rfl ?_
    refine E.CG.skip ?_
    refine E.QG.code ?_
    refine E.CG.seq ?_
    refine E.CG.list ?_
    refine E.GL.st rfl rfl rfl (E.ST.litAt kI w.heap.size (w0 := w) (ys := ([] : List Int)) (inner := []) rfl rfl E.epn lit22n (Reps.none _ _) L L.size (by simp) fun u5 w5 r5 k5 l5 n5 => ?_)
    replace L := k5
    refine E.GL.run rfl rfl rfl (E.Runs.move rfl rfl) ?_
    refine E.GL.st rfl rfl rfl (E.ST.appendRows kI w.heap.size (w0 := w) (s := .tmp 5) (x := .tmp 6) rfl hu22 info3 rfl (by decide) (by decide) rfl rfl r5 (Kd.C_below hr L) made22 L L.size (by simp only [List.length_nil]; omega) fun u7 w7 r7 k7 g7 => ?_)
    replace L := k7
    refine E.GL.run rfl rfl rfl (E.Runs.assign rfl rfl) ?_
    refine E.GL.done ?_
    refine E.QG.code ?_
    refine E.CG.ret ?_
    exact E.QG.result rfl rfl ⟨_, rfl, by simpa using r7, L⟩

set_option maxRecDepth 100000 in
set_option maxHeartbeats 8000000 in

theorem all_calls (V : Wk) (m : Wa) (w : World) (h8 : V.ds.length ≤ 8) :
    Calls Try.prog 39 #[wv V m] w fun e w' => e = .returned (.int .u64 ((2 ^ V.ds.length - 1 : Nat) : Int)) ∧ Below w.heap.size w w' := by
  have hu24 := Try.underlying24
  have hu26 := Try.underlying26
  obtain ⟨z24, o24⟩ := info_some info24s (by decide)
  have h256 := pow_8 h8
  refine E.enter (N := 8) Try.func39 rfl Try.ntmps39 (args := [wv V m]) (by simp) ?_
  have L := Below.refl w.heap.size w
  refine E.CG.seq ?_
  refine E.CG.list ?_
  refine E.GL.st rfl rfl rfl (E.ST.box rfl rfl fun g1 w1 e1 b1 l1 => ?_)
  have h1_L : w.heap.size ≤ g1 := by rw [e1]; exact L.size
  replace L := below_step L l1
  refine E.GL.run rfl rfl rfl (E.Runs.assign rfl rfl) ?_
  refine E.GL.done ?_
  refine E.QG.code ?_
  refine E.CG.seq ?_
  refine E.CG.list ?_
  refine E.GL.run rfl rfl rfl (E.Runs.fieldAddr rfl rfl hu26 rfl (by assumption) rfl) ?_
  refine E.GL.run rfl rfl rfl (E.Runs.load1 rfl rfl hu24 rfl (by first | assumption | exact E.blkc (by assumption) rfl | exact pw_cell_below L (by assumption))) ?_
  refine E.GL.run rfl rfl rfl (E.Runs.len rfl rfl hu24) ?_
  refine E.GL.run rfl rfl rfl (E.Runs.shl (a := 1) (n := V.ds.length) (.inl rfl) rfl rfl rfl (by omega) (by rw [Nat.one_mul]; exact Nat.lt_of_le_of_lt h256.2 (by decide))) ?_
  refine E.GL.run rfl rfl rfl (E.Runs.sub rfl rfl rfl (all_wrap h8)) ?_
  refine E.GL.run rfl rfl rfl (E.Runs.assign rfl rfl) ?_
  refine E.GL.done ?_
  refine E.QG.code ?_
  refine E.CG.ret ?_
  exact E.QG.result rfl rfl ⟨rfl, L⟩

set_option maxRecDepth 100000 in
set_option maxHeartbeats 8000000 in

theorem list_calls (s : Nat) (w : World) (hs : s < 256) :
    Calls Try.prog 41 #[.int .u64 (s : Int)] w fun e w' => ∃ v, e = .returned v ∧ Kd.R kI 3 w' w.heap.size (fun _ => True) v (elN s 8) ∧ Below w.heap.size w w' := by
  have hu3 := Try.underlying3
  have hu22 := Try.underlying22
  obtain ⟨z3, o3⟩ := info_some info3s (by decide)
  refine E.enter (N := 19) Try.func41 rfl Try.ntmps41 (args := [.int .u64 (s : Int)]) (by simp) ?_
  have L := Below.refl w.heap.size w
  refine E.CG.seq ?_
  refine E.CG.list ?_
  refine E.GL.run rfl rfl rfl (E.Runs.assign rfl rfl) ?_
  refine E.GL.done ?_
  refine E.QG.code ?_
  refine E.CG.seq ?_
  refine E.CG.list ?_
  refine E.GL.run rfl rfl rfl (E.Runs.assign rfl rfl) ?_
  refine E.GL.done ?_
  refine E.QG.code ?_
  refine E.CG.seq ?_
  refine E.CG.seq ?_
  refine E.CG.list ?_
  refine E.GL.run rfl rfl rfl (E.Runs.move rfl rfl) ?_
  refine E.GL.done ?_
  refine E.QG.code ?_
  refine E.CG.block ?_
  have s3_L := L
  refine E.CG.loop2 (fun (i : Nat) (v3 : Value) => [(0, .int .u64 (s : Int)), (3, v3), (5, .int .i64 i)]) (fun i v3 w' => i ≤ 8 ∧ Kd.R kI 3 w' w.heap.size (fun _ => True) v3 (elN s i) ∧ Below w.heap.size w w') (fun i v3 => 8 - i) 0 (.slice none 0 0) (E.subc rfl (E.subc rfl (E.subc rfl E.subn))) ⟨Nat.zero_le _, Kd.R_nil _ _ _ _ _, L⟩ ?_
  rintro i v3 w3 ⟨hi, R3, L⟩
  refine E.CG.seq ?_
  refine E.CG.list ?_
  refine E.GL.cmp rfl rfl rfl (fun _ h => (E.Runs.lss rfl rfl rfl h)) (fun h6 => ?_) (fun h6 => ?_)
  · refine E.GL.done ?_
    refine E.QG.code ?_
    refine E.CG.seq ?_
    refine E.CG.cond_t rfl ?_
    refine E.CG.skip ?_
    refine E.QG.code ?_
    refine E.CG.seq ?_
    refine E.CG.block ?_
    refine E.CG.seq ?_
    refine E.CG.list ?_
    refine E.GL.run rfl rfl rfl (E.Runs.move rfl rfl) ?_
    refine E.GL.run rfl rfl rfl (E.Runs.assign rfl rfl) ?_
    refine E.GL.done ?_
    refine E.QG.code ?_
    refine E.CG.seq ?_
    refine E.CG.list ?_
    refine E.GL.run rfl rfl rfl (E.Runs.move rfl rfl) ?_
    refine E.GL.run rfl rfl rfl (E.Runs.move rfl rfl) ?_
    refine E.GL.run rfl rfl rfl (E.Runs.shr (a := s) (n := i) (.inl rfl) rfl rfl rfl (by omega)) ?_
    refine E.GL.run rfl rfl rfl (E.Runs.and (a := s / 2 ^ i) (b := 1) (.inl rfl) rfl rfl rfl (Nat.lt_of_le_of_lt (Nat.div_le_self _ _) (by omega)) (by decide)) ?_
    refine E.GL.cmp rfl rfl rfl (fun _ h => (E.Runs.eql rfl rfl rfl h)) (fun h12 => ?_) (fun h12 => ?_)
    · have hbit : s / 2 ^ i % 2 = 1 := by rw [← Nat.and_one_is_mod]; omega
      refine E.GL.done ?_
      refine E.QG.code ?_
      refine E.CG.cond_t rfl ?_
      refine E.CG.list ?_
      refine E.GL.run rfl rfl rfl (E.Runs.move rfl rfl) ?_
      refine E.GL.run rfl rfl rfl (E.Runs.move rfl rfl) ?_
      refine E.GL.st rfl rfl rfl (E.ST.lit rfl (E.epc rfl E.epn) (lit22 _) ?_)
      refine E.GL.st rfl rfl rfl (E.ST.append kI w.heap.size (w0 := w) (s := .tmp 13) (x := .tmp 15) rfl hu22 info3 rfl (by decide) (by decide) (i : Int) rfl rfl rfl (fun _ _ => trivial) R3 L L.size (by have := elN_len s i; omega) fun u16 w16 r16 k16 gr16 => ?_)
      replace L := k16
      refine E.GL.run rfl rfl rfl (E.Runs.assign rfl rfl) ?_
      refine E.GL.done ?_
      refine E.QG.block_normal ?_
      refine E.QG.code ?_
      refine E.CG.list ?_
      refine E.GL.run rfl rfl rfl (E.Runs.add rfl rfl rfl (IntWalk.i64_in _ (by omega))) ?_
      refine E.GL.run rfl rfl rfl (E.Runs.move rfl rfl) ?_
      refine E.GL.done ?_
      exact E.QG.round2 (d := .slice none 0 0) (i + 1) _ (E.subc rfl (E.subc rfl (E.subc rfl E.subn))) (by first | exact ⟨by omega, by rw [elN_yes hbit]; exact r16, L⟩ | exact ⟨by omega, by rw [elN_no hbit]; exact R3, L⟩ | fail) (by omega)
    · have hbit : ¬ s / 2 ^ i % 2 = 1 := by rw [← Nat.and_one_is_mod]; omega
      refine E.GL.done ?_
      refine E.QG.code ?_
      refine E.CG.cond_f rfl ?_
      refine E.CG.skip ?_
      refine E.QG.block_normal ?_
      refine E.QG.code ?_
      refine E.CG.list ?_
      refine E.GL.run rfl rfl rfl (E.Runs.add rfl rfl rfl (IntWalk.i64_in _ (by omega))) ?_
      refine E.GL.run rfl rfl rfl (E.Runs.move rfl rfl) ?_
      refine E.GL.done ?_
      exact E.QG.round2 (d := .slice none 0 0) (i + 1) _ (E.subc rfl (E.subc rfl (E.subc rfl E.subn))) (by first | exact ⟨by omega, by rw [elN_yes hbit]; exact r16, L⟩ | exact ⟨by omega, by rw [elN_no hbit]; exact R3, L⟩ | fail) (by omega)
  · obtain rfl : i = 8 := by omega
    refine E.GL.done ?_
    refine E.QG.code ?_
    refine E.CG.seq ?_
    refine E.CG.cond_f rfl ?_
    refine E.CG.exit ?_
    refine E.QG.pass_exit ?_
    refine E.QG.pass_exit ?_
    refine E.QG.block_here ?_
    refine E.QG.code ?_
    refine E.CG.seq ?_
    refine E.CG.list ?_
    refine E.GL.run rfl rfl rfl (E.Runs.move rfl rfl) ?_
    refine E.GL.run rfl rfl rfl (E.Runs.assign rfl rfl) ?_
    refine E.GL.done ?_
    refine E.QG.code ?_
    refine E.CG.ret ?_
    exact E.QG.result rfl rfl ⟨_, rfl, R3, L⟩

end Go.Proofs.Ytdiambcjghlffaa.T
namespace Go.Proofs.Ytdiambcjghlffaa.T
open Go.RowKit Go.Proofs.YtdiambcjghlffaaW.PrintWords Go.Proofs.YtdiambcjghlffaaW.PrintMore
open Go.Proofs.Ytdiambcjghlffaa.P
set_option linter.unusedVariables false
set_option linter.unusedSimpArgs false

/-- Fewer, or as many and less at the first place where they differ. -/
def Lx (a b : List Int) : Prop := ∃ (i : Nat) (x y : Int), a[i]? = some x ∧ b[i]? = some y ∧ x < y ∧ ∀ j : Nat, j < i → a[j]? = b[j]?
def Bf (a b : List Int) : Prop := a.length < b.length ∨ a.length = b.length ∧ Lx a b
theorem lx_at {a b : List Int} {i : Nat} {x y : Int} (hs : ∀ j : Nat, j < i → a[j]? = b[j]?) (hx : a[i]? = some x) (hy : b[i]? = some y) (hne : x ≠ y) : Lx a b ↔ x < y := by
  constructor
  · rintro ⟨q, x', y', h1, h2, h3, h4⟩
    rcases Nat.lt_trichotomy q i with h | h | h
    · have := hs q h
      rw [h1, h2] at this
      injection this with this
      omega
    · subst h
      rw [hx] at h1
      rw [hy] at h2
      injection h1 with h1
      injection h2 with h2
      omega
    · have := h4 i h
      rw [hx, hy] at this
      injection this with this
      omega
  · intro h
    exact ⟨i, x, y, hx, hy, h, hs⟩
theorem lx_same {a b : List Int} {i : Nat} (hs : ∀ j : Nat, j < i → a[j]? = b[j]?) (hi : a.length ≤ i) : ¬ Lx a b := by
  rintro ⟨q, x, y, h1, h2, h3, h4⟩
  have hq := (List.getElem?_eq_some_iff.1 h1).1
  have := hs q (by omega)
  rw [h1, h2] at this
  injection this with this
  omega
/-- Far too much of something. -/
def Hg (V : Wk) : Prop := (∃ x ∈ V.fs, 40 < x.f1.length) ∨ 40 < V.rs.length ∨ 40 < V.fs.length ∨ 40 < V.ds.length
theorem hg_no {V : Wk} (h : ¬ Hg V) : Sz V := by
  refine ⟨?_, ?_, fun x hx => ?_, ?_⟩
  · exact Nat.le_of_not_lt fun k => h (.inr (.inl (by omega)))
  · exact Nat.le_of_not_lt fun k => h (.inr (.inr (.inl (by omega))))
  · exact Nat.le_of_not_lt fun k => h (.inl ⟨x, hx, by omega⟩)
  · exact Nat.le_of_not_lt fun k => h (.inr (.inr (.inr (by omega))))
set_option maxRecDepth 100000 in
set_option maxHeartbeats 8000000 in

theorem has_r (l : List Int) (A : Option Addr) (c : Nat) (n : Int) (w : World) (r : Bool) (hb : r = true ↔ n ∈ l) (h : Kd.C kI w A l.length l) (hn : l.length ≤ 1000000) :
    Calls Try.prog 63 #[.slice A l.length c, .int .i64 n] w fun e w' => e = .returned (.bool r) ∧ Below w.heap.size w w' := by
  have hu3 := Try.underlying3
  have hu22 := Try.underlying22
  obtain ⟨z3, o3⟩ := info_some info3s (by decide)
  refine E.enter (N := 18) Try.func63 rfl Try.ntmps63 (args := [.slice A l.length c, .int .i64 n]) (by simp) ?_
  have L := Below.refl w.heap.size w
  refine E.CG.seq ?_
  refine E.CG.list ?_
  refine E.GL.run rfl rfl rfl (E.Runs.assign rfl rfl) ?_
  refine E.GL.done ?_
  refine E.QG.code ?_
  refine E.CG.seq ?_
  refine E.CG.seq ?_
  refine E.CG.list ?_
  refine E.GL.run rfl rfl rfl (E.Runs.assign rfl rfl) ?_
  refine E.GL.done ?_
  refine E.QG.code ?_
  refine E.CG.block ?_
  have s2_L := L
  refine E.CG.loop (fun (i : Nat) => [(0, .slice A l.length c), (1, .int .i64 n), (5, .int .i64 i)]) (fun i w' => i ≤ l.length ∧ Below w.heap.size w w' ∧ ∀ k, k < i → ∀ x, l[k]? = some x → x ≠ n) (fun i => l.length - i) 0 (E.subc rfl (E.subc rfl (E.subc rfl E.subn))) ⟨Nat.zero_le _, L, fun k hk => by omega⟩ ?_
  rintro i w2 ⟨hi, L, hno⟩
  refine E.CG.seq ?_
  refine E.CG.seq ?_
  refine E.CG.list ?_
  refine E.GL.run rfl rfl rfl (E.Runs.move rfl rfl) ?_
  refine E.GL.run rfl rfl rfl (E.Runs.move rfl rfl) ?_
  refine E.GL.run rfl rfl rfl (E.Runs.len rfl rfl hu22) ?_
  refine E.GL.cmp rfl rfl rfl (fun _ h => (E.Runs.lss rfl rfl rfl h)) (fun h9 => ?_) (fun h9 => ?_)
  · obtain ⟨x, hx⟩ := get_ex (show i < l.length by omega)
    obtain ⟨ad, eA, X⟩ := int_at h hx
    refine E.GL.done ?_
    refine E.QG.code ?_
    refine E.CG.cond_t rfl ?_
    refine E.CG.skip ?_
    refine E.QG.code ?_
    refine E.CG.seq ?_
    refine E.CG.block ?_
    refine E.CG.seq ?_
    refine E.CG.list ?_
    refine E.GL.run rfl rfl rfl (E.Runs.move rfl rfl) ?_
    refine E.GL.run rfl rfl rfl (E.Runs.move rfl rfl) ?_
    refine E.GL.run rfl rfl rfl (E.Runs.indexAddrA (i := i) rfl rfl rfl hu22 z3 o3 (by omega) eA rfl) ?_
    refine E.GL.run rfl rfl rfl (E.Runs.load rfl rfl hu3 (pw_cell_below L X)) ?_
    refine E.GL.run rfl rfl rfl (E.Runs.move rfl rfl) ?_
    refine E.GL.cmp rfl rfl rfl (fun _ h => (E.Runs.eql rfl rfl rfl h)) (fun h17 => ?_) (fun h17 => ?_)
    · refine E.GL.done ?_
      refine E.QG.code ?_
      refine E.CG.cond_t rfl ?_
      refine E.CG.seq ?_
      refine E.CG.list ?_
      refine E.GL.run rfl rfl rfl (E.Runs.assign rfl rfl) ?_
      refine E.GL.done ?_
      refine E.QG.code ?_
      refine E.CG.ret ?_
      refine E.QG.block_ret ?_
      refine E.QG.pass_ret ?_
      refine E.QG.pass_ret ?_
      refine E.QG.block_ret ?_
      refine E.QG.pass_ret ?_
      exact E.QG.result rfl rfl ⟨by rw [hb.mpr (h17 ▸ mem_of hx)], L⟩
    · refine E.GL.done ?_
      refine E.QG.code ?_
      refine E.CG.cond_f rfl ?_
      refine E.CG.skip ?_
      refine E.QG.block_normal ?_
      refine E.QG.code ?_
      refine E.CG.list ?_
      refine E.GL.run rfl rfl rfl (E.Runs.move rfl rfl) ?_
      refine E.GL.run rfl rfl rfl (E.Runs.add rfl rfl rfl (IntWalk.i64_in _ (by omega))) ?_
      refine E.GL.run rfl rfl rfl (E.Runs.assign rfl rfl) ?_
      refine E.GL.done ?_
      exact E.QG.round (i + 1) (E.subc rfl (E.subc rfl (E.subc rfl E.subn))) ⟨by omega, L, all_more hno hx h17⟩ (by omega)
  · refine E.GL.done ?_
    refine E.QG.code ?_
    refine E.CG.cond_f rfl ?_
    refine E.CG.exit ?_
    refine E.QG.pass_exit ?_
    refine E.QG.pass_exit ?_
    refine E.QG.block_here ?_
    refine E.QG.code ?_
    refine E.CG.seq ?_
    refine E.CG.list ?_
    refine E.GL.run rfl rfl rfl (E.Runs.assign rfl rfl) ?_
    refine E.GL.done ?_
    refine E.QG.code ?_
    refine E.CG.ret ?_
    exact E.QG.result rfl rfl ⟨by rw [bool_no hb (fun k => all_done hno (by omega) n k rfl)], L⟩

set_option maxRecDepth 100000 in
set_option maxHeartbeats 8000000 in

theorem elements_r (s : Nat) (w : World) (hs : s < 256) :
    Calls Try.prog 44 #[.int .i64 (s : Int)] w fun e w' => ∃ v, e = .returned v ∧ Kd.R kI 3 w' w.heap.size (fun _ => True) v (elN s 8) ∧ Below w.heap.size w w' := by
  have hu3 := Try.underlying3
  have hu22 := Try.underlying22
  have hu65 := Try.underlying65
  obtain ⟨z3, o3⟩ := info_some info3s (by decide)
  refine E.enter (N := 20) Try.func44 rfl Try.ntmps44 (args := [.int .i64 (s : Int)]) (by simp) ?_
  have L := Below.refl w.heap.size w
  refine E.CG.seq ?_
  refine E.CG.list ?_
  refine E.GL.run rfl rfl rfl (E.Runs.assign rfl rfl) ?_
  refine E.GL.done ?_
  refine E.QG.code ?_
  refine E.CG.seq ?_
  refine E.CG.list ?_
  refine E.GL.run rfl rfl rfl (E.Runs.assign rfl rfl) ?_
  refine E.GL.done ?_
  refine E.QG.code ?_
  refine E.CG.seq ?_
  refine E.CG.seq ?_
  refine E.CG.list ?_
  refine E.GL.run rfl rfl rfl (E.Runs.assign rfl rfl) ?_
  refine E.GL.done ?_
  refine E.QG.code ?_
  refine E.CG.block ?_
  have s3_L := L
  refine E.CG.loop2 (fun (i : Nat) (v3 : Value) => [(0, .int .i64 (s : Int)), (3, v3), (4, .int .i64 i)]) (fun i v3 w' => i ≤ 8 ∧ Kd.R kI 3 w' w.heap.size (fun _ => True) v3 (elN s i) ∧ Below w.heap.size w w') (fun i v3 => 8 - i) 0 (.slice none 0 0) (E.subc rfl (E.subc rfl (E.subc rfl E.subn))) ⟨Nat.zero_le _, Kd.R_nil _ _ _ _ _, L⟩ ?_
  rintro i v3 w3 ⟨hi, R3, L⟩
  refine E.CG.seq ?_
  refine E.CG.seq ?_
  refine E.CG.list ?_
  refine E.GL.run rfl rfl rfl (E.Runs.move rfl rfl) ?_
  refine E.GL.cmp rfl rfl rfl (fun _ h => (E.Runs.lss rfl rfl rfl h)) (fun h6 => ?_) (fun h6 => ?_)
  · refine E.GL.done ?_
    refine E.QG.code ?_
    refine E.CG.cond_t rfl ?_
    refine E.CG.skip ?_
    refine E.QG.code ?_
    refine E.CG.seq ?_
    refine E.CG.block ?_
    refine E.CG.seq ?_
    refine E.CG.list ?_
    refine E.GL.run rfl rfl rfl (E.Runs.move rfl rfl) ?_
    refine E.GL.run rfl rfl rfl (E.Runs.move rfl rfl) ?_
    refine E.GL.run rfl rfl rfl (E.Runs.conv (a := i) hu65 hu3 (.inl rfl) rfl rfl (by omega)) ?_
    refine E.GL.run rfl rfl rfl (E.Runs.shr (a := s) (n := i) (.inr rfl) rfl rfl rfl (by omega)) ?_
    refine E.GL.run rfl rfl rfl (E.Runs.and (a := s / 2 ^ i) (b := 1) (.inr rfl) rfl rfl rfl (Nat.lt_of_le_of_lt (Nat.div_le_self _ _) (by omega)) (by decide)) ?_
    refine E.GL.cmp rfl rfl rfl (fun _ h => (E.Runs.eql rfl rfl rfl h)) (fun h14 => ?_) (fun h14 => ?_)
    · have hbit : s / 2 ^ i % 2 = 1 := by rw [← Nat.and_one_is_mod]; omega
      refine E.GL.done ?_
      refine E.QG.code ?_
      refine E.CG.cond_t rfl ?_
      refine E.CG.list ?_
      refine E.GL.run rfl rfl rfl (E.Runs.move rfl rfl) ?_
      refine E.GL.run rfl rfl rfl (E.Runs.move rfl rfl) ?_
      refine E.GL.st rfl rfl rfl (E.ST.lit rfl (E.epc rfl E.epn) (lit22 _) ?_)
      refine E.GL.st rfl rfl rfl (E.ST.append kI w.heap.size (w0 := w) (s := .tmp 15) (x := .tmp 17) rfl hu22 info3 rfl (by decide) (by decide) (i : Int) rfl rfl rfl (fun _ _ => trivial) R3 L L.size (by have := elN_len s i; omega) fun u18 w18 r18 k18 gr18 => ?_)
      replace L := k18
      refine E.GL.run rfl rfl rfl (E.Runs.assign rfl rfl) ?_
      refine E.GL.done ?_
      refine E.QG.block_normal ?_
      refine E.QG.code ?_
      refine E.CG.list ?_
      refine E.GL.run rfl rfl rfl (E.Runs.move rfl rfl) ?_
      refine E.GL.run rfl rfl rfl (E.Runs.add rfl rfl rfl (IntWalk.i64_in _ (by omega))) ?_
      refine E.GL.run rfl rfl rfl (E.Runs.assign rfl rfl) ?_
      refine E.GL.done ?_
      exact E.QG.round2 (d := .slice none 0 0) (i + 1) _ (E.subc rfl (E.subc rfl (E.subc rfl E.subn))) (by first | exact ⟨by omega, by rw [elN_yes hbit]; exact r18, L⟩ | exact ⟨by omega, by rw [elN_no hbit]; exact R3, L⟩ | fail) (by omega)
    · have hbit : ¬ s / 2 ^ i % 2 = 1 := by rw [← Nat.and_one_is_mod]; omega
      refine E.GL.done ?_
      refine E.QG.code ?_
      refine E.CG.cond_f rfl ?_
      refine E.CG.skip ?_
      refine E.QG.block_normal ?_
      refine E.QG.code ?_
      refine E.CG.list ?_
      refine E.GL.run rfl rfl rfl (E.Runs.move rfl rfl) ?_
      refine E.GL.run rfl rfl rfl (E.Runs.add rfl rfl rfl (IntWalk.i64_in _ (by omega))) ?_
      refine E.GL.run rfl rfl rfl (E.Runs.assign rfl rfl) ?_
      refine E.GL.done ?_
      exact E.QG.round2 (d := .slice none 0 0) (i + 1) _ (E.subc rfl (E.subc rfl (E.subc rfl E.subn))) (by first | exact ⟨by omega, by rw [elN_yes hbit]; exact r18, L⟩ | exact ⟨by omega, by rw [elN_no hbit]; exact R3, L⟩ | fail) (by omega)
  · obtain rfl : i = 8 := by omega
    refine E.GL.done ?_
    refine E.QG.code ?_
    refine E.CG.cond_f rfl ?_
    refine E.CG.exit ?_
    refine E.QG.pass_exit ?_
    refine E.QG.pass_exit ?_
    refine E.QG.block_here ?_
    refine E.QG.code ?_
    refine E.CG.seq ?_
    refine E.CG.list ?_
    refine E.GL.run rfl rfl rfl (E.Runs.move rfl rfl) ?_
    refine E.GL.run rfl rfl rfl (E.Runs.assign rfl rfl) ?_
    refine E.GL.done ?_
    refine E.QG.code ?_
    refine E.CG.ret ?_
    exact E.QG.result rfl rfl ⟨_, rfl, R3, L⟩

set_option maxRecDepth 100000 in
set_option maxHeartbeats 8000000 in

theorem before_r (l k : List Int) (A A1 : Option Addr) (c c1 : Nat) (w : World) (r : Bool) (hb : r = true ↔ Bf l k) (h1 : Kd.C kI w A l.length l) (h2 : Kd.C kI w A1 k.length k) (hn : l.length ≤ 1000000) :
    Calls Try.prog 45 #[.slice A l.length c, .slice A1 k.length c1] w fun e w' => e = .returned (.bool r) ∧ Below w.heap.size w w' := by
  have hu3 := Try.underlying3
  have hu22 := Try.underlying22
  obtain ⟨z3, o3⟩ := info_some info3s (by decide)
  refine E.enter (N := 42) Try.func45 rfl Try.ntmps45 (args := [.slice A l.length c, .slice A1 k.length c1]) (by simp) ?_
  have L := Below.refl w.heap.size w
  refine E.CG.seq ?_
  refine E.CG.list ?_
  refine E.GL.run rfl rfl rfl (E.Runs.assign rfl rfl) ?_
  refine E.GL.done ?_
  refine E.QG.code ?_
  refine E.CG.seq ?_
  refine E.CG.seq ?_
  refine E.CG.list ?_
  refine E.GL.run rfl rfl rfl (E.Runs.assign rfl rfl) ?_
  refine E.GL.done ?_
  refine E.QG.code ?_
  refine E.CG.block ?_
  have s2_L := L
  refine E.CG.loop (fun (i : Nat) => [(0, .slice A l.length c), (1, .slice A1 k.length c1), (5, .int .i64 i)]) (fun i w' => i ≤ l.length ∧ Below w.heap.size w w' ∧ ∀ j, j < i → l[j]? = k[j]?) (fun i => l.length - i) 0 (E.subc rfl (E.subc rfl (E.subc rfl E.subn))) ⟨Nat.zero_le _, L, fun j hj => by omega⟩ ?_
  rintro i w2 ⟨hi, L, hs⟩
  refine E.CG.seq ?_
  refine E.CG.seq ?_
  refine E.CG.list ?_
  refine E.GL.run rfl rfl rfl (E.Runs.move rfl rfl) ?_
  refine E.GL.run rfl rfl rfl (E.Runs.move rfl rfl) ?_
  refine E.GL.run rfl rfl rfl (E.Runs.len rfl rfl hu22) ?_
  refine E.GL.cmp rfl rfl rfl (fun _ h => (E.Runs.lss rfl rfl rfl h)) (fun h9 => ?_) (fun h9 => ?_)
  · refine E.GL.run rfl rfl rfl (E.Runs.move rfl rfl) ?_
    refine E.GL.run rfl rfl rfl (E.Runs.move rfl rfl) ?_
    refine E.GL.run rfl rfl rfl (E.Runs.len rfl rfl hu22) ?_
    refine E.GL.run rfl rfl rfl (E.Runs.move rfl rfl) ?_
    refine E.GL.run rfl rfl rfl (E.Runs.len rfl rfl hu22) ?_
    refine E.GL.cmp rfl rfl rfl (fun _ h => (E.Runs.eql rfl rfl rfl h)) (fun h15 => ?_) (fun h15 => ?_)
    · obtain ⟨x, hx⟩ := get_ex (show i < l.length by omega)
      obtain ⟨ad, eA, X⟩ := int_at h1 hx
      obtain ⟨y, hy⟩ := get_ex (show i < k.length by omega)
      obtain ⟨ae, eB, Y⟩ := int_at h2 hy
      have hik : (i : Int) < l.length := by omega
      have hik2 : (i : Int) < k.length := by omega
      have hlen : l.length = k.length := by omega
      refine E.GL.run rfl rfl rfl (E.Runs.pick_t rfl rfl rfl) ?_
      refine E.GL.done ?_
      refine E.QG.code ?_
      refine E.CG.cond_t rfl ?_
      refine E.CG.skip ?_
      refine E.QG.code ?_
      refine E.CG.seq ?_
      refine E.CG.block ?_
      refine E.CG.seq ?_
      refine E.CG.quietF (by kernel_rfl) rfl (by kernel_rfl) (by kernel_rfl) ?_
      refine E.GQ.run rfl rfl rfl (E.Runs.move rfl rfl) ?_
      refine E.GQ.run rfl rfl rfl (E.Runs.move rfl rfl) ?_
      refine E.GQ.run rfl rfl rfl (E.Runs.indexAddrA rfl rfl rfl hu22 (by assumption) (by assumption) (by assumption) (by first | rfl | assumption) rfl) ?_
      refine E.GQ.run rfl rfl rfl (E.Runs.load rfl rfl hu3 (by first | assumption | exact E.blkc (by assumption) rfl | exact pw_cell_below L (by assumption))) ?_
      refine E.GQ.run rfl rfl rfl (E.Runs.move rfl rfl) ?_
      refine E.GQ.run rfl rfl rfl (E.Runs.move rfl rfl) ?_
      refine E.GQ.run rfl rfl rfl (E.Runs.indexAddrA rfl rfl rfl hu22 (by assumption) (by assumption) (by assumption) (by first | rfl | assumption) rfl) ?_
      refine E.GQ.run rfl rfl rfl (E.Runs.load rfl rfl hu3 (by first | assumption | exact E.blkc (by assumption) rfl | exact pw_cell_below L (by assumption))) ?_
      refine E.GQ.cmpn rfl rfl rfl (fun _ h => (E.Runs.neq rfl rfl rfl h)) (fun h27 => ?_) (fun h27 => ?_)
      · refine E.GQ.doneB fun v4 lD => ?_
        replace L := below_step L lD
        have lD4 := lD
        clear lD
        refine E.QG.code ?_
        refine E.CG.cond_t rfl ?_
        refine E.CG.seq ?_
        refine E.CG.quietF (by kernel_rfl) rfl (by kernel_rfl) (by kernel_rfl) ?_
        refine E.GQ.run rfl rfl rfl (E.Runs.move rfl rfl) ?_
        refine E.GQ.run rfl rfl rfl (E.Runs.move rfl rfl) ?_
        refine E.GQ.run rfl rfl rfl (E.Runs.indexAddrA rfl rfl rfl hu22 (by assumption) (by assumption) (by assumption) (by first | rfl | assumption) rfl) ?_
        refine E.GQ.run rfl rfl rfl (E.Runs.load rfl rfl hu3 (by first | assumption | exact E.blkc (by assumption) rfl | exact pw_cell_below L (by assumption))) ?_
        refine E.GQ.run rfl rfl rfl (E.Runs.move rfl rfl) ?_
        refine E.GQ.run rfl rfl rfl (E.Runs.move rfl rfl) ?_
        refine E.GQ.run rfl rfl rfl (E.Runs.indexAddrA rfl rfl rfl hu22 (by assumption) (by assumption) (by assumption) (by first | rfl | assumption) rfl) ?_
        refine E.GQ.run rfl rfl rfl (E.Runs.load rfl rfl hu3 (by first | assumption | exact E.blkc (by assumption) rfl | exact pw_cell_below L (by assumption))) ?_
        refine E.GQ.cmp rfl rfl rfl (fun _ h => (E.Runs.lss rfl rfl rfl h)) (fun h36 => ?_) (fun h36 => ?_)
        · refine E.GQ.run rfl rfl rfl (E.Runs.assign rfl rfl) ?_
          refine E.GQ.doneB fun v5 lD => ?_
          replace L := below_step L lD
          have lD5 := lD
          clear lD
          refine E.QG.code ?_
          refine E.CG.ret ?_
          refine E.QG.block_ret ?_
          refine E.QG.pass_ret ?_
          refine E.QG.pass_ret ?_
          refine E.QG.block_ret ?_
          refine E.QG.pass_ret ?_
          exact E.QG.result rfl rfl ⟨by rw [hb.mpr (.inr ⟨hlen, (lx_at hs hx hy h27).mpr h36⟩)], L⟩
        · refine E.GQ.run rfl rfl rfl (E.Runs.assign rfl rfl) ?_
          refine E.GQ.doneB fun v5 lD => ?_
          replace L := below_step L lD
          have lD5 := lD
          clear lD
          refine E.QG.code ?_
          refine E.CG.ret ?_
          refine E.QG.block_ret ?_
          refine E.QG.pass_ret ?_
          refine E.QG.pass_ret ?_
          refine E.QG.block_ret ?_
          refine E.QG.pass_ret ?_
          exact E.QG.result rfl rfl ⟨by rw [bool_no hb (fun q => q.elim (fun q => by omega) (fun q => h36 ((lx_at hs hx hy h27).mp q.2)))], L⟩
      · refine E.GQ.doneB fun v4 lD => ?_
        replace L := below_step L lD
        have lD4 := lD
        clear lD
        refine E.QG.code ?_
        refine E.CG.cond_f rfl ?_
        refine E.CG.skip ?_
        refine E.QG.block_normal ?_
        refine E.QG.code ?_
        refine E.CG.list ?_
        refine E.GL.run rfl rfl rfl (E.Runs.move rfl rfl) ?_
        refine E.GL.run rfl rfl rfl (E.Runs.add rfl rfl rfl (IntWalk.i64_in _ (by omega))) ?_
        refine E.GL.run rfl rfl rfl (E.Runs.assign rfl rfl) ?_
        refine E.GL.done ?_
        exact E.QG.round (i + 1) (E.subc rfl (E.subc rfl (E.subc rfl E.subn))) ⟨by omega, L, fun j hj => (Nat.lt_or_ge j i).elim (hs j) (fun q => (show j = i by omega) ▸ (by rw [hx, hy, h27]))⟩ (by omega)
    · refine E.GL.run rfl rfl rfl (E.Runs.pick_t rfl rfl rfl) ?_
      refine E.GL.done ?_
      refine E.QG.code ?_
      refine E.CG.cond_f rfl ?_
      refine E.CG.exit ?_
      refine E.QG.pass_exit ?_
      refine E.QG.pass_exit ?_
      refine E.QG.block_here ?_
      refine E.QG.code ?_
      refine E.CG.seq ?_
      refine E.CG.list ?_
      refine E.GL.run rfl rfl rfl (E.Runs.move rfl rfl) ?_
      refine E.GL.run rfl rfl rfl (E.Runs.len rfl rfl hu22) ?_
      refine E.GL.run rfl rfl rfl (E.Runs.move rfl rfl) ?_
      refine E.GL.run rfl rfl rfl (E.Runs.len rfl rfl hu22) ?_
      refine E.GL.cmp rfl rfl rfl (fun _ h => (E.Runs.lss rfl rfl rfl h)) (fun h41 => ?_) (fun h41 => ?_)
      · refine E.GL.run rfl rfl rfl (E.Runs.assign rfl rfl) ?_
        refine E.GL.done ?_
        refine E.QG.code ?_
        refine E.CG.ret ?_
        exact E.QG.result rfl rfl ⟨by rw [hb.mpr (.inl (by omega))], L⟩
      · refine E.GL.run rfl rfl rfl (E.Runs.assign rfl rfl) ?_
        refine E.GL.done ?_
        refine E.QG.code ?_
        refine E.CG.ret ?_
        exact E.QG.result rfl rfl ⟨by rw [bool_no hb (fun q => q.elim (fun q => by omega) (fun q => by have := q.1; omega))], L⟩
  · refine E.GL.run rfl rfl rfl (E.Runs.move rfl rfl) ?_
    refine E.GL.skip rfl rfl rfl ?_
    refine E.GL.skip rfl rfl rfl ?_
    refine E.GL.skip rfl rfl rfl ?_
    refine E.GL.skip rfl rfl rfl ?_
    refine E.GL.skip rfl rfl rfl ?_
    refine E.GL.run rfl rfl rfl (E.Runs.pick_f rfl rfl rfl) ?_
    refine E.GL.done ?_
    refine E.QG.code ?_
    refine E.CG.cond_f rfl ?_
    refine E.CG.exit ?_
    refine E.QG.pass_exit ?_
    refine E.QG.pass_exit ?_
    refine E.QG.block_here ?_
    refine E.QG.code ?_
    refine E.CG.seq ?_
    refine E.CG.list ?_
    refine E.GL.run rfl rfl rfl (E.Runs.move rfl rfl) ?_
    refine E.GL.run rfl rfl rfl (E.Runs.len rfl rfl hu22) ?_
    refine E.GL.run rfl rfl rfl (E.Runs.move rfl rfl) ?_
    refine E.GL.run rfl rfl rfl (E.Runs.len rfl rfl hu22) ?_
    refine E.GL.cmp rfl rfl rfl (fun _ h => (E.Runs.lss rfl rfl rfl h)) (fun h41 => ?_) (fun h41 => ?_)
    · refine E.GL.run rfl rfl rfl (E.Runs.assign rfl rfl) ?_
      refine E.GL.done ?_
      refine E.QG.code ?_
      refine E.CG.ret ?_
      exact E.QG.result rfl rfl ⟨by rw [hb.mpr (.inl (by omega))], L⟩
    · refine E.GL.run rfl rfl rfl (E.Runs.assign rfl rfl) ?_
      refine E.GL.done ?_
      refine E.QG.code ?_
      refine E.CG.ret ?_
      exact E.QG.result rfl rfl ⟨by rw [bool_no hb (fun q => q.elim (fun q => by omega) (fun q => lx_same hs (by omega) q.2))], L⟩

set_option maxRecDepth 100000 in
set_option maxHeartbeats 8000000 in

theorem huge_calls (V : Wk) (m : Wa) (w : World) (hV : WM w V m) (r : Bool) (hb : r = true ↔ Hg V) :
    Calls Try.prog 11 #[wv V m] w fun e w' => e = .returned (.bool r) ∧ Below w.heap.size w w' := by
  have hfl := (hV.fs).2.1
  have hu3 := Try.underlying3
  have hu22 := Try.underlying22
  have hu23 := Try.underlying23
  have hu24 := Try.underlying24
  have hu26 := Try.underlying26
  have hu49 := Try.underlying49
  obtain ⟨z3, o3⟩ := info_some info3s (by decide)
  obtain ⟨z22, o22⟩ := info_some info22s (by decide)
  obtain ⟨z23, o23⟩ := info_some info23s (by decide)
  obtain ⟨z24, o24⟩ := info_some info24s (by decide)
  obtain ⟨z49, o49⟩ := info_some info49s (by decide)
  refine E.enter (N := 35) Try.func11 rfl Try.ntmps11 (args := [wv V m]) (by simp) ?_
  have L := Below.refl w.heap.size w
  refine E.CG.seq ?_
  refine E.CG.list ?_
  refine E.GL.st rfl rfl rfl (E.ST.box rfl rfl fun g1 w1 e1 b1 l1 => ?_)
  have h1_L : w.heap.size ≤ g1 := by rw [e1]; exact L.size
  replace L := below_step L l1
  refine E.GL.run rfl rfl rfl (E.Runs.assign rfl rfl) ?_
  refine E.GL.done ?_
  refine E.QG.code ?_
  refine E.CG.seq ?_
  refine E.CG.seq ?_
  refine E.CG.list ?_
  refine E.GL.run rfl rfl rfl (E.Runs.assign rfl rfl) ?_
  refine E.GL.done ?_
  refine E.QG.code ?_
  refine E.CG.block ?_
  have s2_b1 := b1
  have s2_L := L
  refine E.CG.loop (fun (i : Nat) => [(1, .pointer (some ⟨g1, 0, none⟩)), (3, .int .i64 i)]) (fun i w' => i ≤ V.fs.length ∧ (∀ k, k < i → ∀ x, V.fs[k]? = some x → x.f1.length ≤ 40) ∧ w'.heap[g1]? = some (.cells #[.int .i64 V.d, .slice m.A V.rs.length m.a, .int .i64 V.h, .slice m.B V.fs.length m.b, .slice m.C V.ds.length m.c] 26 (0, 0)) ∧ Below w.heap.size w w') (fun i => V.fs.length - i) 0 (E.subc rfl (E.subc rfl E.subn)) ⟨Nat.zero_le _, fun k hk => by omega, b1, L⟩ ?_
  rintro i w2 ⟨hi, hok, b1, L⟩
  refine E.CG.seq ?_
  refine E.CG.seq ?_
  refine E.CG.list ?_
  refine E.GL.run rfl rfl rfl (E.Runs.move rfl rfl) ?_
  refine E.GL.run rfl rfl rfl (E.Runs.fieldAddr rfl rfl hu26 rfl (by assumption) rfl) ?_
  refine E.GL.run rfl rfl rfl (E.Runs.load1 rfl rfl hu23 rfl (by first | assumption | exact E.blkc (by assumption) rfl | exact pw_cell_below L (by assumption))) ?_
  refine E.GL.run rfl rfl rfl (E.Runs.len rfl rfl hu23) ?_
  refine E.GL.cmp rfl rfl rfl (fun _ h => (E.Runs.lss rfl rfl rfl h)) (fun h8 => ?_) (fun h8 => ?_)
  · obtain ⟨x, hx⟩ := get_ex (show i < V.fs.length by omega)
    obtain ⟨ad, a0, k0, eA, _, hx0, X⟩ := film_at hV.fs hx
    refine E.GL.done ?_
    refine E.QG.code ?_
    refine E.CG.cond_t rfl ?_
    refine E.CG.skip ?_
    refine E.QG.code ?_
    refine E.CG.seq ?_
    refine E.CG.block ?_
    refine E.CG.seq ?_
    refine E.CG.list ?_
    refine E.GL.run rfl rfl rfl (E.Runs.fieldAddr rfl rfl hu26 rfl (by assumption) rfl) ?_
    refine E.GL.run rfl rfl rfl (E.Runs.load1 rfl rfl hu23 rfl (by first | assumption | exact E.blkc (by assumption) rfl | exact pw_cell_below L (by assumption))) ?_
    refine E.GL.run rfl rfl rfl (E.Runs.move rfl rfl) ?_
    refine E.GL.run rfl rfl rfl (E.Runs.indexAddrA (i := i) rfl rfl rfl hu23 z49 o49 (by omega) eA rfl) ?_
    refine E.GL.run rfl rfl rfl (E.Runs.fieldAddr rfl rfl hu49 rfl (by assumption) rfl) ?_
    refine E.GL.run rfl rfl rfl (E.Runs.load1 rfl rfl hu22 rfl (show _ = some (Value.slice a0 x.f1.length k0) from pw_cell_below L (X 1 _ rfl))) ?_
    refine E.GL.run rfl rfl rfl (E.Runs.len rfl rfl hu22) ?_
    refine E.GL.cmp rfl rfl rfl (fun _ h => (E.Runs.gtr rfl rfl rfl h)) (fun h18 => ?_) (fun h18 => ?_)
    · refine E.GL.done ?_
      refine E.QG.code ?_
      refine E.CG.cond_t rfl ?_
      refine E.CG.seq ?_
      refine E.CG.list ?_
      refine E.GL.run rfl rfl rfl (E.Runs.assign rfl rfl) ?_
      refine E.GL.done ?_
      refine E.QG.code ?_
      refine E.CG.ret ?_
      refine E.QG.block_ret ?_
      refine E.QG.pass_ret ?_
      refine E.QG.pass_ret ?_
      refine E.QG.block_ret ?_
      refine E.QG.pass_ret ?_
      exact E.QG.result rfl rfl ⟨by rw [hb.mpr (.inl ⟨x, mem_of hx, by omega⟩)], L⟩
    · refine E.GL.done ?_
      refine E.QG.code ?_
      refine E.CG.cond_f rfl ?_
      refine E.CG.skip ?_
      refine E.QG.block_normal ?_
      refine E.QG.code ?_
      refine E.CG.list ?_
      refine E.GL.run rfl rfl rfl (E.Runs.move rfl rfl) ?_
      refine E.GL.run rfl rfl rfl (E.Runs.add rfl rfl rfl (IntWalk.i64_in _ (by omega))) ?_
      refine E.GL.run rfl rfl rfl (E.Runs.assign rfl rfl) ?_
      refine E.GL.done ?_
      exact E.QG.round (i + 1) (E.subc rfl (E.subc rfl E.subn)) ⟨by omega, all_more hok hx (by omega), b1, L⟩ (by omega)
  · have hno := all_done hok (show V.fs.length ≤ i by omega)
    have hbad : (∃ x ∈ V.fs, 40 < x.f1.length) → False := fun ⟨x, h1, h2⟩ => by have := hno x h1; omega
    refine E.GL.done ?_
    refine E.QG.code ?_
    refine E.CG.cond_f rfl ?_
    refine E.CG.exit ?_
    refine E.QG.pass_exit ?_
    refine E.QG.pass_exit ?_
    refine E.QG.block_here ?_
    refine E.QG.code ?_
    refine E.CG.seq ?_
    refine E.CG.list ?_
    refine E.GL.run rfl rfl rfl (E.Runs.fieldAddr rfl rfl hu26 rfl (by assumption) rfl) ?_
    refine E.GL.run rfl rfl rfl (E.Runs.load1 rfl rfl hu22 rfl (by first | assumption | exact E.blkc (by assumption) rfl | exact pw_cell_below L (by assumption))) ?_
    refine E.GL.run rfl rfl rfl (E.Runs.len rfl rfl hu22) ?_
    refine E.GL.cmp rfl rfl rfl (fun _ h => (E.Runs.gtr rfl rfl rfl h)) (fun h22 => ?_) (fun h22 => ?_)
    · refine E.GL.run rfl rfl rfl (E.Runs.move rfl rfl) ?_
      refine E.GL.skip rfl rfl rfl ?_
      refine E.GL.skip rfl rfl rfl ?_
      refine E.GL.skip rfl rfl rfl ?_
      refine E.GL.skip rfl rfl rfl ?_
      refine E.GL.run rfl rfl rfl (E.Runs.pick_t rfl rfl rfl) ?_
      refine E.GL.run rfl rfl rfl (E.Runs.move rfl rfl) ?_
      refine E.GL.skip rfl rfl rfl ?_
      refine E.GL.skip rfl rfl rfl ?_
      refine E.GL.skip rfl rfl rfl ?_
      refine E.GL.skip rfl rfl rfl ?_
      refine E.GL.run rfl rfl rfl (E.Runs.pick_t rfl rfl rfl) ?_
      refine E.GL.run rfl rfl rfl (E.Runs.assign rfl rfl) ?_
      refine E.GL.done ?_
      refine E.QG.code ?_
      refine E.CG.ret ?_
      exact E.QG.result rfl rfl ⟨by rw [hb.mpr (.inr (.inl (by omega)))], L⟩
    · refine E.GL.run rfl rfl rfl (E.Runs.move rfl rfl) ?_
      refine E.GL.run rfl rfl rfl (E.Runs.fieldAddr rfl rfl hu26 rfl (by assumption) rfl) ?_
      refine E.GL.run rfl rfl rfl (E.Runs.load1 rfl rfl hu23 rfl (by first | assumption | exact E.blkc (by assumption) rfl | exact pw_cell_below L (by assumption))) ?_
      refine E.GL.run rfl rfl rfl (E.Runs.len rfl rfl hu23) ?_
      refine E.GL.cmp rfl rfl rfl (fun _ h => (E.Runs.gtr rfl rfl rfl h)) (fun h27 => ?_) (fun h27 => ?_)
      · refine E.GL.run rfl rfl rfl (E.Runs.pick_f rfl rfl rfl) ?_
        refine E.GL.run rfl rfl rfl (E.Runs.move rfl rfl) ?_
        refine E.GL.skip rfl rfl rfl ?_
        refine E.GL.skip rfl rfl rfl ?_
        refine E.GL.skip rfl rfl rfl ?_
        refine E.GL.skip rfl rfl rfl ?_
        refine E.GL.run rfl rfl rfl (E.Runs.pick_t rfl rfl rfl) ?_
        refine E.GL.run rfl rfl rfl (E.Runs.assign rfl rfl) ?_
        refine E.GL.done ?_
        refine E.QG.code ?_
        refine E.CG.ret ?_
        exact E.QG.result rfl rfl ⟨by rw [hb.mpr (.inr (.inr (.inl (by omega))))], L⟩
      · refine E.GL.run rfl rfl rfl (E.Runs.pick_f rfl rfl rfl) ?_
        refine E.GL.run rfl rfl rfl (E.Runs.move rfl rfl) ?_
        refine E.GL.run rfl rfl rfl (E.Runs.fieldAddr rfl rfl hu26 rfl (by assumption) rfl) ?_
        refine E.GL.run rfl rfl rfl (E.Runs.load1 rfl rfl hu24 rfl (by first | assumption | exact E.blkc (by assumption) rfl | exact pw_cell_below L (by assumption))) ?_
        refine E.GL.run rfl rfl rfl (E.Runs.len rfl rfl hu24) ?_
        refine E.GL.cmp rfl rfl rfl (fun _ h => (E.Runs.gtr rfl rfl rfl h)) (fun h33 => ?_) (fun h33 => ?_)
        · refine E.GL.run rfl rfl rfl (E.Runs.pick_f rfl rfl rfl) ?_
          refine E.GL.run rfl rfl rfl (E.Runs.assign rfl rfl) ?_
          refine E.GL.done ?_
          refine E.QG.code ?_
          refine E.CG.ret ?_
          exact E.QG.result rfl rfl ⟨by rw [hb.mpr (.inr (.inr (.inr (by omega))))], L⟩
        · refine E.GL.run rfl rfl rfl (E.Runs.pick_f rfl rfl rfl) ?_
          refine E.GL.run rfl rfl rfl (E.Runs.assign rfl rfl) ?_
          refine E.GL.done ?_
          refine E.QG.code ?_
          refine E.CG.ret ?_
          exact E.QG.result rfl rfl ⟨by rw [bool_no hb (fun q => q.elim hbad (fun q => q.elim (fun q => by omega) (fun q => q.elim (fun q => by omega) (fun q => by omega))))], L⟩

end Go.Proofs.Ytdiambcjghlffaa.T
namespace Go.Proofs.Ytdiambcjghlffaa.T
open Go.RowKit Go.Proofs.YtdiambcjghlffaaW.PrintWords Go.Proofs.YtdiambcjghlffaaW.PrintMore
open Go.Proofs.Ytdiambcjghlffaa.P
set_option linter.unusedVariables false
set_option linter.unusedSimpArgs false

def cpI (x y : Int) : Int := if x < y then -1 else if y < x then 1 else 0
theorem cpI_lt {x y : Int} (h : x < y) : cpI x y = -1 := if_pos h
theorem cpI_gt {x y : Int} (h : y < x) : cpI x y = 1 := by unfold cpI; rw [if_neg (by omega), if_pos h]
theorem cpI_eq {x y : Int} (h : ¬ x < y) (k : ¬ y < x) : cpI x y = 0 := by unfold cpI; rw [if_neg h, if_neg k]
theorem cpI_zero {x y : Int} : cpI x y = 0 ↔ x = y := by unfold cpI; split; · omega
                                                         · split <;> omega
theorem cpI_neg {x y : Int} : cpI x y < 0 ↔ x < y := by unfold cpI; split; · omega
                                                        · split <;> omega
set_option maxRecDepth 100000 in
set_option maxHeartbeats 8000000 in

theorem isNaN_calls (x : Int) (w : World) :
    Calls Try.prog 74 #[.int .i64 x] w fun e w' => e = .returned (.bool false) ∧ Below w.heap.size w w' := by
  refine E.enter (N := 6) Try.func74 rfl Try.ntmps74 (args := [.int .i64 x]) (by simp) ?_
  have L := Below.refl w.heap.size w
  refine E.CG.seq ?_
  refine E.CG.list ?_
  refine E.GL.run rfl rfl rfl (E.Runs.assign rfl rfl) ?_
  refine E.GL.done ?_
  refine E.QG.code ?_
  refine E.CG.seq ?_
  refine E.CG.list ?_
  refine E.GL.run rfl rfl rfl (E.Runs.move rfl rfl) ?_
  refine E.GL.run rfl rfl rfl (E.Runs.move rfl rfl) ?_
  refine E.GL.run rfl rfl rfl (E.Runs.neq rfl rfl rfl (E.ne_f rfl)) ?_
  refine E.GL.run rfl rfl rfl (E.Runs.assign rfl rfl) ?_
  refine E.GL.done ?_
  refine E.QG.code ?_
  refine E.CG.ret ?_
  exact E.QG.result rfl rfl ⟨rfl, L⟩

set_option maxRecDepth 100000 in
set_option maxHeartbeats 8000000 in

theorem cmp_calls (x y : Int) (w : World) :
    Calls Try.prog 62 #[.int .i64 x, .int .i64 y] w fun e w' => e = .returned (.int .i64 (cpI x y)) ∧ Below w.heap.size w w' := by
  refine E.enter (N := 20) Try.func62 rfl Try.ntmps62 (args := [.int .i64 x, .int .i64 y]) (by simp) ?_
  have L := Below.refl w.heap.size w
  refine E.CG.seq ?_
  refine E.CG.list ?_
  refine E.GL.run rfl rfl rfl (E.Runs.assign rfl rfl) ?_
  refine E.GL.done ?_
  refine E.QG.code ?_
  refine E.CG.seq ?_
  refine E.CG.list ?_
  refine E.GL.run rfl rfl rfl (E.Runs.move rfl rfl) ?_
  refine E.GL.st rfl rfl rfl (E.ST.call rfl ent74 (E.evc rfl E.evn) ((isNaN_calls x _).mono ?_))
  rintro e w8 ⟨rfl, l8⟩
  refine ⟨_, rfl, ?_⟩
  replace L := below_step L l8
  refine E.GL.run rfl rfl rfl (E.Runs.assign rfl rfl) ?_
  refine E.GL.done ?_
  refine E.QG.code ?_
  refine E.CG.seq ?_
  refine E.CG.list ?_
  refine E.GL.run rfl rfl rfl (E.Runs.move rfl rfl) ?_
  refine E.GL.st rfl rfl rfl (E.ST.call rfl ent74 (E.evc rfl E.evn) ((isNaN_calls y _).mono ?_))
  rintro e w10 ⟨rfl, l10⟩
  refine ⟨_, rfl, ?_⟩
  replace L := below_step L l10
  refine E.GL.run rfl rfl rfl (E.Runs.assign rfl rfl) ?_
  refine E.GL.done ?_
  refine E.QG.code ?_
  refine E.CG.seq ?_
  refine E.CG.seq ?_
  refine E.CG.list ?_
  refine E.GL.run rfl rfl rfl (E.Runs.move rfl rfl) ?_
  refine E.GL.done ?_
  refine E.QG.code ?_
  refine E.CG.cond_f rfl ?_
  refine E.CG.skip ?_
  refine E.QG.code ?_
  refine E.CG.seq ?_
  refine E.CG.seq ?_
  refine E.CG.list ?_
  refine E.GL.run rfl rfl rfl (E.Runs.move rfl rfl) ?_
  refine E.GL.done ?_
  refine E.QG.code ?_
  refine E.CG.cond_f rfl ?_
  refine E.CG.skip ?_
  refine E.QG.code ?_
  refine E.CG.seq ?_
  refine E.CG.seq ?_
  refine E.CG.list ?_
  refine E.GL.run rfl rfl rfl (E.Runs.move rfl rfl) ?_
  refine E.GL.run rfl rfl rfl (E.Runs.move rfl rfl) ?_
  refine E.GL.cmp rfl rfl rfl (fun _ h => (E.Runs.lss rfl rfl rfl h)) (fun h16 => ?_) (fun h16 => ?_)
  · refine E.GL.done ?_
    refine E.QG.code ?_
    refine E.CG.cond_t rfl ?_
    refine E.CG.seq ?_
    refine E.CG.list ?_
    refine E.GL.run rfl rfl rfl (E.Runs.assign rfl rfl) ?_
    refine E.GL.done ?_
    refine E.QG.code ?_
    refine E.CG.ret ?_
    refine E.QG.pass_ret ?_
    exact E.QG.result rfl rfl ⟨by rw [cpI_lt h16], L⟩
  · refine E.GL.done ?_
    refine E.QG.code ?_
    refine E.CG.cond_f rfl ?_
    refine E.CG.skip ?_
    refine E.QG.code ?_
    refine E.CG.seq ?_
    refine E.CG.seq ?_
    refine E.CG.list ?_
    refine E.GL.run rfl rfl rfl (E.Runs.move rfl rfl) ?_
    refine E.GL.run rfl rfl rfl (E.Runs.move rfl rfl) ?_
    refine E.GL.cmp rfl rfl rfl (fun _ h => (E.Runs.gtr rfl rfl rfl h)) (fun h19 => ?_) (fun h19 => ?_)
    · refine E.GL.done ?_
      refine E.QG.code ?_
      refine E.CG.cond_t rfl ?_
      refine E.CG.seq ?_
      refine E.CG.list ?_
      refine E.GL.run rfl rfl rfl (E.Runs.assign rfl rfl) ?_
      refine E.GL.done ?_
      refine E.QG.code ?_
      refine E.CG.ret ?_
      refine E.QG.pass_ret ?_
      exact E.QG.result rfl rfl ⟨by rw [cpI_gt (by omega)], L⟩
    · refine E.GL.done ?_
      refine E.QG.code ?_
      refine E.CG.cond_f rfl ?_
      refine E.CG.skip ?_
      refine E.QG.code ?_
      refine E.CG.seq ?_
      refine E.CG.list ?_
      refine E.GL.run rfl rfl rfl (E.Runs.assign rfl rfl) ?_
      refine E.GL.done ?_
      refine E.QG.code ?_
      refine E.CG.ret ?_
      exact E.QG.result rfl rfl ⟨by rw [cpI_eq h16 (by omega)], L⟩

set_option maxRecDepth 100000 in
set_option maxHeartbeats 8000000 in

theorem compare_calls (l k : List Int) (A A1 : Option Addr) (c c1 : Nat) (w : World) (hlen : l.length = k.length) (h1 : Kd.C kI w A l.length l) (h2 : Kd.C kI w A1 k.length k) (hn : l.length ≤ 1000000) :
    Calls Try.prog 42 #[.slice A l.length c, .slice A1 k.length c1] w fun e w' => ∃ n, e = .returned (.int .i64 n) ∧ (n < 0 ↔ Lx l k) ∧ Below w.heap.size w w' := by
  have hu3 := Try.underlying3
  have hu22 := Try.underlying22
  obtain ⟨z3, o3⟩ := info_some info3s (by decide)
  refine E.enter (N := 36) Try.func42 rfl Try.ntmps42 (args := [.slice A l.length c, .slice A1 k.length c1]) (by simp) ?_
  have L := Below.refl w.heap.size w
  refine E.CG.seq ?_
  refine E.CG.list ?_
  refine E.GL.run rfl rfl rfl (E.Runs.assign rfl rfl) ?_
  refine E.GL.done ?_
  refine E.QG.code ?_
  refine E.CG.seq ?_
  refine E.CG.seq ?_
  refine E.CG.list ?_
  refine E.GL.run rfl rfl rfl (E.Runs.move rfl rfl) ?_
  refine E.GL.run rfl rfl rfl (E.Runs.len rfl rfl hu22) ?_
  refine E.GL.run rfl rfl rfl (E.Runs.move rfl rfl) ?_
  refine E.GL.done ?_
  refine E.QG.code ?_
  refine E.CG.block ?_
  have s2_L := L
  refine E.CG.loop (fun (i : Nat) => [(0, .slice A l.length c), (1, .slice A1 k.length c1), (9, .slice A l.length c), (10, .int .i64 l.length), (11, .int .i64 i)]) (fun i w' => i ≤ l.length ∧ Below w.heap.size w w' ∧ ∀ j : Nat, j < i → l[j]? = k[j]?) (fun i => l.length - i) 0 (E.subc rfl (E.subc rfl (E.subc rfl (E.subc rfl (E.subc rfl E.subn))))) ⟨Nat.zero_le _, L, fun j hj => by omega⟩ ?_
  rintro i w2 ⟨hi, L, hs⟩
  refine E.CG.seq ?_
  refine E.CG.list ?_
  refine E.GL.cmp rfl rfl rfl (fun _ h => (E.Runs.lss rfl rfl rfl h)) (fun h12 => ?_) (fun h12 => ?_)
  · obtain ⟨x, hx⟩ := get_ex (show i < l.length by omega)
    obtain ⟨ad, eA, X⟩ := int_at h1 hx
    obtain ⟨y, hy⟩ := get_ex (show i < k.length by omega)
    obtain ⟨ae, eB, Y⟩ := int_at h2 hy
    have hik : (i : Int) < l.length := by omega
    have hik2 : (i : Int) < k.length := by omega
    refine E.GL.done ?_
    refine E.QG.code ?_
    refine E.CG.seq ?_
    refine E.CG.cond_t rfl ?_
    refine E.CG.skip ?_
    refine E.QG.code ?_
    refine E.CG.seq ?_
    refine E.CG.block ?_
    refine E.CG.seq ?_
    refine E.CG.list ?_
    refine E.GL.run rfl rfl rfl (E.Runs.move rfl rfl) ?_
    refine E.GL.run rfl rfl rfl (E.Runs.indexAddrA (i := i) rfl rfl rfl hu22 z3 o3 (by omega) eA rfl) ?_
    refine E.GL.run rfl rfl rfl (E.Runs.load rfl rfl hu3 (pw_cell_below L X)) ?_
    refine E.GL.run rfl rfl rfl (E.Runs.assign rfl rfl) ?_
    refine E.GL.run rfl rfl rfl (E.Runs.assign rfl rfl) ?_
    refine E.GL.done ?_
    refine E.QG.code ?_
    refine E.CG.seq ?_
    refine E.CG.seq ?_
    refine E.CG.list ?_
    refine E.GL.run rfl rfl rfl (E.Runs.move rfl rfl) ?_
    refine E.GL.run rfl rfl rfl (E.Runs.move rfl rfl) ?_
    refine E.GL.run rfl rfl rfl (E.Runs.len rfl rfl hu22) ?_
    refine E.GL.run rfl rfl rfl (E.Runs.geq rfl rfl rfl (decide_eq_false (by omega))) ?_
    refine E.GL.done ?_
    refine E.QG.code ?_
    refine E.CG.cond_f rfl ?_
    refine E.CG.skip ?_
    refine E.QG.code ?_
    refine E.CG.seq ?_
    refine E.CG.list ?_
    refine E.GL.run rfl rfl rfl (E.Runs.move rfl rfl) ?_
    refine E.GL.run rfl rfl rfl (E.Runs.move rfl rfl) ?_
    refine E.GL.run rfl rfl rfl (E.Runs.indexAddrA (i := i) rfl rfl rfl hu22 z3 o3 (by omega) eB rfl) ?_
    refine E.GL.run rfl rfl rfl (E.Runs.load rfl rfl hu3 (pw_cell_below L Y)) ?_
    refine E.GL.run rfl rfl rfl (E.Runs.assign rfl rfl) ?_
    refine E.GL.done ?_
    refine E.QG.code ?_
    refine E.CG.seq ?_
    refine E.CG.list ?_
    refine E.GL.run rfl rfl rfl (E.Runs.move rfl rfl) ?_
    refine E.GL.run rfl rfl rfl (E.Runs.move rfl rfl) ?_
    refine E.GL.st rfl rfl rfl (E.ST.call rfl ent62 (E.evc rfl (E.evc rfl E.evn)) ((cmp_calls x y _).mono ?_))
    rintro e w26 ⟨rfl, l26⟩
    refine ⟨_, rfl, ?_⟩
    replace L := below_step L l26
    refine E.GL.run rfl rfl rfl (E.Runs.assign rfl rfl) ?_
    refine E.GL.done ?_
    refine E.QG.code ?_
    refine E.CG.seq ?_
    refine E.CG.list ?_
    refine E.GL.run rfl rfl rfl (E.Runs.move rfl rfl) ?_
    refine E.GL.cmpn rfl rfl rfl (fun _ h => (E.Runs.neq rfl rfl rfl h)) (fun h28 => ?_) (fun h28 => ?_)
    · refine E.GL.done ?_
      refine E.QG.code ?_
      refine E.CG.cond_t rfl ?_
      refine E.CG.seq ?_
      refine E.CG.list ?_
      refine E.GL.run rfl rfl rfl (E.Runs.move rfl rfl) ?_
      refine E.GL.run rfl rfl rfl (E.Runs.assign rfl rfl) ?_
      refine E.GL.done ?_
      refine E.QG.code ?_
      refine E.CG.ret ?_
      refine E.QG.block_ret ?_
      refine E.QG.pass_ret ?_
      refine E.QG.pass_ret ?_
      refine E.QG.block_ret ?_
      refine E.QG.pass_ret ?_
      exact E.QG.result rfl rfl ⟨_, rfl, cpI_neg.trans (lx_at hs hx hy (fun e => h28 (cpI_zero.mpr e))).symm, L⟩
    · refine E.GL.done ?_
      refine E.QG.code ?_
      refine E.CG.cond_f rfl ?_
      refine E.CG.skip ?_
      refine E.QG.block_normal ?_
      refine E.QG.code ?_
      refine E.CG.list ?_
      refine E.GL.run rfl rfl rfl (E.Runs.add rfl rfl rfl (IntWalk.i64_in _ (by omega))) ?_
      refine E.GL.run rfl rfl rfl (E.Runs.move rfl rfl) ?_
      refine E.GL.done ?_
      exact E.QG.round (i + 1) (E.subc rfl (E.subc rfl (E.subc rfl (E.subc rfl (E.subc rfl E.subn))))) ⟨by omega, L, fun j hj => (Nat.lt_or_ge j i).elim (hs j) (fun q => (show j = i by omega) ▸ (by rw [hx, hy, cpI_zero.mp (show cpI x y = 0 by omega)]))⟩ (by omega)
  · refine E.GL.done ?_
    refine E.QG.code ?_
    refine E.CG.seq ?_
    refine E.CG.cond_f rfl ?_
    refine E.CG.exit ?_
    refine E.QG.pass_exit ?_
    refine E.QG.pass_exit ?_
    refine E.QG.block_here ?_
    refine E.QG.code ?_
    refine E.CG.seq ?_
    refine E.CG.seq ?_
    refine E.CG.list ?_
    refine E.GL.run rfl rfl rfl (E.Runs.move rfl rfl) ?_
    refine E.GL.run rfl rfl rfl (E.Runs.len rfl rfl hu22) ?_
    refine E.GL.run rfl rfl rfl (E.Runs.move rfl rfl) ?_
    refine E.GL.run rfl rfl rfl (E.Runs.len rfl rfl hu22) ?_
    refine E.GL.run rfl rfl rfl (E.Runs.lss rfl rfl rfl (decide_eq_false (by omega))) ?_
    refine E.GL.done ?_
    refine E.QG.code ?_
    refine E.CG.cond_f rfl ?_
    refine E.CG.skip ?_
    refine E.QG.code ?_
    refine E.CG.seq ?_
    refine E.CG.list ?_
    refine E.GL.run rfl rfl rfl (E.Runs.assign rfl rfl) ?_
    refine E.GL.done ?_
    refine E.QG.code ?_
    refine E.CG.ret ?_
    exact E.QG.result rfl rfl ⟨_, rfl, iff_of_false (by omega) (lx_same hs (by omega)), L⟩

end Go.Proofs.Ytdiambcjghlffaa.T
namespace Go.Proofs.Ytdiambcjghlffaa.T
open Go.RowKit Go.Proofs.YtdiambcjghlffaaW.PrintWords Go.Proofs.YtdiambcjghlffaaW.PrintMore
open Go.Proofs.Ytdiambcjghlffaa.P
set_option linter.unusedVariables false
set_option linter.unusedSimpArgs false

/-- Too much, or valid and with too many programs. -/
def Fr (V : Wk) : Prop := 20 < V.rs.length ∨ 20 < V.fs.length ∨ 20 < V.ds.length ∨ (WOk V ∧ 800 < nP V)
theorem pow_more {V : Wk} {i : Nat} (hi : i ≤ Sl V) (h : 800 < bs V ^ i) : 800 < nP V := Nat.lt_of_lt_of_le h (Nat.pow_le_pow_right (by unfold bs; omega) hi)
set_option maxRecDepth 100000 in
set_option maxHeartbeats 8000000 in

theorem far_calls (V : Wk) (m : Wa) (w : World) (hV : WM w V m) (hs : Sz V) (r : Bool) (hb : r = true ↔ Fr V) :
    Calls Try.prog 12 #[wv V m] w fun e w' => e = .returned (.bool r) ∧ Below w.heap.size w w' := by
  have hu3 := Try.underlying3
  have hu22 := Try.underlying22
  have hu23 := Try.underlying23
  have hu24 := Try.underlying24
  have hu26 := Try.underlying26
  have hu30 := Try.underlying30
  obtain ⟨z3, o3⟩ := info_some info3s (by decide)
  obtain ⟨z22, o22⟩ := info_some info22s (by decide)
  obtain ⟨z23, o23⟩ := info_some info23s (by decide)
  obtain ⟨z24, o24⟩ := info_some info24s (by decide)
  refine E.enter (N := 42) Try.func12 rfl Try.ntmps12 (args := [wv V m]) (by simp) ?_
  have L := Below.refl w.heap.size w
  refine E.CG.seq ?_
  refine E.CG.list ?_
  refine E.GL.st rfl rfl rfl (E.ST.box rfl rfl fun g1 w1 e1 b1 l1 => ?_)
  have h1_L : w.heap.size ≤ g1 := by rw [e1]; exact L.size
  replace L := below_step L l1
  refine E.GL.run rfl rfl rfl (E.Runs.assign rfl rfl) ?_
  refine E.GL.done ?_
  refine E.QG.code ?_
  refine E.CG.seq ?_
  refine E.CG.seq ?_
  refine E.CG.list ?_
  refine E.GL.run rfl rfl rfl (E.Runs.fieldAddr rfl rfl hu26 rfl (by assumption) rfl) ?_
  refine E.GL.run rfl rfl rfl (E.Runs.load1 rfl rfl hu22 rfl (by first | assumption | exact E.blkc (by assumption) rfl | exact pw_cell_below L (by assumption))) ?_
  refine E.GL.run rfl rfl rfl (E.Runs.len rfl rfl hu22) ?_
  refine E.GL.cmp rfl rfl rfl (fun _ h => (E.Runs.gtr rfl rfl rfl h)) (fun h8 => ?_) (fun h8 => ?_)
  · refine E.GL.run rfl rfl rfl (E.Runs.move rfl rfl) ?_
    refine E.GL.skip rfl rfl rfl ?_
    refine E.GL.skip rfl rfl rfl ?_
    refine E.GL.skip rfl rfl rfl ?_
    refine E.GL.skip rfl rfl rfl ?_
    refine E.GL.run rfl rfl rfl (E.Runs.pick_t rfl rfl rfl) ?_
    refine E.GL.run rfl rfl rfl (E.Runs.move rfl rfl) ?_
    refine E.GL.skip rfl rfl rfl ?_
    refine E.GL.skip rfl rfl rfl ?_
    refine E.GL.skip rfl rfl rfl ?_
    refine E.GL.skip rfl rfl rfl ?_
    refine E.GL.run rfl rfl rfl (E.Runs.pick_t rfl rfl rfl) ?_
    refine E.GL.done ?_
    refine E.QG.code ?_
    refine E.CG.cond_t rfl ?_
    refine E.CG.seq ?_
    refine E.CG.list ?_
    refine E.GL.run rfl rfl rfl (E.Runs.assign rfl rfl) ?_
    refine E.GL.done ?_
    refine E.QG.code ?_
    refine E.CG.ret ?_
    refine E.QG.pass_ret ?_
    exact E.QG.result rfl rfl ⟨by rw [hb.mpr (.inl (by omega))], L⟩
  · refine E.GL.run rfl rfl rfl (E.Runs.move rfl rfl) ?_
    refine E.GL.run rfl rfl rfl (E.Runs.fieldAddr rfl rfl hu26 rfl (by assumption) rfl) ?_
    refine E.GL.run rfl rfl rfl (E.Runs.load1 rfl rfl hu23 rfl (by first | assumption | exact E.blkc (by assumption) rfl | exact pw_cell_below L (by assumption))) ?_
    refine E.GL.run rfl rfl rfl (E.Runs.len rfl rfl hu23) ?_
    refine E.GL.cmp rfl rfl rfl (fun _ h => (E.Runs.gtr rfl rfl rfl h)) (fun h13 => ?_) (fun h13 => ?_)
    · refine E.GL.run rfl rfl rfl (E.Runs.pick_f rfl rfl rfl) ?_
      refine E.GL.run rfl rfl rfl (E.Runs.move rfl rfl) ?_
      refine E.GL.skip rfl rfl rfl ?_
      refine E.GL.skip rfl rfl rfl ?_
      refine E.GL.skip rfl rfl rfl ?_
      refine E.GL.skip rfl rfl rfl ?_
      refine E.GL.run rfl rfl rfl (E.Runs.pick_t rfl rfl rfl) ?_
      refine E.GL.done ?_
      refine E.QG.code ?_
      refine E.CG.cond_t rfl ?_
      refine E.CG.seq ?_
      refine E.CG.list ?_
      refine E.GL.run rfl rfl rfl (E.Runs.assign rfl rfl) ?_
      refine E.GL.done ?_
      refine E.QG.code ?_
      refine E.CG.ret ?_
      refine E.QG.pass_ret ?_
      exact E.QG.result rfl rfl ⟨by rw [hb.mpr (.inr (.inl (by omega)))], L⟩
    · refine E.GL.run rfl rfl rfl (E.Runs.pick_f rfl rfl rfl) ?_
      refine E.GL.run rfl rfl rfl (E.Runs.move rfl rfl) ?_
      refine E.GL.run rfl rfl rfl (E.Runs.fieldAddr rfl rfl hu26 rfl (by assumption) rfl) ?_
      refine E.GL.run rfl rfl rfl (E.Runs.load1 rfl rfl hu24 rfl (by first | assumption | exact E.blkc (by assumption) rfl | exact pw_cell_below L (by assumption))) ?_
      refine E.GL.run rfl rfl rfl (E.Runs.len rfl rfl hu24) ?_
      refine E.GL.cmp rfl rfl rfl (fun _ h => (E.Runs.gtr rfl rfl rfl h)) (fun h19 => ?_) (fun h19 => ?_)
      · refine E.GL.run rfl rfl rfl (E.Runs.pick_f rfl rfl rfl) ?_
        refine E.GL.done ?_
        refine E.QG.code ?_
        refine E.CG.cond_t rfl ?_
        refine E.CG.seq ?_
        refine E.CG.list ?_
        refine E.GL.run rfl rfl rfl (E.Runs.assign rfl rfl) ?_
        refine E.GL.done ?_
        refine E.QG.code ?_
        refine E.CG.ret ?_
        refine E.QG.pass_ret ?_
        exact E.QG.result rfl rfl ⟨by rw [hb.mpr (.inr (.inr (.inl (by omega))))], L⟩
      · refine E.GL.run rfl rfl rfl (E.Runs.pick_f rfl rfl rfl) ?_
        refine E.GL.done ?_
        refine E.QG.code ?_
        refine E.CG.cond_f rfl ?_
        refine E.CG.skip ?_
        refine E.QG.code ?_
        refine E.CG.seq ?_
        refine E.CG.seq ?_
        refine E.CG.list ?_
        refine E.GL.run rfl rfl rfl (E.Runs.loads (cs := [.int .i64 V.d, .slice m.A V.rs.length m.a, .int .i64 V.h, .slice m.B V.fs.length m.b, .slice m.C V.ds.length m.c]) rfl rfl hu26 rfl info26s (blk_cells b1)) ?_
        refine E.GL.st rfl rfl rfl (E.ST.call rfl ent27 (E.evc rfl E.evn) ((check_r V m _ (hV.below L) hs).mono ?_))
        rintro e w22 ⟨rfl, l22⟩
        refine ⟨_, rfl, ?_⟩
        replace b1 := blk_below b1 l22
        replace L := below_step L l22
        refine E.GL.cmpn rfl rfl rfl (fun _ h => (E.Runs.neq rfl rfl rfl h)) (fun h23 => ?_) (fun h23 => ?_)
        · refine E.GL.done ?_
          refine E.QG.code ?_
          refine E.CG.cond_t rfl ?_
          refine E.CG.seq ?_
          refine E.CG.list ?_
          refine E.GL.run rfl rfl rfl (E.Runs.assign rfl rfl) ?_
          refine E.GL.done ?_
          refine E.QG.code ?_
          refine E.CG.ret ?_
          refine E.QG.pass_ret ?_
          exact E.QG.result rfl rfl ⟨by rw [bool_no hb (fun q => q.elim (fun q => by omega) (fun q => q.elim (fun q => by omega) (fun q => q.elim (fun q => by omega) (fun q => by have := chk_ok.mpr q.1; omega))))], L⟩
        · have ok := chk_ok.mp (show chk V = 0 by omega)
          have hsn := slots_nat ok.s
          have okf := ok.s.f
          refine E.GL.done ?_
          refine E.QG.code ?_
          refine E.CG.cond_f rfl ?_
          refine E.CG.skip ?_
          refine E.QG.code ?_
          refine E.CG.seq ?_
          refine E.CG.list ?_
          refine E.GL.run rfl rfl rfl (E.Runs.assign rfl rfl) ?_
          refine E.GL.done ?_
          refine E.QG.code ?_
          refine E.CG.seq ?_
          refine E.CG.seq ?_
          refine E.CG.list ?_
          refine E.GL.run rfl rfl rfl (E.Runs.assign rfl rfl) ?_
          refine E.GL.done ?_
          refine E.QG.code ?_
          refine E.CG.block ?_
          have s7_b1 := b1
          have s7_L := L
          refine E.CG.loop (fun (i : Nat) => [(1, .pointer (some ⟨g1, 0, none⟩)), (3, .int .i64 ((bs V ^ i : Nat) : Int)), (4, .int .i64 i)]) (fun i w' => i ≤ Sl V ∧ w'.heap[g1]? = some (.cells #[.int .i64 V.d, .slice m.A V.rs.length m.a, .int .i64 V.h, .slice m.B V.fs.length m.b, .slice m.C V.ds.length m.c] 26 (0, 0)) ∧ Below w.heap.size w w') (fun i => Sl V - i) 0 (E.subc rfl (E.subc rfl (E.subc rfl E.subn))) ⟨Nat.zero_le _, b1, L⟩ ?_
          rintro i w7 ⟨hi, b1, L⟩
          refine E.CG.seq ?_
          refine E.CG.seq ?_
          refine E.CG.list ?_
          refine E.GL.run rfl rfl rfl (E.Runs.move rfl rfl) ?_
          refine E.GL.run rfl rfl rfl (E.Runs.loads (cs := [.int .i64 V.d, .slice m.A V.rs.length m.a, .int .i64 V.h, .slice m.B V.fs.length m.b, .slice m.C V.ds.length m.c]) rfl rfl hu26 rfl info26s (blk_cells b1)) ?_
          refine E.GL.st rfl rfl rfl (E.ST.call rfl ent35 (E.evc rfl E.evn) ((slots_r V m _ ok.s.d ok.s.r ok.s.h).mono ?_))
          rintro e w26 ⟨rfl, l26⟩
          refine ⟨_, rfl, ?_⟩
          replace b1 := blk_below b1 l26
          replace L := below_step L l26
          rw [hsn.1]
          refine E.GL.cmp rfl rfl rfl (fun _ h => (E.Runs.lss rfl rfl rfl h)) (fun h27 => ?_) (fun h27 => ?_)
          · refine E.GL.run rfl rfl rfl (E.Runs.move rfl rfl) ?_
            refine E.GL.run rfl rfl rfl (E.Runs.move rfl rfl) ?_
            refine E.GL.cmp rfl rfl rfl (fun _ h => (E.Runs.leq rfl rfl rfl h)) (fun h30 => ?_) (fun h30 => ?_)
            · have hq : bs V ^ i ≤ 800 := by omega
              have hmul : IntKind.i64.wrap (((bs V ^ i : Nat) : Int) * ((V.fs.length : Int) + 1)) = ((bs V ^ (i + 1) : Nat) : Int) := by
                have h5 : bs V ^ (i + 1) ≤ 800 * 5 := by rw [Nat.pow_succ]; exact Nat.mul_le_mul hq (by unfold bs; omega)
                rw [show ((V.fs.length : Int) + 1) = ((bs V : Nat) : Int) from by unfold bs; push_cast; rfl, ← Int.natCast_mul, ← Nat.pow_succ]
                generalize bs V ^ (i + 1) = q at h5 ⊢
                exact IntWalk.i64_in _ (by omega)
              refine E.GL.run rfl rfl rfl (E.Runs.pick_t rfl rfl rfl) ?_
              refine E.GL.done ?_
              refine E.QG.code ?_
              refine E.CG.cond_t rfl ?_
              refine E.CG.skip ?_
              refine E.QG.code ?_
              refine E.CG.seq ?_
              refine E.CG.block ?_
              refine E.CG.list ?_
              refine E.GL.run rfl rfl rfl (E.Runs.move rfl rfl) ?_
              refine E.GL.run rfl rfl rfl (E.Runs.fieldAddr rfl rfl hu26 rfl (by assumption) rfl) ?_
              refine E.GL.run rfl rfl rfl (E.Runs.load1 rfl rfl hu23 rfl (by first | assumption | exact E.blkc (by assumption) rfl | exact pw_cell_below L (by assumption))) ?_
              refine E.GL.run rfl rfl rfl (E.Runs.len rfl rfl hu23) ?_
              refine E.GL.run rfl rfl rfl (E.Runs.add rfl rfl rfl (IntWalk.i64_in _ (by omega))) ?_
              refine E.GL.run rfl rfl rfl (E.Runs.mul rfl rfl rfl hmul) ?_
              refine E.GL.run rfl rfl rfl (E.Runs.assign rfl rfl) ?_
              refine E.GL.done ?_
              refine E.QG.block_normal ?_
              refine E.QG.code ?_
              refine E.CG.list ?_
              refine E.GL.run rfl rfl rfl (E.Runs.move rfl rfl) ?_
              refine E.GL.run rfl rfl rfl (E.Runs.add rfl rfl rfl (IntWalk.i64_in _ (by omega))) ?_
              refine E.GL.run rfl rfl rfl (E.Runs.assign rfl rfl) ?_
              refine E.GL.done ?_
              exact E.QG.round (i + 1) (E.subc rfl (E.subc rfl (E.subc rfl E.subn))) ⟨by omega, b1, L⟩ (by omega)
            · refine E.GL.run rfl rfl rfl (E.Runs.pick_t rfl rfl rfl) ?_
              refine E.GL.done ?_
              refine E.QG.code ?_
              refine E.CG.cond_f rfl ?_
              refine E.CG.exit ?_
              refine E.QG.pass_exit ?_
              refine E.QG.pass_exit ?_
              refine E.QG.block_here ?_
              refine E.QG.code ?_
              refine E.CG.seq ?_
              refine E.CG.list ?_
              refine E.GL.run rfl rfl rfl (E.Runs.move rfl rfl) ?_
              refine E.GL.run rfl rfl rfl (E.Runs.gtr rfl rfl rfl (decide_eq_true (by omega))) ?_
              refine E.GL.run rfl rfl rfl (E.Runs.assign rfl rfl) ?_
              refine E.GL.done ?_
              refine E.QG.code ?_
              refine E.CG.ret ?_
              exact E.QG.result rfl rfl ⟨by rw [hb.mpr (.inr (.inr (.inr ⟨ok, pow_more hi (by omega)⟩)))], L⟩
          · obtain rfl : i = Sl V := by omega
            refine E.GL.run rfl rfl rfl (E.Runs.move rfl rfl) ?_
            refine E.GL.skip rfl rfl rfl ?_
            refine E.GL.skip rfl rfl rfl ?_
            refine E.GL.run rfl rfl rfl (E.Runs.pick_f rfl rfl rfl) ?_
            refine E.GL.done ?_
            refine E.QG.code ?_
            refine E.CG.cond_f rfl ?_
            refine E.CG.exit ?_
            refine E.QG.pass_exit ?_
            refine E.QG.pass_exit ?_
            refine E.QG.block_here ?_
            refine E.QG.code ?_
            refine E.CG.seq ?_
            refine E.CG.list ?_
            refine E.GL.run rfl rfl rfl (E.Runs.move rfl rfl) ?_
            refine E.GL.cmp rfl rfl rfl (fun _ h => (E.Runs.gtr rfl rfl rfl h)) (fun h41 => ?_) (fun h41 => ?_)
            · refine E.GL.run rfl rfl rfl (E.Runs.assign rfl rfl) ?_
              refine E.GL.done ?_
              refine E.QG.code ?_
              refine E.CG.ret ?_
              exact E.QG.result rfl rfl ⟨by rw [hb.mpr (.inr (.inr (.inr ⟨ok, by unfold nP; omega⟩)))], L⟩
            · refine E.GL.run rfl rfl rfl (E.Runs.assign rfl rfl) ?_
              refine E.GL.done ?_
              refine E.QG.code ?_
              refine E.CG.ret ?_
              exact E.QG.result rfl rfl ⟨by rw [bool_no hb (fun q => q.elim (fun q => by omega) (fun q => q.elim (fun q => by omega) (fun q => q.elim (fun q => by omega) (fun q => by have := q.2; unfold nP at this; omega))))], L⟩

end Go.Proofs.Ytdiambcjghlffaa.T
namespace Go.Proofs.Ytdiambcjghlffaa.T
open Go.RowKit Go.Proofs.YtdiambcjghlffaaW.PrintWords Go.Proofs.YtdiambcjghlffaaW.PrintMore
open Go.Proofs.Ytdiambcjghlffaa.P
set_option linter.unusedVariables false
set_option linter.unusedSimpArgs false
section
open Classical
/-- The first deals that a program keeps. -/
noncomputable def mk (V : Wk) (p : List Int) : Nat → Nat
  | 0 => 0
  | n + 1 => if bad V p n then mk V p n else mk V p n ||| 2 ^ n
end
noncomputable def mask (V : Wk) (p : List Int) : Nat := mk V p V.ds.length
theorem mk_yes {V : Wk} {p : List Int} {n : Nat} (h : ¬ bad V p n) : mk V p (n + 1) = mk V p n ||| 2 ^ n := by rw [mk, if_neg h]
theorem mk_no {V : Wk} {p : List Int} {n : Nat} (h : bad V p n) : mk V p (n + 1) = mk V p n := by rw [mk, if_pos h]
theorem mk_bit (V : Wk) (p : List Int) : ∀ (n i : Nat), (mk V p n).testBit i = true ↔ i < n ∧ ¬ bad V p i
  | 0, i => by simp [mk]
  | n + 1, i => by
    have ih := mk_bit V p n i
    by_cases h : bad V p n
    · rw [mk_no h, ih]
      constructor
      · rintro ⟨a, b⟩; exact ⟨by omega, b⟩
      · rintro ⟨a, b⟩
        refine ⟨?_, b⟩
        by_cases e : i = n
        · subst e; exact absurd h b
        · omega
    · rw [mk_yes h, Nat.testBit_or, Bool.or_eq_true, ih, Nat.testBit_two_pow, decide_eq_true_eq]
      constructor
      · rintro (⟨a, b⟩ | e)
        · exact ⟨by omega, b⟩
        · subst e; exact ⟨by omega, h⟩
      · rintro ⟨a, b⟩
        by_cases e : n = i
        · exact .inr e
        · exact .inl ⟨by omega, b⟩
theorem mk_lt (V : Wk) (p : List Int) : ∀ n, mk V p n < 2 ^ n
  | 0 => by simp [mk]
  | n + 1 => by
    have ih := mk_lt V p n
    have h2 : 2 ^ (n + 1) = 2 * 2 ^ n := by rw [Nat.pow_succ]; omega
    by_cases h : bad V p n
    · rw [mk_no h]; omega
    · rw [mk_yes h]
      exact Nat.or_lt_two_pow (by omega) (by omega)
theorem mask_lt {V : Wk} (h : V.ds.length ≤ 8) (p : List Int) : mask V p < 256 := Nat.lt_of_lt_of_le (mk_lt V p _) (pow_8 h).2
/-- A set is part of another one. -/
theorem sub_iff {a s : Nat} : a &&& s = s ↔ ∀ i, s.testBit i = true → a.testBit i = true := by
  constructor
  · intro h i hi
    have := congrArg (fun x => x.testBit i) h
    simp only [Nat.testBit_and, hi, Bool.and_true] at this
    exact this
  · intro h
    refine Nat.eq_of_testBit_eq fun i => ?_
    rw [Nat.testBit_and]
    cases hs : s.testBit i with
    | false => simp
    | true => simp [h i hs]
/-- A program keeps all deals of a set. -/
def Kp (V : Wk) (s : Nat) (p : List Int) : Prop := ∀ i, s.testBit i = true → i < V.ds.length ∧ ¬ bad V p i
theorem kp_iff {V : Wk} {s : Nat} {p : List Int} : mask V p &&& s = s ↔ Kp V s p := by
  rw [sub_iff]
  exact ⟨fun h i hi => (mk_bit V p _ i).mp (h i hi), fun h i hi => (mk_bit V p _ i).mpr (h i hi)⟩
def allS (V : Wk) : Nat := 2 ^ V.ds.length - 1
theorem all_bit (V : Wk) (i : Nat) : (allS V).testBit i = true ↔ i < V.ds.length := by
  unfold allS
  rw [Nat.testBit_two_pow_sub_one, decide_eq_true_eq]
theorem kp_all {V : Wk} {p : List Int} : Kp V (allS V) p ↔ ∀ i, i < V.ds.length → ¬ bad V p i := ⟨fun h i hi => (h i ((all_bit V i).mpr hi)).2, fun h i hi => ⟨(all_bit V i).mp hi, h i ((all_bit V i).mp hi)⟩⟩
theorem brk_nil {V : Wk} {p : List Int} : brk V p V.ds.length = [] ↔ Kp V (allS V) p := by
  rw [kp_all]
  constructor
  · intro h i hi hb
    have : (i : Int) ∈ brk V p V.ds.length := brk_mem.mpr ⟨i, hi, hb, rfl⟩
    rw [h] at this
    cases this
  · intro h
    refine List.eq_nil_iff_forall_not_mem.mpr fun a ha => ?_
    obtain ⟨i, hi, hb, _⟩ := brk_mem.mp ha
    exact h i hi hb
/-- Without a deal. -/
theorem without_bit (V : Wk) {d : Nat} (hd : d < V.ds.length) (i : Nat) : (allS V &&& (allS V ^^^ 2 ^ d)).testBit i = true ↔ i < V.ds.length ∧ i ≠ d := by
  have h1 := all_bit V i
  rw [Nat.testBit_and, Nat.testBit_xor, Nat.testBit_two_pow]
  by_cases hi : i < V.ds.length
  · rw [h1.mpr hi]
    by_cases e : d = i
    · subst e; simp
    · simp [e, hi]; exact fun q => e q.symm
  · have : (allS V).testBit i = false := Bool.eq_false_iff.mpr fun q => hi (h1.mp q)
    rw [this]
    simp [hi]
/-- Digits as a number. -/
theorem dg_all {B : Nat} (hB : 0 < B) (f : Nat → Nat) : ∀ n, (∀ i, i < n → f i < B) → ∃ t, t < B ^ n ∧ ∀ i, i < n → dg B t i = f i
  | 0, _ => ⟨0, by simp, fun i hi => by omega⟩
  | n + 1, h => by
    obtain ⟨t, ht, hd⟩ := dg_all hB f n fun i hi => h i (by omega)
    have hf := h n (by omega)
    have hp : 0 < B ^ n := Nat.pow_pos hB
    refine ⟨t + B ^ n * f n, ?_, fun i hi => ?_⟩
    · rw [Nat.pow_succ]
      have : B ^ n * f n + B ^ n ≤ B ^ n * B := by
        have := Nat.mul_le_mul_left (B ^ n) (show f n + 1 ≤ B from hf)
        rwa [Nat.mul_add, Nat.mul_one] at this
      omega
    · unfold dg
      by_cases e : i = n
      · subst e
        rw [Nat.add_mul_div_left _ _ hp, Nat.div_eq_of_lt ht, Nat.zero_add, Nat.mod_eq_of_lt hf]
      · have hi' : i < n := by omega
        have hpi : 0 < B ^ i := Nat.pow_pos hB
        have e2 : B ^ n = B ^ i * (B * B ^ (n - i - 1)) := by
          rw [← Nat.pow_succ', ← Nat.pow_add]
          congr 1
          omega
        have := hd i hi'
        unfold dg at this
        rw [e2, Nat.mul_assoc, Nat.add_mul_div_left _ _ hpi, Nat.mul_assoc, Nat.add_mul_mod_self_left, this]
/-- Each program is handed out. -/
theorem pr_all {V : Wk} {p : List Int} (h : IsP V p) : ∃ t, t < nP V ∧ pr V t = p := by
  have hB : 0 < bs V := by unfold bs; omega
  obtain ⟨t, ht, hd⟩ := dg_all hB (fun i => (p.getD i 0 + 1).toNat) (Sl V) fun i hi => by
    obtain ⟨x, hx⟩ := get_ex (show i < p.length by rw [h.1]; exact hi)
    have := h.2 x (mem_of hx)
    rw [getD_of hx]
    unfold bs
    omega
  refine ⟨t, ht, List.ext_getElem? fun i => ?_⟩
  by_cases hi : i < Sl V
  · rw [pr_at hi, hd i hi]
    obtain ⟨x, hx⟩ := get_ex (show i < p.length by rw [h.1]; exact hi)
    have := h.2 x (mem_of hx)
    rw [getD_of hx, hx]
    congr 1
    omega
  · rw [List.getElem?_eq_none (by rw [pr_len]; omega), List.getElem?_eq_none (by rw [h.1]; omega)]
/-- The greatest takings of a program that keeps a set of deals; none: there is none. -/
def IsMx (V : Wk) (s : Nat) : Option Int → Prop
  | none => ∀ p, IsP V p → ¬ Kp V s p
  | some m => (∃ p, IsP V p ∧ Kp V s p ∧ takes V p = m) ∧ ∀ p, IsP V p → Kp V s p → takes V p ≤ m
theorem IsMx.one {V : Wk} {s : Nat} {r q : Option Int} (h : IsMx V s r) (k : IsMx V s q) : r = q := by
  cases r with
  | none => cases q with
    | none => rfl
    | some m => obtain ⟨p, h1, h2, _⟩ := k.1; exact absurd h2 (h p h1)
  | some m => cases q with
    | none => obtain ⟨p, h1, h2, _⟩ := h.1; exact absurd h2 (k p h1)
    | some m' =>
      obtain ⟨p, h1, h2, h3⟩ := h.1
      obtain ⟨p', h1', h2', h3'⟩ := k.1
      have := h.2 p' h1' h2'
      have := k.2 p h1 h2
      exact congrArg some (by omega)
end Go.Proofs.Ytdiambcjghlffaa.T
namespace Go.Proofs.Ytdiambcjghlffaa.T
open Go.RowKit Go.Proofs.YtdiambcjghlffaaW.PrintWords Go.Proofs.YtdiambcjghlffaaW.PrintMore
open Go.Proofs.Ytdiambcjghlffaa.P
set_option linter.unusedVariables false
set_option linter.unusedSimpArgs false
/-- A best program: the header of its row, and what it takes. -/
structure Bh where
  A : Option Addr
  n : Nat
  c : Nat
  t : Int
def bhV (b : Bh) : Value := .agg #[.slice b.A b.n b.c, .int .i64 b.t]
def setV (s : Nat) : Value := .int .u64 (s : Int)
/-- The table of some programs; q s is the program of the entry of s. -/
def TbOk (V : Wk) (xs : List (List Int)) (f : Nat → Option Bh) (q : Nat → List Int) : Prop :=
  (∀ s, f s = none → ∀ p, p ∈ xs → mask V p ≠ s) ∧ ∀ s b, f s = some b → q s ∈ xs ∧ mask V (q s) = s ∧ b.t = takes V (q s) ∧ b.n = (q s).length ∧ ∀ p, p ∈ xs → mask V p = s → takes V p ≤ b.t
theorem TbOk.start (V : Wk) (q : Nat → List Int) : TbOk V [] (fun _ => none) q := ⟨(fun _ _ _ h => nomatch h), (fun _ _ h => nomatch h)⟩
theorem TbOk.skip {V : Wk} {xs : List (List Int)} {f : Nat → Option Bh} {q : Nat → List Int} {p : List Int} {b : Bh} (h : TbOk V xs f q) (hb : f (mask V p) = some b) (ht : takes V p ≤ b.t) : TbOk V (xs ++ [p]) f q := by
  refine ⟨fun s hs p' hp' e => ?_, fun s b' hs => ?_⟩
  · rcases List.mem_append.mp hp' with h1 | h1
    · exact h.1 s hs p' h1 e
    · rw [List.mem_singleton.mp h1] at e
      rw [e, hs] at hb
      cases hb
  · obtain ⟨h1, h2, h3, h4, h5⟩ := h.2 s b' hs
    refine ⟨List.mem_append_left _ h1, h2, h3, h4, fun p' hp' e => ?_⟩
    rcases List.mem_append.mp hp' with h6 | h6
    · exact h5 p' h6 e
    · rw [List.mem_singleton.mp h6] at e ⊢
      rw [e, hs] at hb
      injection hb with hb
      rw [hb]
      exact ht
theorem TbOk.put {V : Wk} {xs : List (List Int)} {f : Nat → Option Bh} {q : Nat → List Int} {p : List Int} {b : Bh} (h : TbOk V xs f q) (hb : ∀ b', f (mask V p) = some b' → b'.t ≤ takes V p) (ht : b.t = takes V p) (hn : b.n = p.length) :
    TbOk V (xs ++ [p]) (E.upd f (mask V p) b) (fun s => if s = mask V p then p else q s) := by
  refine ⟨fun s hs p' hp' e => ?_, fun s b' hs => ?_⟩
  · unfold E.upd at hs
    split at hs
    · cases hs
    · next hne =>
      rcases List.mem_append.mp hp' with h1 | h1
      · exact h.1 s hs p' h1 e
      · rw [List.mem_singleton.mp h1] at e
        exact hne e.symm
  · unfold E.upd at hs
    split at hs
    · next he =>
      injection hs with hs
      subst hs
      have hq : (fun s => if s = mask V p then p else q s) s = p := if_pos he
      refine ⟨by rw [hq]; exact List.mem_append_right _ (List.mem_singleton.mpr rfl), by rw [hq]; exact he.symm, by rw [hq]; exact ht, by rw [hq]; exact hn, fun p' hp' e => ?_⟩
      rcases List.mem_append.mp hp' with h1 | h1
      · cases hf : f (mask V p) with
        | none => exact absurd (e.trans he) (h.1 _ hf p' h1)
        | some b' =>
          have := (h.2 _ b' hf).2.2.2.2 p' h1 (e.trans he)
          have := hb b' hf
          omega
      · rw [List.mem_singleton.mp h1]
        omega
    · next hne =>
      obtain ⟨h1, h2, h3, h4, h5⟩ := h.2 s b' hs
      have hq : (fun s => if s = mask V p then p else q s) s = q s := if_neg hne
      refine ⟨by rw [hq]; exact List.mem_append_left _ h1, by rw [hq]; exact h2, by rw [hq]; exact h3, by rw [hq]; exact h4, fun p' hp' e => ?_⟩
      rcases List.mem_append.mp hp' with h6 | h6
      · exact h5 p' h6 e
      · rw [List.mem_singleton.mp h6] at e
        exact absurd e.symm hne
/-- The table of all programs answers what is greatest. -/
theorem tb_none {V : Wk} {f : Nat → Option Bh} {q : Nat → List Int} {s : Nat} (h : TbOk V ((List.range (nP V)).map (pr V)) f q) (hno : ∀ k b, f k = some b → ¬ k &&& s = s) : IsMx V s none := by
  intro p hp hk
  obtain ⟨t, ht, rfl⟩ := pr_all hp
  have hmem : pr V t ∈ (List.range (nP V)).map (pr V) := List.mem_map.mpr ⟨t, List.mem_range.mpr ht, rfl⟩
  cases hf : f (mask V (pr V t)) with
  | none => exact h.1 _ hf _ hmem rfl
  | some b => exact hno _ b hf (kp_iff.mpr hk)
theorem tb_some {V : Wk} {f : Nat → Option Bh} {q : Nat → List Int} {s k : Nat} {b : Bh} (h : TbOk V ((List.range (nP V)).map (pr V)) f q) (hf : f k = some b) (hk : k &&& s = s) (hmx : ∀ k' b', f k' = some b' → k' &&& s = s → b'.t ≤ b.t) : IsMx V s (some b.t) ∧ IsP V (q k) ∧ Kp V s (q k) ∧ takes V (q k) = b.t := by
  obtain ⟨h1, h2, h3, h4, h5⟩ := h.2 k b hf
  obtain ⟨t, ht, he⟩ := List.mem_map.mp h1
  have hP : IsP V (q k) := by rw [← he]; exact pr_ok V t
  have hK : Kp V s (q k) := kp_iff.mp (by rw [h2]; exact hk)
  refine ⟨⟨⟨q k, hP, hK, h3.symm⟩, fun p hp hkp => ?_⟩, hP, hK, h3.symm⟩
  obtain ⟨u, hu, rfl⟩ := pr_all hp
  have hmem : pr V u ∈ (List.range (nP V)).map (pr V) := List.mem_map.mpr ⟨u, List.mem_range.mpr hu, rfl⟩
  cases hg : f (mask V (pr V u)) with
  | none => exact absurd rfl (h.1 _ hg _ hmem)
  | some b' =>
    have h6 := (h.2 _ b' hg).2.2.2.2 _ hmem rfl
    have h7 := hmx _ b' hg (kp_iff.mpr hkp)
    omega
end Go.Proofs.Ytdiambcjghlffaa.T
namespace Go.Proofs.Ytdiambcjghlffaa.E
open Go.RowKit Go.Proofs.YtdiambcjghlffaaW.PrintWords Go.Proofs.YtdiambcjghlffaaW.PrintMore
open Go.Proofs.Ytdiambcjghlffaa.T
theorem KeyT.nat {P : Program} {k : TypeId} {q : IntKind} (hu : P.underlying k = some (.int q)) : KeyT P k (fun n : Nat => Value.int q (n : Int)) :=
  ⟨fun h => by injection h with _ h; omega, fun em x W => (KeyT.int hu).check em x W, fun x es W hes => (KeyT.int hu).find x es W (fun e he => by obtain ⟨y, hy⟩ := hes e he; exact ⟨y, hy⟩), fun x W => (KeyT.int hu).stays x W⟩
end Go.Proofs.Ytdiambcjghlffaa.E
namespace Go.Proofs.Ytdiambcjghlffaa.T
open Go.RowKit Go.Proofs.YtdiambcjghlffaaW.PrintWords Go.Proofs.YtdiambcjghlffaaW.PrintMore
open Go.Proofs.Ytdiambcjghlffaa.P
set_option linter.unusedVariables false
theorem kST : E.KeyT Try.prog 66 setV := E.KeyT.nat Try.underlying66
abbrev MT (w : World) (g : Nat) (f : Nat → Option Bh) : Prop := E.Mf setV bhV w g f
theorem zero62 (W : World) : (zeroValue 62).run Try.prog W = .ok (bhV ⟨none, 0, 0, 0⟩) W := by
  have := info62z
  unfold zeroValue
  cases h : Try.prog.info? 62 with
  | none => rw [h] at this; cases this
  | some i =>
    rw [h] at this
    have hz : i.zero = some (.agg #[.slice none 0 0, .int .i64 0]) := by simpa using this
    simp [typeInfo, h, hz, Sem.run_bind, Result.andThen, bhV]
end Go.Proofs.Ytdiambcjghlffaa.T
