/- The reference's Run: the walk. -/
import Derived.Test.YthdbkhdiaehblaaT27
namespace Go.Proofs.Ythdbkhdiaehblaa.T
open Go.RowKit Go.Proofs.YthdbkhdiaehblaaW.PrintWords Go.Proofs.YthdbkhdiaehblaaW.PrintMore
open Go.Proofs.Ythdbkhdiaehblaa.P
set_option linter.unusedVariables false
theorem quo_nonneg {a b : Int} (ha : 0 ≤ a) (hb : a ≤ 1000000) : IntKind.i64.wrap (a.tdiv b) = a / b := by
  rw [Int.tdiv_eq_ediv_of_nonneg ha]
  have h1 : a / b ≤ a.natAbs := by
    rw [← Int.tdiv_eq_ediv_of_nonneg ha]
    have := Int.natAbs_tdiv_le_natAbs a b
    omega
  have h2 : -(a.natAbs : Int) ≤ a / b := by
    rw [← Int.tdiv_eq_ediv_of_nonneg ha]
    have := Int.natAbs_tdiv_le_natAbs a b
    omega
  exact IntWalk.i64_in _ (by omega)

theorem passes_row (ra c : Int) (w : World) (h1 : 1 ≤ ra) (h2 : ra ≤ 1000) (h3 : 0 ≤ c) (h4 : c ≤ 1000) :
    Calls Try.prog 51 #[.int .i64 c, .int .i64 ra] w fun e w' => e = .returned (.int .i64 (passesT ra c)) ∧ Below w.heap.size w w' := by
  refine E.enter (N := 11) Try.func51 rfl Try.ntmps51 (args := [.int .i64 c, .int .i64 ra]) (by simp) ?_
  have L := Below.refl w.heap.size w
  refine E.CG.seq ?_
  refine E.CG.list ?_
  refine E.GL.run rfl rfl rfl (E.Runs.assign rfl rfl) ?_
  refine E.GL.done ?_
  refine E.QG.code ?_
  refine E.CG.seq ?_
  refine E.CG.list ?_
  refine E.GL.run rfl rfl rfl (E.Runs.move rfl rfl) ?_
  refine E.GL.run rfl rfl rfl (E.Runs.move rfl rfl) ?_
  refine E.GL.run rfl rfl rfl (E.Runs.add rfl rfl rfl (IntWalk.i64_in _ (by omega))) ?_
  refine E.GL.run rfl rfl rfl (E.Runs.sub rfl rfl rfl (IntWalk.i64_in _ (by omega))) ?_
  refine E.GL.run rfl rfl rfl (E.Runs.move rfl rfl) ?_
  refine E.GL.run rfl rfl rfl (E.Runs.quo rfl rfl rfl (by omega) (quo_nonneg (by omega) (by omega))) ?_
  refine E.GL.run rfl rfl rfl (E.Runs.assign rfl rfl) ?_
  refine E.GL.done ?_
  refine E.QG.code ?_
  refine E.CG.ret ?_
  exact E.QG.result rfl rfl ⟨rfl, L⟩

theorem info47s : (Try.prog.info? 47).map (·.size) = some 1 := by kernel_rfl
theorem info49s : (Try.prog.info? 49).map (·.size) = some 3 := by kernel_rfl
theorem info56s : (Try.prog.info? 56).map (·.size) = some 5 := by kernel_rfl
theorem info56z : (Try.prog.info? 56).map (·.zero) = some (some (.agg #[(.int .i64 0), (.int .i64 0), (.int .i64 0), (.int .i64 0), (.int .i64 0)])) := by kernel_rfl
theorem info56t : (Try.prog.info? 56).map (fun i => (i.zero, i.size, i.bytes)) = some (some (.agg #[(.int .i64 0), (.int .i64 0), (.int .i64 0), (.int .i64 0), (.int .i64 0)]), 5, 40) := by kernel_rfl
theorem TmAt.grown {w w' : World} {ad : Addr} {k : Nat} {t : Tm} {row : Option Nat} (h : TmAt w ad k t) (g : w.grownBy w' row) (ne : some ad.block ≠ row) : TmAt w' ad k t :=
  have e : some (ad.add (k * 5)).block ≠ row := by rw [show (ad.add (k * 5)).block = ad.block by unfold Addr.add; split <;> rfl]; exact ne
  ⟨cell_grown g h.c0 e, cell_grown g h.c1 e, cell_grown g h.c2 e, cell_grown g h.c3 e, cell_grown g h.c4 e⟩
set_option maxRecDepth 100000 in
theorem lit56 (t : Tm) (W : World) : (Instr.buildSlice 53 1 #[(0, .agg #[.int .i64 t.enter, .int .i64 t.seated, .int .i64 t.start, .int .i64 t.empty, .int .i64 t.ready])]).run Try.prog W = .ok (.slice (some ⟨W.heap.size, 0, none⟩) 1 1) (W.alloc (.cells #[.int .i64 t.enter, .int .i64 t.seated, .int .i64 t.start, .int .i64 t.empty, .int .i64 t.ready] 56 (0, 0))) := by
  have hu53 := Try.underlying53
  go_simp
/-- The numbers of one slot of a case, for omega. -/
structure RunNums (ra wk ea : Int) (s : S36) (a b : Int) (i : Nat) (t : Tm) : Prop where
  b0 : 0 ≤ s.f1 ∧ s.f1 ≤ 10000 ∧ 0 ≤ s.f3 ∧ s.f3 ≤ 1000 ∧ 0 ≤ a ∧ a ≤ 1000 ∧ 0 ≤ b ∧ b ≤ 1000
  r0 : 1 ≤ ra ∧ ra ≤ 1000 ∧ 0 ≤ wk ∧ wk ≤ 1000 ∧ 0 ≤ ea ∧ ea ≤ 1000
  t0 : 0 ≤ t.enter ∧ t.enter ≤ t.seated ∧ t.seated ≤ t.start ∧ s.f1 ≤ t.start ∧ t.start + a ≤ t.empty ∧ t.empty + b ≤ t.ready ∧ t.ready ≤ 10000 + 6000 * ((i : Int) + 1)
theorem run_nums {ra wk ea : Int} {xs : List It} (R : RtOk ⟨ra, wk, ea⟩) (X : ∀ x ∈ xs, ItOk x) {i : Nat} {s : S36} {a b : Int} {t : Tm} (hx : xs[i]? = some ⟨s, a, b⟩) (ht : (dayT ⟨ra, wk, ea⟩ xs)[i]? = some t) : RunNums ra wk ea s a b i t := by
  have D := dayT_facts R X hx ht
  obtain ⟨x0, x1, x2, x3, x4, x5, x6, x7⟩ := X _ (List.mem_of_getElem? hx)
  obtain ⟨r0, r1, r2, r3, r4, r5⟩ := R
  exact ⟨⟨x0, x1, x2, x3, x4, x5, x6, x7⟩, ⟨r0, r1, r2, r3, r4, r5⟩, ⟨D.e0, D.es, D.ss, D.bs, D.se, D.er, D.le⟩⟩
set_option maxRecDepth 100000 in
set_option maxHeartbeats 40000000 in

theorem run_row (H : Hs) (l : List S36) (rs cs : List Int) (ra : Int) (A1 Ar Ac : Option Addr) (c1 cr cc : Nat) (w : World) (hn : l.length ≤ 100) (R : RtOk (⟨ra, H.walk, H.early⟩ : Rt)) (X : ∀ x ∈ items l rs cs, ItOk x)
    (hr : Kd.C k36 w A1 l.length l) (hc : l.length ≤ c1) (hR : Kd.C (Kd.int .i64) w Ar l.length rs) (hC : Kd.C (Kd.int .i64) w Ac l.length cs) :
    Calls Try.prog 24 #[hv H, .slice A1 l.length c1, .agg #[.slice Ar l.length cr, .slice Ac l.length cc, .int .i64 ra]] w fun e w' => ∃ A c, e = .returned (.slice A l.length c) ∧ l.length ≤ c ∧ Kd.C kTm w' A l.length (dayT (⟨ra, H.walk, H.early⟩ : Rt) (items l rs cs)) ∧ Below w.heap.size w w' := by
  have hu3 := Try.underlying3
  have hu25 := Try.underlying25
  have hu26 := Try.underlying26
  have hu36 := Try.underlying36
  have hu47 := Try.underlying47
  have hu49 := Try.underlying49
  have hu53 := Try.underlying53
  have hu56 := Try.underlying56
  obtain ⟨z3, o3⟩ := info_some info3s (by decide)
  obtain ⟨z36, o36⟩ := info_some info36s (by decide)
  obtain ⟨z47, o47⟩ := info_some info47s (by decide)
  obtain ⟨z56, o56⟩ := info_some info56s (by decide)
  have hrl : rs.length = l.length := Kd.C_len hR
  have hcl : cs.length = l.length := Kd.C_len hC
  have hxl := items_length l rs cs hrl hcl
  refine E.enter (N := 114) Try.func24 rfl Try.ntmps24 (args := [hv H, .slice A1 l.length c1, .agg #[.slice Ar l.length cr, .slice Ac l.length cc, .int .i64 ra]]) (by simp) ?_
  have L := Below.refl w.heap.size w
  refine E.CG.seq ?_
  refine E.CG.list ?_
  refine E.GL.st rfl rfl rfl (E.ST.box rfl rfl fun g3 w3 e3 b3 l3 => ?_)
  have h3_L : w.heap.size ≤ g3 := by rw [e3]; exact L.size
  replace L := below_step L l3
  refine E.GL.st rfl rfl rfl (E.ST.box rfl rfl fun g5 w5 e5 b5 l5 => ?_)
  have h5_L : w.heap.size ≤ g5 := by rw [e5]; exact L.size
  have n5_b3 : g3 ≠ g5 := by have := blk_lt b3; omega
  replace b3 := blk_below b3 l5
  replace L := below_step L l5
  refine E.GL.run rfl rfl rfl (E.Runs.assign rfl rfl) ?_
  refine E.GL.done ?_
  refine E.QG.code ?_
  refine E.CG.seq ?_
  refine E.CG.list ?_
  refine E.GL.run rfl rfl rfl (E.Runs.assign rfl rfl) ?_
  refine E.GL.done ?_
  refine E.QG.code ?_
  refine E.CG.seq ?_
  refine E.CG.seq ?_
  refine E.CG.list ?_
  refine E.GL.run rfl rfl rfl (E.Runs.assign rfl rfl) ?_
  refine E.GL.done ?_
  refine E.QG.code ?_
  refine E.CG.block ?_
  have s3_b3 := b3
  have s3_b5 := b5
  have s3_L := L
  refine E.CG.loop2 (fun (i : Nat) (v7 : Value) => [(1, .slice A1 l.length c1), (3, .pointer (some ⟨g3, 0, none⟩)), (5, .pointer (some ⟨g5, 0, none⟩)), (7, v7), (8, .int .i64 i)]) (fun i v7 w' => i ≤ l.length ∧ Kd.R kTm 56 w' w5.heap.size (fun _ => True) v7 ((dayT (⟨ra, H.walk, H.early⟩ : Rt) (items l rs cs)).take i) ∧ Below w5.heap.size w5 w') (fun i v7 => l.length - i) 0 (.slice none 0 0) (E.subc rfl (E.subc rfl (E.subc rfl (E.subc rfl (E.subc rfl (E.subn)))))) ⟨Nat.zero_le _, Kd.R_nil _ _ _ _ _, Below.refl _ _⟩ ?_
  rintro i v7 w3 ⟨hi, R7, lq⟩
  replace b3 := blk_below b3 lq
  replace b5 := blk_below b5 lq
  replace L := below_step L lq
  have hti : ((dayT (⟨ra, H.walk, H.early⟩ : Rt) (items l rs cs)).take i).length = i := by rw [List.length_take, dayT_length, hxl]; omega
  obtain ⟨A7, c7, h7⟩ := Kd.R_slice R7
  rw [hti] at h7
  subst h7
  refine E.CG.seq ?_
  refine E.CG.seq ?_
  refine E.CG.list ?_
  refine E.GL.run rfl rfl rfl (E.Runs.move rfl rfl) ?_
  refine E.GL.run rfl rfl rfl (E.Runs.move rfl rfl) ?_
  refine E.GL.run rfl rfl rfl (E.Runs.len rfl rfl hu26) ?_
  refine E.GL.cmp rfl rfl rfl (fun _ h => (E.Runs.lss rfl rfl rfl h)) (fun h16 => ?_) (fun h16 => ?_)
  · have hlt : i < l.length := by omega
    obtain ⟨s, hs⟩ : ∃ s, l[i]? = some s := ⟨_, List.getElem?_eq_getElem hlt⟩
    obtain ⟨a, ha⟩ : ∃ a, rs[i]? = some a := ⟨_, List.getElem?_eq_getElem (by omega)⟩
    obtain ⟨b, hb⟩ : ∃ b, cs[i]? = some b := ⟨_, List.getElem?_eq_getElem (by omega)⟩
    have hx := items_get l rs cs i s a b hs ha hb
    obtain ⟨t, ht⟩ : ∃ t, (dayT (⟨ra, H.walk, H.early⟩ : Rt) (items l rs cs))[i]? = some t := ⟨_, List.getElem?_eq_getElem (by rw [dayT_length, hxl]; exact hlt)⟩
    have F := run_facts R X hx ht
    obtain ⟨q1, q2, q3⟩ := run_nums R X hx ht
    obtain ⟨ad, eA, S⟩ := slot_at hr hs
    obtain ⟨aa, eR, yr⟩ := int_at hR ha
    obtain ⟨ab, eC, yc⟩ := int_at hC hb
    subst eA eR eC
    have hts : (dayT (⟨ra, H.walk, H.early⟩ : Rt) (items l rs cs)).take (i + 1) = (dayT (⟨ra, H.walk, H.early⟩ : Rt) (items l rs cs)).take i ++ [t] := by rw [List.take_add_one, ht]; rfl
    refine E.GL.done ?_
    refine E.QG.code ?_
    refine E.CG.cond_t rfl ?_
    refine E.CG.skip ?_
    refine E.QG.code ?_
    refine E.CG.seq ?_
    refine E.CG.block ?_
    refine E.CG.seq ?_
    refine E.CG.list ?_
    refine E.GL.run rfl rfl rfl (E.Runs.move rfl rfl) ?_
    refine E.GL.run rfl rfl rfl (E.Runs.move rfl rfl) ?_
    refine E.GL.run rfl rfl rfl (E.Runs.indexAddrA rfl rfl rfl hu26 (by assumption) (by assumption) (by assumption) (by first | rfl | assumption) rfl) ?_
    refine E.GL.run rfl rfl rfl (E.Runs.loads (cs := [.int .i64 s.f0, .int .i64 s.f1, .int .i64 s.f2.f0, .int .i64 s.f2.f1, .int .i64 s.f3, .int .i64 s.f4]) rfl rfl hu36 rfl info36s (E.cellsB L S.cells)) ?_
    refine E.GL.st rfl rfl rfl (E.ST.alloc rfl info36z fun g9 w9 e9 b9 l9 => ?_)
    have h9_L : w.heap.size ≤ g9 := by rw [e9]; exact L.size
    have h9_lq : w5.heap.size ≤ g9 := by rw [e9]; exact lq.size
    have n9_b3 : g3 ≠ g9 := by have := blk_lt b3; omega
    have n9_b5 : g5 ≠ g9 := by have := blk_lt b5; omega
    have n9_R7 : some g9 ≠ (Value.slice A7 i c7).ownBlock := fun h => by have := Kd.R_lt R7 _ h.symm; omega
    replace b3 := blk_below b3 l9
    replace b5 := blk_below b5 l9
    replace R7 := Kd.R_below R7 l9
    replace L := below_step L l9
    replace lq := below_step lq l9
    refine E.GL.store_whole rfl rfl rfl rfl rfl b9 rfl info36s (six_one _ _ _ _ _ _) fun wS5_5 c9 lS5_5 => ?_
    replace b3 := blk_grown b3 lS5_5 (E.nes (by first | assumption | exact Ne.symm (by assumption)))
    replace b5 := blk_grown b5 lS5_5 (E.nes (by first | assumption | exact Ne.symm (by assumption)))
    replace R7 := Kd.R_grown1 R7 rfl lS5_5 (by assumption)
    replace L := E.below_own L h9_L lS5_5
    replace lq := E.below_own lq h9_lq lS5_5
    replace b9 := c9
    clear c9
    refine E.GL.done ?_
    refine E.QG.code ?_
    refine E.CG.seq ?_
    refine E.CG.list ?_
    refine E.GL.st rfl rfl rfl (E.ST.alloc rfl info56z fun g10 w10 e10 b10 l10 => ?_)
    have h10_L : w.heap.size ≤ g10 := by rw [e10]; exact L.size
    have h10_lq : w5.heap.size ≤ g10 := by rw [e10]; exact lq.size
    have n10_b3 : g3 ≠ g10 := by have := blk_lt b3; omega
    have n10_b5 : g5 ≠ g10 := by have := blk_lt b5; omega
    have n10_b9 : g9 ≠ g10 := by have := blk_lt b9; omega
    have n10_R7 : some g10 ≠ (Value.slice A7 i c7).ownBlock := fun h => by have := Kd.R_lt R7 _ h.symm; omega
    replace b3 := blk_below b3 l10
    replace b5 := blk_below b5 l10
    replace b9 := blk_below b9 l10
    replace R7 := Kd.R_below R7 l10
    replace L := below_step L l10
    replace lq := below_step lq l10
    refine E.GL.done ?_
    refine E.QG.code ?_
    refine E.CG.seq ?_
    refine E.CG.list ?_
    refine E.GL.run rfl rfl rfl (E.Runs.fieldAddr rfl rfl hu36 rfl (by assumption) rfl) ?_
    refine E.GL.run rfl rfl rfl (E.Runs.load rfl rfl hu3 (by first | assumption | exact E.blkc (by assumption) rfl | exact pw_cell_below L (by assumption) | exact pw_cell_below lq (by assumption) | exact pw_cell_below L S.c0 | exact pw_cell_below L S.c1 | exact pw_cell_below L S.c2 | exact pw_cell_below L S.c3 | exact pw_cell_below L S.c4 | exact pw_cell_below L S.c5)) ?_
    refine E.GL.run rfl rfl rfl (E.Runs.fieldAddr rfl rfl hu25 rfl (by assumption) rfl) ?_
    refine E.GL.run rfl rfl rfl (E.Runs.load rfl rfl hu3 (by first | assumption | exact E.blkc (by assumption) rfl | exact pw_cell_below L (by assumption) | exact pw_cell_below lq (by assumption) | exact pw_cell_below L S.c0 | exact pw_cell_below L S.c1 | exact pw_cell_below L S.c2 | exact pw_cell_below L S.c3 | exact pw_cell_below L S.c4 | exact pw_cell_below L S.c5)) ?_
    refine E.GL.run rfl rfl rfl (E.Runs.sub rfl rfl rfl (IntWalk.i64_in _ (by omega))) ?_
    refine E.GL.run rfl rfl rfl (E.Runs.max rfl rfl rfl rfl) ?_
    refine E.GL.run rfl rfl rfl (E.Runs.fieldAddr rfl rfl hu56 rfl (by assumption) rfl) ?_
    refine E.GL.sn rfl rfl (E.ST.store rfl (by assumption) (by assumption) rfl rfl b10 rfl (show _ = #[.int .i64 (mx 0 (s.f1 - H.early)), .int .i64 0, .int .i64 0, .int .i64 0, .int .i64 0] from rfl) fun wS7_7 c10 lS7_7 => ?_)
    replace b3 := blk_grown b3 lS7_7 (E.nes (by first | assumption | exact Ne.symm (by assumption)))
    replace b5 := blk_grown b5 lS7_7 (E.nes (by first | assumption | exact Ne.symm (by assumption)))
    replace b9 := blk_grown b9 lS7_7 (E.nes (by first | assumption | exact Ne.symm (by assumption)))
    replace R7 := Kd.R_grown1 R7 rfl lS7_7 (by assumption)
    replace L := E.below_own L h10_L lS7_7
    replace lq := E.below_own lq h10_lq lS7_7
    replace b10 := c10
    clear c10
    refine E.GL.done ?_
    refine E.QG.code ?_
    refine E.CG.seq ?_
    refine E.CG.list ?_
    refine E.GL.run rfl rfl rfl (E.Runs.assign rfl rfl) ?_
    refine E.GL.done ?_
    refine E.QG.code ?_
    refine E.CG.seq ?_
    refine E.CG.seq ?_
    refine E.CG.list ?_
    refine E.GL.run rfl rfl rfl (E.Runs.assign rfl rfl) ?_
    refine E.GL.done ?_
    refine E.QG.code ?_
    refine E.CG.block ?_
    have s10_b3 := b3
    have s10_b5 := b5
    have s10_b9 := b9
    have s10_b10 := b10
    have s10_L := L
    have s10_lq := lq
    refine E.CG.loop (fun (k : Nat) => [(1, .slice (some ad) l.length c1), (3, .pointer (some ⟨g3, 0, none⟩)), (5, .pointer (some ⟨g5, 0, none⟩)), (7, .slice A7 i c7), (8, .int .i64 i), (9, .pointer (some ⟨g9, 0, none⟩)), (10, .pointer (some ⟨g10, 0, none⟩)), (11, .int .i64 (refD H.walk s ((accT (⟨ra, H.walk, H.early⟩ : Rt) (items l rs cs) i).take k) 0)), (12, .int .i64 k)]) (fun k w' => k ≤ i ∧ w'.heap[g10]? = some (.cells #[.int .i64 (refE s ((accT (⟨ra, H.walk, H.early⟩ : Rt) (items l rs cs) i).take k) (mx 0 (s.f1 - H.early))), .int .i64 0, .int .i64 0, .int .i64 0, .int .i64 0] 56 (0, 0)) ∧ wS7_7.grownBy w' (some g10)) (fun k => i - k) 0 (E.subc rfl (E.subc rfl (E.subc rfl (E.subc rfl (E.subc rfl (E.subc rfl (E.subc rfl (E.subc rfl (E.subc rfl (E.subn)))))))))) ⟨Nat.zero_le _, b10, World.grownBy.refl _ _⟩ ?_
    rintro k w10 ⟨hk, b10, gq⟩
    replace b3 := blk_grown b3 gq (E.nes (by first | assumption | exact Ne.symm (by assumption)))
    replace b5 := blk_grown b5 gq (E.nes (by first | assumption | exact Ne.symm (by assumption)))
    replace b9 := blk_grown b9 gq (E.nes (by first | assumption | exact Ne.symm (by assumption)))
    replace R7 := Kd.R_grown1 R7 rfl gq (by assumption)
    replace L := E.below_own L h10_L gq
    replace lq := E.below_own lq h10_lq gq
    refine E.CG.seq ?_
    refine E.CG.seq ?_
    refine E.CG.list ?_
    refine E.GL.run rfl rfl rfl (E.Runs.move rfl rfl) ?_
    refine E.GL.run rfl rfl rfl (E.Runs.move rfl rfl) ?_
    refine E.GL.cmp rfl rfl rfl (fun _ h => (E.Runs.lss rfl rfl rfl h)) (fun h32 => ?_) (fun h32 => ?_)
    · have hki : k < i := by omega
      have hkl : (k : Int) < (l.length : Int) := by omega
      obtain ⟨s', hs'⟩ : ∃ s, l[k]? = some s := ⟨_, List.getElem?_eq_getElem (by omega)⟩
      obtain ⟨a', ha'⟩ : ∃ a, rs[k]? = some a := ⟨_, List.getElem?_eq_getElem (by omega)⟩
      obtain ⟨b', hb'⟩ : ∃ b, cs[k]? = some b := ⟨_, List.getElem?_eq_getElem (by omega)⟩
      have hx' := items_get l rs cs k s' a' b' hs' ha' hb'
      obtain ⟨u, hu⟩ : ∃ t, (dayT (⟨ra, H.walk, H.early⟩ : Rt) (items l rs cs))[k]? = some t := ⟨_, List.getElem?_eq_getElem (by rw [dayT_length, hxl]; omega)⟩
      obtain ⟨p1, p2, p3⟩ := run_nums R X hx' hu
      obtain ⟨ad2, e2, S'⟩ := slot_at hr hs'
      cases e2
      obtain ⟨_, _, C7⟩ := Kd.R_reads' R7
      obtain ⟨ae, eB, T⟩ := tm_at C7 (show ((dayT (⟨ra, H.walk, H.early⟩ : Rt) (items l rs cs)).take i)[k]? = some u by rw [List.getElem?_take, if_pos hki]; exact hu)
      subst eB
      refine E.GL.done ?_
      refine E.QG.code ?_
      refine E.CG.cond_t rfl ?_
      refine E.CG.skip ?_
      refine E.QG.code ?_
      refine E.CG.seq ?_
      refine E.CG.block ?_
      refine E.CG.seq ?_
      refine E.CG.seq ?_
      refine E.CG.quietF (by kernel_rfl) rfl (by kernel_rfl) (by kernel_rfl) ?_
      refine E.GQ.run rfl rfl rfl (E.Runs.move rfl rfl) ?_
      refine E.GQ.run rfl rfl rfl (E.Runs.move rfl rfl) ?_
      refine E.GQ.run rfl rfl rfl (E.Runs.indexAddrA rfl rfl rfl hu26 (by assumption) (by assumption) (by assumption) (by first | rfl | assumption) rfl) ?_
      refine E.GQ.run rfl rfl rfl (E.Runs.fieldAddr rfl rfl hu36 rfl (by assumption) rfl) ?_
      refine E.GQ.run rfl rfl rfl (E.Runs.load rfl rfl hu3 (by first | assumption | exact E.blkc (by assumption) rfl | exact pw_cell_below L (by assumption) | exact pw_cell_below lq (by assumption) | exact E.keeps gq (by assumption) (by first | exact E.nen | exact E.nes (by assumption) | exact E.nes (Ne.symm (by assumption))) | exact pw_cell_below L S.c0 | exact pw_cell_below L S.c1 | exact pw_cell_below L S.c2 | exact pw_cell_below L S.c3 | exact pw_cell_below L S.c4 | exact pw_cell_below L S.c5 | exact pw_cell_below L S'.c0 | exact pw_cell_below L S'.c1 | exact pw_cell_below L S'.c2 | exact pw_cell_below L S'.c3 | exact pw_cell_below L S'.c4 | exact pw_cell_below L S'.c5 | exact T.c0 | exact T.c1 | exact T.c2 | exact T.c3 | exact T.c4)) ?_
      refine E.GQ.run rfl rfl rfl (E.Runs.fieldAddr rfl rfl hu36 rfl (by assumption) rfl) ?_
      refine E.GQ.run rfl rfl rfl (E.Runs.load rfl rfl hu3 (by first | assumption | exact E.blkc (by assumption) rfl | exact pw_cell_below L (by assumption) | exact pw_cell_below lq (by assumption) | exact E.keeps gq (by assumption) (by first | exact E.nen | exact E.nes (by assumption) | exact E.nes (Ne.symm (by assumption))) | exact pw_cell_below L S.c0 | exact pw_cell_below L S.c1 | exact pw_cell_below L S.c2 | exact pw_cell_below L S.c3 | exact pw_cell_below L S.c4 | exact pw_cell_below L S.c5 | exact pw_cell_below L S'.c0 | exact pw_cell_below L S'.c1 | exact pw_cell_below L S'.c2 | exact pw_cell_below L S'.c3 | exact pw_cell_below L S'.c4 | exact pw_cell_below L S'.c5 | exact T.c0 | exact T.c1 | exact T.c2 | exact T.c3 | exact T.c4)) ?_
      refine E.GQ.cmp rfl rfl rfl (fun _ h => (E.Runs.eql rfl rfl rfl h)) (fun h42 => ?_) (fun h42 => ?_)
      · have qE := (refE_take s (mx 0 (s.f1 - H.early)) hki hx' hu).trans (if_pos h42)
        refine E.GQ.doneB fun v12 lD => ?_
        replace b3 := blk_below b3 lD
        replace b5 := blk_below b5 lD
        replace b9 := blk_below b9 lD
        replace b10 := blk_below b10 lD
        replace R7 := Kd.R_below R7 lD
        replace T := T.below lD
        replace L := below_step L lD
        replace lq := below_step lq lD
        replace gq := gq.trans (E.gbB lD)
        clear lD
        refine E.QG.code ?_
        refine E.CG.cond_t rfl ?_
        refine E.CG.heldH (some g10) (by kernel_rfl) fun v13 lD hh => ?_
        replace b3 := blk_below b3 lD
        replace b5 := blk_below b5 lD
        replace b9 := blk_below b9 lD
        replace b10 := blk_below b10 lD
        replace R7 := Kd.R_below R7 lD
        replace T := T.below lD
        replace L := below_step L lD
        replace lq := below_step lq lD
        replace gq := gq.trans (E.gbB lD)
        clear lD
        have s_b3 := b3
        have s_b5 := b5
        have s_b9 := b9
        have s_b10 := b10
        have s_L := L
        have s_lq := lq
        have s_gq := gq
        have s_T := T
        refine E.GH.take (i := 0) rfl (by kernel_rfl) (by kernel_rfl) (by kernel_rfl) (by intro c a d v w h; cases d <;> exact h) rfl rfl rfl (fun w' hS => (E.Runs.fieldAddr rfl rfl hu56 rfl (by assumption) rfl)) ?_
        refine E.GH.take (i := 2) rfl (by kernel_rfl) (by kernel_rfl) (by kernel_rfl) (by intro c a d v w h; cases d <;> exact h) rfl rfl rfl (fun w' hS => (E.Runs.move rfl rfl)) ?_
        refine E.GH.take (i := 3) rfl (by kernel_rfl) (by kernel_rfl) (by kernel_rfl) (by intro c a d v w h; cases d <;> exact h) rfl rfl rfl (fun w' hS => (E.Runs.move rfl rfl)) ?_
        refine E.GH.take (i := 4) rfl (by kernel_rfl) (by kernel_rfl) (by kernel_rfl) (by intro c a d v w h; cases d <;> exact h) rfl rfl rfl (fun w' hS => (E.Runs.indexAddrA rfl rfl rfl hu53 (by assumption) (by assumption) (by assumption) (by first | rfl | assumption) rfl)) ?_
        refine E.GH.take (i := 5) rfl (by kernel_rfl) (by kernel_rfl) (by kernel_rfl) (by intro c a d v w h; cases d <;> exact h) rfl rfl rfl (fun w' hS => (E.Runs.fieldAddr rfl rfl hu56 rfl (by assumption) rfl)) ?_
        refine E.GH.take (i := 6) rfl (by kernel_rfl) (by kernel_rfl) (by kernel_rfl) (by intro c a d v w h; cases d <;> exact h) rfl rfl rfl (fun w' hS => (E.Runs.load rfl rfl hu3 (by first | exact E.keeps hS (E.blkc (by assumption) rfl) (by first | exact E.nen | exact E.nes (by assumption) | exact E.nes (Ne.symm (by assumption))) | exact pw_cell_below (E.below_own s_L h10_L hS) (by assumption) | exact pw_cell_below (E.below_own s_L h10_L hS) S.c0 | exact pw_cell_below (E.below_own s_L h10_L hS) S.c1 | exact pw_cell_below (E.below_own s_L h10_L hS) S.c2 | exact pw_cell_below (E.below_own s_L h10_L hS) S.c3 | exact pw_cell_below (E.below_own s_L h10_L hS) S.c4 | exact pw_cell_below (E.below_own s_L h10_L hS) S.c5 | exact pw_cell_below (E.below_own s_L h10_L hS) S'.c0 | exact pw_cell_below (E.below_own s_L h10_L hS) S'.c1 | exact pw_cell_below (E.below_own s_L h10_L hS) S'.c2 | exact pw_cell_below (E.below_own s_L h10_L hS) S'.c3 | exact pw_cell_below (E.below_own s_L h10_L hS) S'.c4 | exact pw_cell_below (E.below_own s_L h10_L hS) S'.c5 | exact pw_cell_below (E.below_own s_lq h10_lq hS) (by assumption) | exact (s_T.grown hS (fun e => n10_R7 e.symm)).c0 | exact (s_T.grown hS (fun e => n10_R7 e.symm)).c1 | exact (s_T.grown hS (fun e => n10_R7 e.symm)).c2 | exact (s_T.grown hS (fun e => n10_R7 e.symm)).c3 | exact (s_T.grown hS (fun e => n10_R7 e.symm)).c4))) ?_
        refine E.GH.one (i := 1) (by kernel_rfl) rfl ?_
        refine E.GO.st rfl rfl rfl (E.ST.reads (E.Runs.load rfl rfl hu3 (by first | assumption | exact E.blkc (by assumption) rfl | exact pw_cell_below L (by assumption) | exact pw_cell_below lq (by assumption) | exact E.keeps gq (by assumption) (by first | exact E.nen | exact E.nes (by assumption) | exact E.nes (Ne.symm (by assumption))) | exact pw_cell_below L S.c0 | exact pw_cell_below L S.c1 | exact pw_cell_below L S.c2 | exact pw_cell_below L S.c3 | exact pw_cell_below L S.c4 | exact pw_cell_below L S.c5 | exact pw_cell_below L S'.c0 | exact pw_cell_below L S'.c1 | exact pw_cell_below L S'.c2 | exact pw_cell_below L S'.c3 | exact pw_cell_below L S'.c4 | exact pw_cell_below L S'.c5 | exact T.c0 | exact T.c1 | exact T.c2 | exact T.c3 | exact T.c4)) ⟨hh, ?_⟩)
        refine E.GH.take (i := 7) rfl (by kernel_rfl) (by kernel_rfl) (by kernel_rfl) (by intro c a d v w h; cases d <;> exact h) rfl rfl rfl (fun w' hS => (E.Runs.max rfl rfl rfl rfl)) ?_
        refine E.GH.take (i := 8) rfl (by kernel_rfl) (by kernel_rfl) (by kernel_rfl) (by intro c a d v w h; cases d <;> exact h) rfl rfl rfl (fun w' hS => (E.Runs.fieldAddr rfl rfl hu56 rfl (by assumption) rfl)) ?_
        refine E.GH.one (i := 9) (by kernel_rfl) rfl ?_
        refine E.GO.sn rfl rfl (E.ST.store rfl (by assumption) (by assumption) rfl rfl b10 rfl (show _ = #[.int .i64 (mx (refE s ((accT (⟨ra, H.walk, H.early⟩ : Rt) (items l rs cs) i).take k) (mx 0 (s.f1 - H.early))) u.ready), .int .i64 0, .int .i64 0, .int .i64 0, .int .i64 0] from rfl) fun wS13_9 c10 lS13_9 => ⟨hh.trans lS13_9, ?_⟩)
        replace hh := hh.trans lS13_9
        replace b3 := blk_grown b3 lS13_9 (E.nes (by first | assumption | exact Ne.symm (by assumption)))
        replace b5 := blk_grown b5 lS13_9 (E.nes (by first | assumption | exact Ne.symm (by assumption)))
        replace b9 := blk_grown b9 lS13_9 (E.nes (by first | assumption | exact Ne.symm (by assumption)))
        replace R7 := Kd.R_grown1 R7 rfl lS13_9 (by assumption)
        replace T := T.grown lS13_9 (fun e => n10_R7 e.symm)
        replace L := E.below_own L h10_L lS13_9
        replace lq := E.below_own lq h10_lq lS13_9
        replace gq := gq.trans lS13_9
        replace b10 := c10
        clear c10
        refine E.GH.done (by kernel_rfl) ?_
        refine E.QG.code ?_
        refine E.CG.seq ?_
        refine E.CG.quietF (by kernel_rfl) rfl (by kernel_rfl) (by kernel_rfl) ?_
        refine E.GQ.run rfl rfl rfl (E.Runs.move rfl rfl) ?_
        refine E.GQ.run rfl rfl rfl (E.Runs.move rfl rfl) ?_
        refine E.GQ.run rfl rfl rfl (E.Runs.indexAddrA rfl rfl rfl hu26 (by assumption) (by assumption) (by assumption) (by first | rfl | assumption) rfl) ?_
        refine E.GQ.run rfl rfl rfl (E.Runs.fieldAddr rfl rfl hu36 rfl (by assumption) rfl) ?_
        refine E.GQ.run rfl rfl rfl (E.Runs.load rfl rfl hu3 (by first | assumption | exact E.blkc (by assumption) rfl | exact pw_cell_below L (by assumption) | exact pw_cell_below lq (by assumption) | exact E.keeps gq (by assumption) (by first | exact E.nen | exact E.nes (by assumption) | exact E.nes (Ne.symm (by assumption))) | exact pw_cell_below L S.c0 | exact pw_cell_below L S.c1 | exact pw_cell_below L S.c2 | exact pw_cell_below L S.c3 | exact pw_cell_below L S.c4 | exact pw_cell_below L S.c5 | exact pw_cell_below L S'.c0 | exact pw_cell_below L S'.c1 | exact pw_cell_below L S'.c2 | exact pw_cell_below L S'.c3 | exact pw_cell_below L S'.c4 | exact pw_cell_below L S'.c5 | exact T.c0 | exact T.c1 | exact T.c2 | exact T.c3 | exact T.c4)) ?_
        refine E.GQ.run rfl rfl rfl (E.Runs.fieldAddr rfl rfl hu36 rfl (by assumption) rfl) ?_
        refine E.GQ.run rfl rfl rfl (E.Runs.load rfl rfl hu3 (by first | assumption | exact E.blkc (by assumption) rfl | exact pw_cell_below L (by assumption) | exact pw_cell_below lq (by assumption) | exact E.keeps gq (by assumption) (by first | exact E.nen | exact E.nes (by assumption) | exact E.nes (Ne.symm (by assumption))) | exact pw_cell_below L S.c0 | exact pw_cell_below L S.c1 | exact pw_cell_below L S.c2 | exact pw_cell_below L S.c3 | exact pw_cell_below L S.c4 | exact pw_cell_below L S.c5 | exact pw_cell_below L S'.c0 | exact pw_cell_below L S'.c1 | exact pw_cell_below L S'.c2 | exact pw_cell_below L S'.c3 | exact pw_cell_below L S'.c4 | exact pw_cell_below L S'.c5 | exact T.c0 | exact T.c1 | exact T.c2 | exact T.c3 | exact T.c4)) ?_
        refine E.GQ.cmp rfl rfl rfl (fun _ h => (E.Runs.eql rfl rfl rfl h)) (fun h59 => ?_) (fun h59 => ?_)
        · have qD := (refD_take H.walk s 0 hki hx' hu).trans (if_pos h59)
          refine E.GQ.doneB fun v14 lD => ?_
          replace b3 := blk_below b3 lD
          replace b5 := blk_below b5 lD
          replace b9 := blk_below b9 lD
          replace b10 := blk_below b10 lD
          replace R7 := Kd.R_below R7 lD
          replace T := T.below lD
          replace L := below_step L lD
          replace lq := below_step lq lD
          replace gq := gq.trans (E.gbB lD)
          clear lD
          refine E.QG.code ?_
          refine E.CG.cond_t rfl ?_
          refine E.CG.quietF (by kernel_rfl) rfl (by kernel_rfl) (by kernel_rfl) ?_
          refine E.GQ.run rfl rfl rfl (E.Runs.move rfl rfl) ?_
          refine E.GQ.run rfl rfl rfl (E.Runs.move rfl rfl) ?_
          refine E.GQ.run rfl rfl rfl (E.Runs.indexAddrA rfl rfl rfl hu53 (by assumption) (by assumption) (by assumption) (by first | rfl | assumption) rfl) ?_
          refine E.GQ.run rfl rfl rfl (E.Runs.fieldAddr rfl rfl hu56 rfl (by assumption) rfl) ?_
          refine E.GQ.run rfl rfl rfl (E.Runs.load rfl rfl hu3 (by first | assumption | exact E.blkc (by assumption) rfl | exact pw_cell_below L (by assumption) | exact pw_cell_below lq (by assumption) | exact E.keeps gq (by assumption) (by first | exact E.nen | exact E.nes (by assumption) | exact E.nes (Ne.symm (by assumption))) | exact pw_cell_below L S.c0 | exact pw_cell_below L S.c1 | exact pw_cell_below L S.c2 | exact pw_cell_below L S.c3 | exact pw_cell_below L S.c4 | exact pw_cell_below L S.c5 | exact pw_cell_below L S'.c0 | exact pw_cell_below L S'.c1 | exact pw_cell_below L S'.c2 | exact pw_cell_below L S'.c3 | exact pw_cell_below L S'.c4 | exact pw_cell_below L S'.c5 | exact T.c0 | exact T.c1 | exact T.c2 | exact T.c3 | exact T.c4)) ?_
          refine E.GQ.run rfl rfl rfl (E.Runs.fieldAddr rfl rfl hu25 rfl (by assumption) rfl) ?_
          refine E.GQ.run rfl rfl rfl (E.Runs.load rfl rfl hu3 (by first | assumption | exact E.blkc (by assumption) rfl | exact pw_cell_below L (by assumption) | exact pw_cell_below lq (by assumption) | exact E.keeps gq (by assumption) (by first | exact E.nen | exact E.nes (by assumption) | exact E.nes (Ne.symm (by assumption))) | exact pw_cell_below L S.c0 | exact pw_cell_below L S.c1 | exact pw_cell_below L S.c2 | exact pw_cell_below L S.c3 | exact pw_cell_below L S.c4 | exact pw_cell_below L S.c5 | exact pw_cell_below L S'.c0 | exact pw_cell_below L S'.c1 | exact pw_cell_below L S'.c2 | exact pw_cell_below L S'.c3 | exact pw_cell_below L S'.c4 | exact pw_cell_below L S'.c5 | exact T.c0 | exact T.c1 | exact T.c2 | exact T.c3 | exact T.c4)) ?_
          refine E.GQ.run rfl rfl rfl (E.Runs.add rfl rfl rfl (IntWalk.i64_in _ (by omega))) ?_
          refine E.GQ.run rfl rfl rfl (E.Runs.assign rfl rfl) ?_
          refine E.GQ.doneB fun v15 lD => ?_
          replace b3 := blk_below b3 lD
          replace b5 := blk_below b5 lD
          replace b9 := blk_below b9 lD
          replace b10 := blk_below b10 lD
          replace R7 := Kd.R_below R7 lD
          replace T := T.below lD
          replace L := below_step L lD
          replace lq := below_step lq lD
          replace gq := gq.trans (E.gbB lD)
          clear lD
          refine E.QG.block_normal ?_
          refine E.QG.code ?_
          refine E.CG.list ?_
          refine E.GL.run rfl rfl rfl (E.Runs.move rfl rfl) ?_
          refine E.GL.run rfl rfl rfl (E.Runs.add rfl rfl rfl (IntWalk.i64_in _ (by omega))) ?_
          refine E.GL.run rfl rfl rfl (E.Runs.assign rfl rfl) ?_
          refine E.GL.done ?_
          exact E.QG.round (k + 1) (E.subc rfl (E.subc rfl (E.subc rfl (E.subc rfl (E.subc rfl (E.subc rfl (E.subc rfl (E.subc (by rw [qD]; rfl) (E.subc rfl E.subn))))))))) ⟨by omega, by rw [qE]; exact b10, gq⟩ (by omega)
        · have qD := (refD_take H.walk s 0 hki hx' hu).trans (if_neg h59)
          refine E.GQ.doneB fun v14 lD => ?_
          replace b3 := blk_below b3 lD
          replace b5 := blk_below b5 lD
          replace b9 := blk_below b9 lD
          replace b10 := blk_below b10 lD
          replace R7 := Kd.R_below R7 lD
          replace T := T.below lD
          replace L := below_step L lD
          replace lq := below_step lq lD
          replace gq := gq.trans (E.gbB lD)
          clear lD
          refine E.QG.code ?_
          refine E.CG.cond_f rfl ?_
          refine E.CG.skip ?_
          refine E.QG.block_normal ?_
          refine E.QG.code ?_
          refine E.CG.list ?_
          refine E.GL.run rfl rfl rfl (E.Runs.move rfl rfl) ?_
          refine E.GL.run rfl rfl rfl (E.Runs.add rfl rfl rfl (IntWalk.i64_in _ (by omega))) ?_
          refine E.GL.run rfl rfl rfl (E.Runs.assign rfl rfl) ?_
          refine E.GL.done ?_
          exact E.QG.round (k + 1) (E.subc rfl (E.subc rfl (E.subc rfl (E.subc rfl (E.subc rfl (E.subc rfl (E.subc rfl (E.subc (by rw [qD]; rfl) (E.subc rfl E.subn))))))))) ⟨by omega, by rw [qE]; exact b10, gq⟩ (by omega)
      · have qE := (refE_take s (mx 0 (s.f1 - H.early)) hki hx' hu).trans (if_neg h42)
        refine E.GQ.doneB fun v12 lD => ?_
        replace b3 := blk_below b3 lD
        replace b5 := blk_below b5 lD
        replace b9 := blk_below b9 lD
        replace b10 := blk_below b10 lD
        replace R7 := Kd.R_below R7 lD
        replace T := T.below lD
        replace L := below_step L lD
        replace lq := below_step lq lD
        replace gq := gq.trans (E.gbB lD)
        clear lD
        refine E.QG.code ?_
        refine E.CG.cond_f rfl ?_
        refine E.CG.skip ?_
        refine E.QG.code ?_
        refine E.CG.seq ?_
        refine E.CG.quietF (by kernel_rfl) rfl (by kernel_rfl) (by kernel_rfl) ?_
        refine E.GQ.run rfl rfl rfl (E.Runs.move rfl rfl) ?_
        refine E.GQ.run rfl rfl rfl (E.Runs.move rfl rfl) ?_
        refine E.GQ.run rfl rfl rfl (E.Runs.indexAddrA rfl rfl rfl hu26 (by assumption) (by assumption) (by assumption) (by first | rfl | assumption) rfl) ?_
        refine E.GQ.run rfl rfl rfl (E.Runs.fieldAddr rfl rfl hu36 rfl (by assumption) rfl) ?_
        refine E.GQ.run rfl rfl rfl (E.Runs.load rfl rfl hu3 (by first | assumption | exact E.blkc (by assumption) rfl | exact pw_cell_below L (by assumption) | exact pw_cell_below lq (by assumption) | exact E.keeps gq (by assumption) (by first | exact E.nen | exact E.nes (by assumption) | exact E.nes (Ne.symm (by assumption))) | exact pw_cell_below L S.c0 | exact pw_cell_below L S.c1 | exact pw_cell_below L S.c2 | exact pw_cell_below L S.c3 | exact pw_cell_below L S.c4 | exact pw_cell_below L S.c5 | exact pw_cell_below L S'.c0 | exact pw_cell_below L S'.c1 | exact pw_cell_below L S'.c2 | exact pw_cell_below L S'.c3 | exact pw_cell_below L S'.c4 | exact pw_cell_below L S'.c5 | exact T.c0 | exact T.c1 | exact T.c2 | exact T.c3 | exact T.c4)) ?_
        refine E.GQ.run rfl rfl rfl (E.Runs.fieldAddr rfl rfl hu36 rfl (by assumption) rfl) ?_
        refine E.GQ.run rfl rfl rfl (E.Runs.load rfl rfl hu3 (by first | assumption | exact E.blkc (by assumption) rfl | exact pw_cell_below L (by assumption) | exact pw_cell_below lq (by assumption) | exact E.keeps gq (by assumption) (by first | exact E.nen | exact E.nes (by assumption) | exact E.nes (Ne.symm (by assumption))) | exact pw_cell_below L S.c0 | exact pw_cell_below L S.c1 | exact pw_cell_below L S.c2 | exact pw_cell_below L S.c3 | exact pw_cell_below L S.c4 | exact pw_cell_below L S.c5 | exact pw_cell_below L S'.c0 | exact pw_cell_below L S'.c1 | exact pw_cell_below L S'.c2 | exact pw_cell_below L S'.c3 | exact pw_cell_below L S'.c4 | exact pw_cell_below L S'.c5 | exact T.c0 | exact T.c1 | exact T.c2 | exact T.c3 | exact T.c4)) ?_
        refine E.GQ.cmp rfl rfl rfl (fun _ h => (E.Runs.eql rfl rfl rfl h)) (fun h59 => ?_) (fun h59 => ?_)
        · have qD := (refD_take H.walk s 0 hki hx' hu).trans (if_pos h59)
          refine E.GQ.doneB fun v14 lD => ?_
          replace b3 := blk_below b3 lD
          replace b5 := blk_below b5 lD
          replace b9 := blk_below b9 lD
          replace b10 := blk_below b10 lD
          replace R7 := Kd.R_below R7 lD
          replace T := T.below lD
          replace L := below_step L lD
          replace lq := below_step lq lD
          replace gq := gq.trans (E.gbB lD)
          clear lD
          refine E.QG.code ?_
          refine E.CG.cond_t rfl ?_
          refine E.CG.quietF (by kernel_rfl) rfl (by kernel_rfl) (by kernel_rfl) ?_
          refine E.GQ.run rfl rfl rfl (E.Runs.move rfl rfl) ?_
          refine E.GQ.run rfl rfl rfl (E.Runs.move rfl rfl) ?_
          refine E.GQ.run rfl rfl rfl (E.Runs.indexAddrA rfl rfl rfl hu53 (by assumption) (by assumption) (by assumption) (by first | rfl | assumption) rfl) ?_
          refine E.GQ.run rfl rfl rfl (E.Runs.fieldAddr rfl rfl hu56 rfl (by assumption) rfl) ?_
          refine E.GQ.run rfl rfl rfl (E.Runs.load rfl rfl hu3 (by first | assumption | exact E.blkc (by assumption) rfl | exact pw_cell_below L (by assumption) | exact pw_cell_below lq (by assumption) | exact E.keeps gq (by assumption) (by first | exact E.nen | exact E.nes (by assumption) | exact E.nes (Ne.symm (by assumption))) | exact pw_cell_below L S.c0 | exact pw_cell_below L S.c1 | exact pw_cell_below L S.c2 | exact pw_cell_below L S.c3 | exact pw_cell_below L S.c4 | exact pw_cell_below L S.c5 | exact pw_cell_below L S'.c0 | exact pw_cell_below L S'.c1 | exact pw_cell_below L S'.c2 | exact pw_cell_below L S'.c3 | exact pw_cell_below L S'.c4 | exact pw_cell_below L S'.c5 | exact T.c0 | exact T.c1 | exact T.c2 | exact T.c3 | exact T.c4)) ?_
          refine E.GQ.run rfl rfl rfl (E.Runs.fieldAddr rfl rfl hu25 rfl (by assumption) rfl) ?_
          refine E.GQ.run rfl rfl rfl (E.Runs.load rfl rfl hu3 (by first | assumption | exact E.blkc (by assumption) rfl | exact pw_cell_below L (by assumption) | exact pw_cell_below lq (by assumption) | exact E.keeps gq (by assumption) (by first | exact E.nen | exact E.nes (by assumption) | exact E.nes (Ne.symm (by assumption))) | exact pw_cell_below L S.c0 | exact pw_cell_below L S.c1 | exact pw_cell_below L S.c2 | exact pw_cell_below L S.c3 | exact pw_cell_below L S.c4 | exact pw_cell_below L S.c5 | exact pw_cell_below L S'.c0 | exact pw_cell_below L S'.c1 | exact pw_cell_below L S'.c2 | exact pw_cell_below L S'.c3 | exact pw_cell_below L S'.c4 | exact pw_cell_below L S'.c5 | exact T.c0 | exact T.c1 | exact T.c2 | exact T.c3 | exact T.c4)) ?_
          refine E.GQ.run rfl rfl rfl (E.Runs.add rfl rfl rfl (IntWalk.i64_in _ (by omega))) ?_
          refine E.GQ.run rfl rfl rfl (E.Runs.assign rfl rfl) ?_
          refine E.GQ.doneB fun v15 lD => ?_
          replace b3 := blk_below b3 lD
          replace b5 := blk_below b5 lD
          replace b9 := blk_below b9 lD
          replace b10 := blk_below b10 lD
          replace R7 := Kd.R_below R7 lD
          replace T := T.below lD
          replace L := below_step L lD
          replace lq := below_step lq lD
          replace gq := gq.trans (E.gbB lD)
          clear lD
          refine E.QG.block_normal ?_
          refine E.QG.code ?_
          refine E.CG.list ?_
          refine E.GL.run rfl rfl rfl (E.Runs.move rfl rfl) ?_
          refine E.GL.run rfl rfl rfl (E.Runs.add rfl rfl rfl (IntWalk.i64_in _ (by omega))) ?_
          refine E.GL.run rfl rfl rfl (E.Runs.assign rfl rfl) ?_
          refine E.GL.done ?_
          exact E.QG.round (k + 1) (E.subc rfl (E.subc rfl (E.subc rfl (E.subc rfl (E.subc rfl (E.subc rfl (E.subc rfl (E.subc (by rw [qD]; rfl) (E.subc rfl E.subn))))))))) ⟨by omega, by rw [qE]; exact b10, gq⟩ (by omega)
        · have qD := (refD_take H.walk s 0 hki hx' hu).trans (if_neg h59)
          refine E.GQ.doneB fun v14 lD => ?_
          replace b3 := blk_below b3 lD
          replace b5 := blk_below b5 lD
          replace b9 := blk_below b9 lD
          replace b10 := blk_below b10 lD
          replace R7 := Kd.R_below R7 lD
          replace T := T.below lD
          replace L := below_step L lD
          replace lq := below_step lq lD
          replace gq := gq.trans (E.gbB lD)
          clear lD
          refine E.QG.code ?_
          refine E.CG.cond_f rfl ?_
          refine E.CG.skip ?_
          refine E.QG.block_normal ?_
          refine E.QG.code ?_
          refine E.CG.list ?_
          refine E.GL.run rfl rfl rfl (E.Runs.move rfl rfl) ?_
          refine E.GL.run rfl rfl rfl (E.Runs.add rfl rfl rfl (IntWalk.i64_in _ (by omega))) ?_
          refine E.GL.run rfl rfl rfl (E.Runs.assign rfl rfl) ?_
          refine E.GL.done ?_
          exact E.QG.round (k + 1) (E.subc rfl (E.subc rfl (E.subc rfl (E.subc rfl (E.subc rfl (E.subc rfl (E.subc rfl (E.subc (by rw [qD]; rfl) (E.subc rfl E.subn))))))))) ⟨by omega, by rw [qE]; exact b10, gq⟩ (by omega)
    · have hacc : (accT (⟨ra, H.walk, H.early⟩ : Rt) (items l rs cs) i).take k = accT (⟨ra, H.walk, H.early⟩ : Rt) (items l rs cs) i := List.take_of_length_le (by rw [accT_length _ _ _ (by omega)]; omega)
      have f75 : IntKind.i64.wrap (t.enter + passesT ra s.f3) = t.seated := (congrArg _ F.sd).trans (IntWalk.i64_in _ (by omega))
      have f96 : IntKind.i64.wrap (t.start + a + passesT ra s.f3) = t.empty := (congrArg _ F.em).trans (IntWalk.i64_in _ (by omega))
      have f107 : IntKind.i64.wrap (mx t.empty (refD H.walk s ((accT (⟨ra, H.walk, H.early⟩ : Rt) (items l rs cs) i).take k) 0) + b) = t.ready := by rw [hacc]; exact (congrArg _ F.d).trans (IntWalk.i64_in _ (by omega))
      replace b10 : w10.heap[g10]? = some (.cells #[.int .i64 t.enter, .int .i64 0, .int .i64 0, .int .i64 0, .int .i64 0] 56 (0, 0)) := by rw [hacc] at b10; exact (congrArg (fun x => some (Obj.cells #[Value.int .i64 x, .int .i64 0, .int .i64 0, .int .i64 0, .int .i64 0] 56 (0, 0))) F.e) ▸ b10
      refine E.GL.done ?_
      refine E.QG.code ?_
      refine E.CG.cond_f rfl ?_
      refine E.CG.exit ?_
      refine E.QG.pass_exit ?_
      refine E.QG.pass_exit ?_
      refine E.QG.block_here ?_
      refine E.QG.code ?_
      refine E.CG.seq ?_
      refine E.CG.heldK (some g10) ⟨g10, 0, none⟩ (by kernel_rfl) fun v16 lD hh => ?_
      replace b3 := blk_below b3 lD
      replace b5 := blk_below b5 lD
      replace b9 := blk_below b9 lD
      replace b10 := blk_below b10 lD
      replace R7 := Kd.R_below R7 lD
      replace L := below_step L lD
      replace lq := below_step lq lD
      clear lD
      have s_b3 := b3
      have s_b5 := b5
      have s_b9 := b9
      have s_b10 := b10
      have s_L := L
      have s_lq := lq
      refine E.GH.take (i := 0) rfl (by kernel_rfl) (by kernel_rfl) (by kernel_rfl) (by intro c a d v w h; cases d <;> exact h) rfl rfl rfl (fun w' hS => (E.Runs.fieldAddr rfl rfl hu56 rfl (by assumption) rfl)) ?_
      refine E.GH.take (i := 1) rfl (by kernel_rfl) (by kernel_rfl) (by kernel_rfl) (by intro c a d v w h; cases d <;> exact h) rfl rfl rfl (fun w' hS => (E.Runs.load rfl rfl hu3 (by first | exact hS.2.trans (E.blkc (by assumption) rfl) | exact E.keeps hS.1 (E.blkc (by assumption) rfl) (by first | exact E.nen | exact E.nes (by assumption) | exact E.nes (Ne.symm (by assumption))) | exact pw_cell_below (E.below_own s_L h10_L hS.1) (by assumption) | exact pw_cell_below (E.below_own s_L h10_L hS.1) S.c0 | exact pw_cell_below (E.below_own s_L h10_L hS.1) S.c1 | exact pw_cell_below (E.below_own s_L h10_L hS.1) S.c2 | exact pw_cell_below (E.below_own s_L h10_L hS.1) S.c3 | exact pw_cell_below (E.below_own s_L h10_L hS.1) S.c4 | exact pw_cell_below (E.below_own s_L h10_L hS.1) S.c5 | exact pw_cell_below (E.below_own s_lq h10_lq hS.1) (by assumption)))) ?_
      refine E.GH.take (i := 2) rfl (by kernel_rfl) (by kernel_rfl) (by kernel_rfl) (by intro c a d v w h; cases d <;> exact h) rfl rfl rfl (fun w' hS => (E.Runs.fieldAddr rfl rfl hu36 rfl (by assumption) rfl)) ?_
      refine E.GH.take (i := 3) rfl (by kernel_rfl) (by kernel_rfl) (by kernel_rfl) (by intro c a d v w h; cases d <;> exact h) rfl rfl rfl (fun w' hS => (E.Runs.load rfl rfl hu3 (by first | exact hS.2.trans (E.blkc (by assumption) rfl) | exact E.keeps hS.1 (E.blkc (by assumption) rfl) (by first | exact E.nen | exact E.nes (by assumption) | exact E.nes (Ne.symm (by assumption))) | exact pw_cell_below (E.below_own s_L h10_L hS.1) (by assumption) | exact pw_cell_below (E.below_own s_L h10_L hS.1) S.c0 | exact pw_cell_below (E.below_own s_L h10_L hS.1) S.c1 | exact pw_cell_below (E.below_own s_L h10_L hS.1) S.c2 | exact pw_cell_below (E.below_own s_L h10_L hS.1) S.c3 | exact pw_cell_below (E.below_own s_L h10_L hS.1) S.c4 | exact pw_cell_below (E.below_own s_L h10_L hS.1) S.c5 | exact pw_cell_below (E.below_own s_lq h10_lq hS.1) (by assumption)))) ?_
      refine E.GH.take (i := 4) rfl (by kernel_rfl) (by kernel_rfl) (by kernel_rfl) (by intro c a d v w h; cases d <;> exact h) rfl rfl rfl (fun w' hS => (E.Runs.fieldAddr rfl rfl hu49 rfl (by assumption) rfl)) ?_
      refine E.GH.take (i := 5) rfl (by kernel_rfl) (by kernel_rfl) (by kernel_rfl) (by intro c a d v w h; cases d <;> exact h) rfl rfl rfl (fun w' hS => (E.Runs.load rfl rfl hu3 (by first | exact hS.2.trans (E.blkc (by assumption) rfl) | exact E.keeps hS.1 (E.blkc (by assumption) rfl) (by first | exact E.nen | exact E.nes (by assumption) | exact E.nes (Ne.symm (by assumption))) | exact pw_cell_below (E.below_own s_L h10_L hS.1) (by assumption) | exact pw_cell_below (E.below_own s_L h10_L hS.1) S.c0 | exact pw_cell_below (E.below_own s_L h10_L hS.1) S.c1 | exact pw_cell_below (E.below_own s_L h10_L hS.1) S.c2 | exact pw_cell_below (E.below_own s_L h10_L hS.1) S.c3 | exact pw_cell_below (E.below_own s_L h10_L hS.1) S.c4 | exact pw_cell_below (E.below_own s_L h10_L hS.1) S.c5 | exact pw_cell_below (E.below_own s_lq h10_lq hS.1) (by assumption)))) ?_
      refine E.GH.one (i := 6) (by kernel_rfl) rfl ?_
      refine E.GO.st rfl rfl rfl (E.ST.call rfl ent51 (E.evc rfl (E.evc rfl E.evn)) ((passes_row ra s.f3 _ (by omega) (by omega) (by omega) (by omega)).mono ?_))
      rintro e w74 ⟨rfl, l74⟩
      refine ⟨_, rfl, E.kpB hh b10 l74, ?_⟩
      replace hh := E.kpB hh b10 l74
      replace b3 := blk_below b3 l74
      replace b5 := blk_below b5 l74
      replace b9 := blk_below b9 l74
      replace b10 := blk_below b10 l74
      replace R7 := Kd.R_below R7 l74
      replace L := below_step L l74
      replace lq := below_step lq l74
      refine E.GH.take (i := 7) rfl (by kernel_rfl) (by kernel_rfl) (by kernel_rfl) (by intro c a d v w h; cases d <;> exact h) rfl rfl rfl (fun w' hS => (E.Runs.add rfl rfl rfl f75)) ?_
      refine E.GH.take (i := 8) rfl (by kernel_rfl) (by kernel_rfl) (by kernel_rfl) (by intro c a d v w h; cases d <;> exact h) rfl rfl rfl (fun w' hS => (E.Runs.fieldAddr rfl rfl hu56 rfl (by assumption) rfl)) ?_
      refine E.GH.one (i := 9) (by kernel_rfl) rfl ?_
      refine E.GO.sn rfl rfl (E.ST.store rfl (by assumption) (by assumption) rfl rfl b10 rfl (show _ = #[.int .i64 t.enter, .int .i64 t.seated, .int .i64 0, .int .i64 0, .int .i64 0] from rfl) fun wS16_9 c10 lS16_9 => ⟨E.kpS hh lS16_9 b10 c10 rfl, ?_⟩)
      replace hh := E.kpS hh lS16_9 b10 c10 rfl
      replace b3 := blk_grown b3 lS16_9 (E.nes (by first | assumption | exact Ne.symm (by assumption)))
      replace b5 := blk_grown b5 lS16_9 (E.nes (by first | assumption | exact Ne.symm (by assumption)))
      replace b9 := blk_grown b9 lS16_9 (E.nes (by first | assumption | exact Ne.symm (by assumption)))
      replace R7 := Kd.R_grown1 R7 rfl lS16_9 (by assumption)
      replace L := E.below_own L h10_L lS16_9
      replace lq := E.below_own lq h10_lq lS16_9
      replace b10 := c10
      clear c10
      refine E.GH.done (by kernel_rfl) ?_
      refine E.QG.code ?_
      refine E.CG.seq ?_
      refine E.CG.list ?_
      refine E.GL.run rfl rfl rfl (E.Runs.fieldAddr rfl rfl hu36 rfl (by assumption) rfl) ?_
      refine E.GL.run rfl rfl rfl (E.Runs.load rfl rfl hu3 (by first | assumption | exact E.blkc (by assumption) rfl | exact pw_cell_below L (by assumption) | exact pw_cell_below lq (by assumption) | exact pw_cell_below L S.c0 | exact pw_cell_below L S.c1 | exact pw_cell_below L S.c2 | exact pw_cell_below L S.c3 | exact pw_cell_below L S.c4 | exact pw_cell_below L S.c5)) ?_
      refine E.GL.run rfl rfl rfl (E.Runs.fieldAddr rfl rfl hu56 rfl (by assumption) rfl) ?_
      refine E.GL.run rfl rfl rfl (E.Runs.load rfl rfl hu3 (by first | assumption | exact E.blkc (by assumption) rfl | exact pw_cell_below L (by assumption) | exact pw_cell_below lq (by assumption) | exact pw_cell_below L S.c0 | exact pw_cell_below L S.c1 | exact pw_cell_below L S.c2 | exact pw_cell_below L S.c3 | exact pw_cell_below L S.c4 | exact pw_cell_below L S.c5)) ?_
      refine E.GL.run rfl rfl rfl (E.Runs.max rfl rfl rfl F.st) ?_
      refine E.GL.run rfl rfl rfl (E.Runs.fieldAddr rfl rfl hu56 rfl (by assumption) rfl) ?_
      refine E.GL.sn rfl rfl (E.ST.store rfl (by assumption) (by assumption) rfl rfl b10 rfl (show _ = #[.int .i64 t.enter, .int .i64 t.seated, .int .i64 t.start, .int .i64 0, .int .i64 0] from rfl) fun wS17_6 c10 lS17_6 => ?_)
      replace b3 := blk_grown b3 lS17_6 (E.nes (by first | assumption | exact Ne.symm (by assumption)))
      replace b5 := blk_grown b5 lS17_6 (E.nes (by first | assumption | exact Ne.symm (by assumption)))
      replace b9 := blk_grown b9 lS17_6 (E.nes (by first | assumption | exact Ne.symm (by assumption)))
      replace R7 := Kd.R_grown1 R7 rfl lS17_6 (by assumption)
      replace L := E.below_own L h10_L lS17_6
      replace lq := E.below_own lq h10_lq lS17_6
      replace b10 := c10
      clear c10
      refine E.GL.done ?_
      refine E.QG.code ?_
      refine E.CG.seq ?_
      refine E.CG.heldK (some g10) ⟨g10, 2, none⟩ (by kernel_rfl) fun v18 lD hh => ?_
      replace b3 := blk_below b3 lD
      replace b5 := blk_below b5 lD
      replace b9 := blk_below b9 lD
      replace b10 := blk_below b10 lD
      replace R7 := Kd.R_below R7 lD
      replace L := below_step L lD
      replace lq := below_step lq lD
      clear lD
      have s_b3 := b3
      have s_b5 := b5
      have s_b9 := b9
      have s_b10 := b10
      have s_L := L
      have s_lq := lq
      refine E.GH.take (i := 0) rfl (by kernel_rfl) (by kernel_rfl) (by kernel_rfl) (by intro c a d v w h; cases d <;> exact h) rfl rfl rfl (fun w' hS => (E.Runs.fieldAddr rfl rfl hu56 rfl (by assumption) rfl)) ?_
      refine E.GH.take (i := 1) rfl (by kernel_rfl) (by kernel_rfl) (by kernel_rfl) (by intro c a d v w h; cases d <;> exact h) rfl rfl rfl (fun w' hS => (E.Runs.load rfl rfl hu3 (by first | exact hS.2.trans (E.blkc (by assumption) rfl) | exact E.keeps hS.1 (E.blkc (by assumption) rfl) (by first | exact E.nen | exact E.nes (by assumption) | exact E.nes (Ne.symm (by assumption))) | exact pw_cell_below (E.below_own s_L h10_L hS.1) (by assumption) | exact pw_cell_below (E.below_own s_L h10_L hS.1) S.c0 | exact pw_cell_below (E.below_own s_L h10_L hS.1) S.c1 | exact pw_cell_below (E.below_own s_L h10_L hS.1) S.c2 | exact pw_cell_below (E.below_own s_L h10_L hS.1) S.c3 | exact pw_cell_below (E.below_own s_L h10_L hS.1) S.c4 | exact pw_cell_below (E.below_own s_L h10_L hS.1) S.c5 | exact pw_cell_below (E.below_own s_lq h10_lq hS.1) (by assumption)))) ?_
      refine E.GH.take (i := 2) rfl (by kernel_rfl) (by kernel_rfl) (by kernel_rfl) (by intro c a d v w h; cases d <;> exact h) rfl rfl rfl (fun w' hS => (E.Runs.fieldAddr rfl rfl hu49 rfl (by assumption) rfl)) ?_
      refine E.GH.take (i := 3) rfl (by kernel_rfl) (by kernel_rfl) (by kernel_rfl) (by intro c a d v w h; cases d <;> exact h) rfl rfl rfl (fun w' hS => (E.Runs.load1 rfl rfl hu47 rfl (by first | exact hS.2.trans (E.blkc (by assumption) rfl) | exact E.keeps hS.1 (E.blkc (by assumption) rfl) (by first | exact E.nen | exact E.nes (by assumption) | exact E.nes (Ne.symm (by assumption))) | exact pw_cell_below (E.below_own s_L h10_L hS.1) (by assumption) | exact pw_cell_below (E.below_own s_L h10_L hS.1) S.c0 | exact pw_cell_below (E.below_own s_L h10_L hS.1) S.c1 | exact pw_cell_below (E.below_own s_L h10_L hS.1) S.c2 | exact pw_cell_below (E.below_own s_L h10_L hS.1) S.c3 | exact pw_cell_below (E.below_own s_L h10_L hS.1) S.c4 | exact pw_cell_below (E.below_own s_L h10_L hS.1) S.c5 | exact pw_cell_below (E.below_own s_lq h10_lq hS.1) (by assumption)))) ?_
      refine E.GH.take (i := 4) rfl (by kernel_rfl) (by kernel_rfl) (by kernel_rfl) (by intro c a d v w h; cases d <;> exact h) rfl rfl rfl (fun w' hS => (E.Runs.move rfl rfl)) ?_
      refine E.GH.take (i := 5) rfl (by kernel_rfl) (by kernel_rfl) (by kernel_rfl) (by intro c a d v w h; cases d <;> exact h) rfl rfl rfl (fun w' hS => (E.Runs.indexAddrA rfl rfl rfl hu47 (by assumption) (by assumption) (by assumption) (by first | rfl | assumption) rfl)) ?_
      refine E.GH.take (i := 6) rfl (by kernel_rfl) (by kernel_rfl) (by kernel_rfl) (by intro c a d v w h; cases d <;> exact h) rfl rfl rfl (fun w' hS => (E.Runs.load rfl rfl hu3 (by first | exact hS.2.trans (E.blkc (by assumption) rfl) | exact E.keeps hS.1 (E.blkc (by assumption) rfl) (by first | exact E.nen | exact E.nes (by assumption) | exact E.nes (Ne.symm (by assumption))) | exact pw_cell_below (E.below_own s_L h10_L hS.1) (by assumption) | exact pw_cell_below (E.below_own s_L h10_L hS.1) S.c0 | exact pw_cell_below (E.below_own s_L h10_L hS.1) S.c1 | exact pw_cell_below (E.below_own s_L h10_L hS.1) S.c2 | exact pw_cell_below (E.below_own s_L h10_L hS.1) S.c3 | exact pw_cell_below (E.below_own s_L h10_L hS.1) S.c4 | exact pw_cell_below (E.below_own s_L h10_L hS.1) S.c5 | exact pw_cell_below (E.below_own s_lq h10_lq hS.1) (by assumption)))) ?_
      refine E.GH.take (i := 7) rfl (by kernel_rfl) (by kernel_rfl) (by kernel_rfl) (by intro c a d v w h; cases d <;> exact h) rfl rfl rfl (fun w' hS => (E.Runs.add rfl rfl rfl (IntWalk.i64_in _ (by omega)))) ?_
      refine E.GH.take (i := 8) rfl (by kernel_rfl) (by kernel_rfl) (by kernel_rfl) (by intro c a d v w h; cases d <;> exact h) rfl rfl rfl (fun w' hS => (E.Runs.fieldAddr rfl rfl hu36 rfl (by assumption) rfl)) ?_
      refine E.GH.take (i := 9) rfl (by kernel_rfl) (by kernel_rfl) (by kernel_rfl) (by intro c a d v w h; cases d <;> exact h) rfl rfl rfl (fun w' hS => (E.Runs.load rfl rfl hu3 (by first | exact hS.2.trans (E.blkc (by assumption) rfl) | exact E.keeps hS.1 (E.blkc (by assumption) rfl) (by first | exact E.nen | exact E.nes (by assumption) | exact E.nes (Ne.symm (by assumption))) | exact pw_cell_below (E.below_own s_L h10_L hS.1) (by assumption) | exact pw_cell_below (E.below_own s_L h10_L hS.1) S.c0 | exact pw_cell_below (E.below_own s_L h10_L hS.1) S.c1 | exact pw_cell_below (E.below_own s_L h10_L hS.1) S.c2 | exact pw_cell_below (E.below_own s_L h10_L hS.1) S.c3 | exact pw_cell_below (E.below_own s_L h10_L hS.1) S.c4 | exact pw_cell_below (E.below_own s_L h10_L hS.1) S.c5 | exact pw_cell_below (E.below_own s_lq h10_lq hS.1) (by assumption)))) ?_
      refine E.GH.take (i := 10) rfl (by kernel_rfl) (by kernel_rfl) (by kernel_rfl) (by intro c a d v w h; cases d <;> exact h) rfl rfl rfl (fun w' hS => (E.Runs.fieldAddr rfl rfl hu49 rfl (by assumption) rfl)) ?_
      refine E.GH.take (i := 11) rfl (by kernel_rfl) (by kernel_rfl) (by kernel_rfl) (by intro c a d v w h; cases d <;> exact h) rfl rfl rfl (fun w' hS => (E.Runs.load rfl rfl hu3 (by first | exact hS.2.trans (E.blkc (by assumption) rfl) | exact E.keeps hS.1 (E.blkc (by assumption) rfl) (by first | exact E.nen | exact E.nes (by assumption) | exact E.nes (Ne.symm (by assumption))) | exact pw_cell_below (E.below_own s_L h10_L hS.1) (by assumption) | exact pw_cell_below (E.below_own s_L h10_L hS.1) S.c0 | exact pw_cell_below (E.below_own s_L h10_L hS.1) S.c1 | exact pw_cell_below (E.below_own s_L h10_L hS.1) S.c2 | exact pw_cell_below (E.below_own s_L h10_L hS.1) S.c3 | exact pw_cell_below (E.below_own s_L h10_L hS.1) S.c4 | exact pw_cell_below (E.below_own s_L h10_L hS.1) S.c5 | exact pw_cell_below (E.below_own s_lq h10_lq hS.1) (by assumption)))) ?_
      refine E.GH.one (i := 12) (by kernel_rfl) rfl ?_
      refine E.GO.st rfl rfl rfl (E.ST.call rfl ent51 (E.evc rfl (E.evc rfl E.evn)) ((passes_row ra s.f3 _ (by omega) (by omega) (by omega) (by omega)).mono ?_))
      rintro e w95 ⟨rfl, l95⟩
      refine ⟨_, rfl, E.kpB hh b10 l95, ?_⟩
      replace hh := E.kpB hh b10 l95
      replace b3 := blk_below b3 l95
      replace b5 := blk_below b5 l95
      replace b9 := blk_below b9 l95
      replace b10 := blk_below b10 l95
      replace R7 := Kd.R_below R7 l95
      replace L := below_step L l95
      replace lq := below_step lq l95
      refine E.GH.take (i := 13) rfl (by kernel_rfl) (by kernel_rfl) (by kernel_rfl) (by intro c a d v w h; cases d <;> exact h) rfl rfl rfl (fun w' hS => (E.Runs.add rfl rfl rfl f96)) ?_
      refine E.GH.take (i := 14) rfl (by kernel_rfl) (by kernel_rfl) (by kernel_rfl) (by intro c a d v w h; cases d <;> exact h) rfl rfl rfl (fun w' hS => (E.Runs.fieldAddr rfl rfl hu56 rfl (by assumption) rfl)) ?_
      refine E.GH.one (i := 15) (by kernel_rfl) rfl ?_
      refine E.GO.sn rfl rfl (E.ST.store rfl (by assumption) (by assumption) rfl rfl b10 rfl (show _ = #[.int .i64 t.enter, .int .i64 t.seated, .int .i64 t.start, .int .i64 t.empty, .int .i64 0] from rfl) fun wS18_15 c10 lS18_15 => ⟨E.kpS hh lS18_15 b10 c10 rfl, ?_⟩)
      replace hh := E.kpS hh lS18_15 b10 c10 rfl
      replace b3 := blk_grown b3 lS18_15 (E.nes (by first | assumption | exact Ne.symm (by assumption)))
      replace b5 := blk_grown b5 lS18_15 (E.nes (by first | assumption | exact Ne.symm (by assumption)))
      replace b9 := blk_grown b9 lS18_15 (E.nes (by first | assumption | exact Ne.symm (by assumption)))
      replace R7 := Kd.R_grown1 R7 rfl lS18_15 (by assumption)
      replace L := E.below_own L h10_L lS18_15
      replace lq := E.below_own lq h10_lq lS18_15
      replace b10 := c10
      clear c10
      refine E.GH.done (by kernel_rfl) ?_
      refine E.QG.code ?_
      refine E.CG.seq ?_
      refine E.CG.heldK (some g10) ⟨g10, 3, none⟩ (by kernel_rfl) fun v19 lD hh => ?_
      replace b3 := blk_below b3 lD
      replace b5 := blk_below b5 lD
      replace b9 := blk_below b9 lD
      replace b10 := blk_below b10 lD
      replace R7 := Kd.R_below R7 lD
      replace L := below_step L lD
      replace lq := below_step lq lD
      clear lD
      have s_b3 := b3
      have s_b5 := b5
      have s_b9 := b9
      have s_b10 := b10
      have s_L := L
      have s_lq := lq
      refine E.GH.take (i := 0) rfl (by kernel_rfl) (by kernel_rfl) (by kernel_rfl) (by intro c a d v w h; cases d <;> exact h) rfl rfl rfl (fun w' hS => (E.Runs.fieldAddr rfl rfl hu56 rfl (by assumption) rfl)) ?_
      refine E.GH.take (i := 1) rfl (by kernel_rfl) (by kernel_rfl) (by kernel_rfl) (by intro c a d v w h; cases d <;> exact h) rfl rfl rfl (fun w' hS => (E.Runs.load rfl rfl hu3 (by first | exact hS.2.trans (E.blkc (by assumption) rfl) | exact E.keeps hS.1 (E.blkc (by assumption) rfl) (by first | exact E.nen | exact E.nes (by assumption) | exact E.nes (Ne.symm (by assumption))) | exact pw_cell_below (E.below_own s_L h10_L hS.1) (by assumption) | exact pw_cell_below (E.below_own s_L h10_L hS.1) S.c0 | exact pw_cell_below (E.below_own s_L h10_L hS.1) S.c1 | exact pw_cell_below (E.below_own s_L h10_L hS.1) S.c2 | exact pw_cell_below (E.below_own s_L h10_L hS.1) S.c3 | exact pw_cell_below (E.below_own s_L h10_L hS.1) S.c4 | exact pw_cell_below (E.below_own s_L h10_L hS.1) S.c5 | exact pw_cell_below (E.below_own s_lq h10_lq hS.1) (by assumption)))) ?_
      refine E.GH.take (i := 2) rfl (by kernel_rfl) (by kernel_rfl) (by kernel_rfl) (by intro c a d v w h; cases d <;> exact h) rfl rfl rfl (fun w' hS => (E.Runs.move rfl rfl)) ?_
      refine E.GH.take (i := 3) rfl (by kernel_rfl) (by kernel_rfl) (by kernel_rfl) (by intro c a d v w h; cases d <;> exact h) rfl rfl rfl (fun w' hS => (E.Runs.max rfl rfl rfl rfl)) ?_
      refine E.GH.take (i := 4) rfl (by kernel_rfl) (by kernel_rfl) (by kernel_rfl) (by intro c a d v w h; cases d <;> exact h) rfl rfl rfl (fun w' hS => (E.Runs.fieldAddr rfl rfl hu49 rfl (by assumption) rfl)) ?_
      refine E.GH.take (i := 5) rfl (by kernel_rfl) (by kernel_rfl) (by kernel_rfl) (by intro c a d v w h; cases d <;> exact h) rfl rfl rfl (fun w' hS => (E.Runs.load1 rfl rfl hu47 rfl (by first | exact hS.2.trans (E.blkc (by assumption) rfl) | exact E.keeps hS.1 (E.blkc (by assumption) rfl) (by first | exact E.nen | exact E.nes (by assumption) | exact E.nes (Ne.symm (by assumption))) | exact pw_cell_below (E.below_own s_L h10_L hS.1) (by assumption) | exact pw_cell_below (E.below_own s_L h10_L hS.1) S.c0 | exact pw_cell_below (E.below_own s_L h10_L hS.1) S.c1 | exact pw_cell_below (E.below_own s_L h10_L hS.1) S.c2 | exact pw_cell_below (E.below_own s_L h10_L hS.1) S.c3 | exact pw_cell_below (E.below_own s_L h10_L hS.1) S.c4 | exact pw_cell_below (E.below_own s_L h10_L hS.1) S.c5 | exact pw_cell_below (E.below_own s_lq h10_lq hS.1) (by assumption)))) ?_
      refine E.GH.take (i := 6) rfl (by kernel_rfl) (by kernel_rfl) (by kernel_rfl) (by intro c a d v w h; cases d <;> exact h) rfl rfl rfl (fun w' hS => (E.Runs.move rfl rfl)) ?_
      refine E.GH.take (i := 7) rfl (by kernel_rfl) (by kernel_rfl) (by kernel_rfl) (by intro c a d v w h; cases d <;> exact h) rfl rfl rfl (fun w' hS => (E.Runs.indexAddrA rfl rfl rfl hu47 (by assumption) (by assumption) (by assumption) (by first | rfl | assumption) rfl)) ?_
      refine E.GH.take (i := 8) rfl (by kernel_rfl) (by kernel_rfl) (by kernel_rfl) (by intro c a d v w h; cases d <;> exact h) rfl rfl rfl (fun w' hS => (E.Runs.load rfl rfl hu3 (by first | exact hS.2.trans (E.blkc (by assumption) rfl) | exact E.keeps hS.1 (E.blkc (by assumption) rfl) (by first | exact E.nen | exact E.nes (by assumption) | exact E.nes (Ne.symm (by assumption))) | exact pw_cell_below (E.below_own s_L h10_L hS.1) (by assumption) | exact pw_cell_below (E.below_own s_L h10_L hS.1) S.c0 | exact pw_cell_below (E.below_own s_L h10_L hS.1) S.c1 | exact pw_cell_below (E.below_own s_L h10_L hS.1) S.c2 | exact pw_cell_below (E.below_own s_L h10_L hS.1) S.c3 | exact pw_cell_below (E.below_own s_L h10_L hS.1) S.c4 | exact pw_cell_below (E.below_own s_L h10_L hS.1) S.c5 | exact pw_cell_below (E.below_own s_lq h10_lq hS.1) (by assumption)))) ?_
      refine E.GH.take (i := 9) rfl (by kernel_rfl) (by kernel_rfl) (by kernel_rfl) (by intro c a d v w h; cases d <;> exact h) rfl rfl rfl (fun w' hS => (E.Runs.add rfl rfl rfl f107)) ?_
      refine E.GH.take (i := 10) rfl (by kernel_rfl) (by kernel_rfl) (by kernel_rfl) (by intro c a d v w h; cases d <;> exact h) rfl rfl rfl (fun w' hS => (E.Runs.fieldAddr rfl rfl hu56 rfl (by assumption) rfl)) ?_
      refine E.GH.one (i := 11) (by kernel_rfl) rfl ?_
      refine E.GO.sn rfl rfl (E.ST.store rfl (by assumption) (by assumption) rfl rfl b10 rfl (show _ = #[.int .i64 t.enter, .int .i64 t.seated, .int .i64 t.start, .int .i64 t.empty, .int .i64 t.ready] from rfl) fun wS19_11 c10 lS19_11 => ⟨E.kpS hh lS19_11 b10 c10 rfl, ?_⟩)
      replace hh := E.kpS hh lS19_11 b10 c10 rfl
      replace b3 := blk_grown b3 lS19_11 (E.nes (by first | assumption | exact Ne.symm (by assumption)))
      replace b5 := blk_grown b5 lS19_11 (E.nes (by first | assumption | exact Ne.symm (by assumption)))
      replace b9 := blk_grown b9 lS19_11 (E.nes (by first | assumption | exact Ne.symm (by assumption)))
      replace R7 := Kd.R_grown1 R7 rfl lS19_11 (by assumption)
      replace L := E.below_own L h10_L lS19_11
      replace lq := E.below_own lq h10_lq lS19_11
      replace b10 := c10
      clear c10
      refine E.GH.done (by kernel_rfl) ?_
      refine E.QG.code ?_
      refine E.CG.list ?_
      refine E.GL.run rfl rfl rfl (E.Runs.move rfl rfl) ?_
      refine E.GL.run rfl rfl rfl (E.Runs.loads (cs := [.int .i64 t.enter, .int .i64 t.seated, .int .i64 t.start, .int .i64 t.empty, .int .i64 t.ready]) rfl rfl hu56 rfl info56s (blk_cells b10)) ?_
      refine E.GL.st rfl rfl rfl (E.ST.lit rfl (E.epc rfl E.epn) (lit56 t) ?_)
      refine E.GL.st rfl rfl rfl (E.ST.append kTm w5.heap.size (w0 := w5) (s := .tmp 109) (x := .tmp 111) rfl hu53 info56t rfl (by decide) (by decide) t rfl rfl (kTm_mkM _ _ _ _) (fun _ _ => trivial) R7 lq lq.size (by rw [hti]; omega) fun u112 w112 r112 k112 gr112 => ?_)
      replace lq := k112
      replace L := below_step s3_L lq
      replace b3 := blk_below s3_b3 lq
      replace b5 := blk_below s3_b5 lq
      clear b9 b10
      refine E.GL.run rfl rfl rfl (E.Runs.assign rfl rfl) ?_
      refine E.GL.done ?_
      refine E.QG.block_normal ?_
      refine E.QG.code ?_
      refine E.CG.list ?_
      refine E.GL.run rfl rfl rfl (E.Runs.move rfl rfl) ?_
      refine E.GL.run rfl rfl rfl (E.Runs.add rfl rfl rfl (IntWalk.i64_in _ (by omega))) ?_
      refine E.GL.run rfl rfl rfl (E.Runs.assign rfl rfl) ?_
      refine E.GL.done ?_
      exact E.QG.round2 (d := .slice A7 i c7) (i + 1) _ (E.subc rfl (E.subc rfl (E.subc rfl (E.subc rfl (E.subc rfl E.subn))))) ⟨by omega, by rw [hts]; exact r112, lq⟩ (by omega)
  · obtain rfl : i = l.length := by omega
    have hfin : (dayT (⟨ra, H.walk, H.early⟩ : Rt) (items l rs cs)).take l.length = dayT (⟨ra, H.walk, H.early⟩ : Rt) (items l rs cs) := List.take_of_length_le (by rw [dayT_length, hxl]; omega)
    rw [hfin] at R7
    obtain ⟨hq1, hq2, hq3⟩ := Kd.R_reads' R7
    rw [← hq1] at hq3
    refine E.GL.done ?_
    refine E.QG.code ?_
    refine E.CG.cond_f rfl ?_
    refine E.CG.exit ?_
    refine E.QG.pass_exit ?_
    refine E.QG.pass_exit ?_
    refine E.QG.block_here ?_
    refine E.QG.code ?_
    refine E.CG.seq ?_
    refine E.CG.list ?_
    refine E.GL.run rfl rfl rfl (E.Runs.move rfl rfl) ?_
    refine E.GL.run rfl rfl rfl (E.Runs.assign rfl rfl) ?_
    refine E.GL.done ?_
    refine E.QG.code ?_
    refine E.CG.ret ?_
    exact E.QG.result rfl rfl ⟨A7, c7, rfl, hq2, hq3, L⟩

end Go.Proofs.Ythdbkhdiaehblaa.T
