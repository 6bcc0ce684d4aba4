/- Fewest: the walks of both texts. -/
import Derived.Test.YtbajpjnloikpdaaP9
namespace Go.Proofs.Ytbajpjnloikpdaa.T
open Go.RowKit Go.Proofs.YtbajpjnloikpdaaW.PrintWords Go.Proofs.YtbajpjnloikpdaaW.PrintMore
open Go.Proofs.Ytbajpjnloikpdaa.P
set_option linter.unusedVariables false
set_option linter.unusedSimpArgs false

def leastF (M : Lm) (l : List Nat) : Int := l.foldl (fun m (n : Nat) => mn m (n : Int)) (M.gs.length : Int)
/-- The least number of readings that are wrong. -/
def leastT (M : Lm) (l : List Ln) : Int := leastF M (l.map fun x => (wrongs M x).length)
theorem leastF_snoc (M : Lm) (l : List Nat) (n : Nat) : leastF M (l ++ [n]) = mn (leastF M l) (n : Int) := by
  unfold leastF
  simp [List.foldl_append]
theorem leastT_step {M : Lm} {l : List Ln} {i : Nat} {x : Ln} (hx : l[i]? = some x) : leastT M (l.take (i + 1)) = mn (leastT M (l.take i)) ((wrongs M x).length : Int) := by
  unfold leastT
  rw [List.take_add_one, hx]
  show leastF M (List.map _ (_ ++ [x])) = _
  rw [List.map_append]
  exact leastF_snoc M _ _
def fewV (M : Lm) : Int := if LampOk M then leastT M (pairs M) else 0
theorem keys_few {M : Lm} {xs : List It} (h : xs.map key = (pairs M).map (pk M)) : leastF M (xs.map fun x => x.2.2.1) = leastT M (pairs M) := by
  unfold leastT
  congr 1
  have := congrArg (List.map Prod.snd) h
  rw [List.map_map, List.map_map] at this
  exact this
theorem checkE_ne {M : Lm} (h : ¬ LampOk M) : checkE M ≠ 0 := fun e => h ((checkE_ok M).mp e)
theorem run_isAgg_int {ty : TypeId} {k : IntKind} (hu : Try.prog.underlying ty = some (.int k)) (W : World) : True := trivial
set_option maxRecDepth 100000 in
set_option maxHeartbeats 8000000 in

theorem few_no (M : Lm) (A : Option Addr) (c : Nat) (w : World) (hV : ¬ LampOk M) (hr : Kd.C k64 w A M.gs.length M.gs) (hn : M.gs.length ≤ 1000000) :
    Calls Try.prog 36 #[lv M A c] w fun e w' => e = .returned (.tuple #[.int .i64 (fewV M), .int .i64 (checkE M)]) ∧ Below w.heap.size w w' := by
  have hu26 := Try.underlying26
  refine E.enter (N := 25) Try.func36 rfl Try.ntmps36 (args := [lv M A c]) (by simp) ?_
  have L := Below.refl w.heap.size w
  refine E.CG.seq ?_
  refine E.CG.list ?_
  refine E.GL.st rfl rfl rfl (E.ST.box rfl rfl fun g1 w1 e1 b1 l1 => ?_)
  have h1_L : w.heap.size ≤ g1 := by rw [e1]; exact L.size
  replace L := below_step L l1
  refine E.GL.run rfl rfl rfl (E.Runs.assign rfl rfl) ?_
  refine E.GL.run rfl rfl rfl (E.Runs.assign rfl rfl) ?_
  refine E.GL.done ?_
  refine E.QG.code ?_
  refine E.CG.seq ?_
  refine E.CG.seq ?_
  refine E.CG.list ?_
  refine E.GL.run rfl rfl rfl (E.Runs.loads (cs := [.int .i64 M.fl, .int .i64 M.fh, .int .i64 M.al, .int .i64 M.ah, .int .i64 M.nl, .int .i64 M.nh, .int .i64 M.ra, .slice A M.gs.length c, .int .i64 M.wr]) rfl rfl hu26 rfl info26s (blk_cells b1)) ?_
  refine E.GL.st rfl rfl rfl (E.ST.call rfl ent39 (E.evc rfl E.evn) ((check_o M A c _ (Kd.C_below hr L) hn).mono ?_))
  rintro e w9 ⟨rfl, l9⟩
  refine ⟨_, rfl, ?_⟩
  replace b1 := blk_below b1 l9
  replace L := below_step L l9
  refine E.GL.run rfl rfl rfl (E.Runs.assign rfl rfl) ?_
  refine E.GL.done ?_
  refine E.QG.code ?_
  refine E.CG.seq ?_
  refine E.CG.list ?_
  refine E.GL.run rfl rfl rfl (E.Runs.move rfl rfl) ?_
  refine E.GL.run rfl rfl rfl (E.Runs.neq rfl rfl rfl (E.ne_t (checkE_ne hV))) ?_
  refine E.GL.done ?_
  refine E.QG.code ?_
  refine E.CG.cond_t rfl ?_
  refine E.CG.seq ?_
  refine E.CG.list ?_
  refine E.GL.run rfl rfl rfl (E.Runs.move rfl rfl) ?_
  refine E.GL.run rfl rfl rfl (E.Runs.assign rfl rfl) ?_
  refine E.GL.run rfl rfl rfl (E.Runs.assign rfl rfl) ?_
  refine E.GL.done ?_
  refine E.QG.code ?_
  refine E.CG.ret ?_
  refine E.QG.pass_ret ?_
  exact E.QG.result2 rfl rfl rfl ⟨by unfold fewV; rw [if_neg hV], L⟩

set_option maxRecDepth 100000 in
set_option maxHeartbeats 8000000 in
theorem few_yes (M : Lm) (A : Option Addr) (c : Nat) (w : World) (hV : LampOk M) (hr : Kd.C k64 w A M.gs.length M.gs) (hn : M.gs.length ≤ 1000000) :
    Calls Try.prog 36 #[lv M A c] w fun e w' => e = .returned (.tuple #[.int .i64 (fewV M), .int .i64 (checkE M)]) ∧ Below w.heap.size w w' := by
  have hu3 := Try.underlying3
  have hu24 := Try.underlying24
  have hu26 := Try.underlying26
  have hu27 := Try.underlying27
  obtain ⟨z3, o3⟩ := info_some info3s (by decide)
  obtain ⟨z24, o24⟩ := info_some info24s (by decide)
  have hck := checkE_yes hV
  refine E.enterM (N := 25) 8 Try.func36 rfl Try.ntmps36 (args := [lv M A c]) (by simp) ?_
  have L := Below.refl w.heap.size w
  refine E.CI.seq (E.CI.wide ?_)
  refine E.CG.list ?_
  refine E.GL.st rfl rfl rfl (E.ST.box rfl rfl fun g1 w1 e1 b1 l1 => ?_)
  have h1 : w.heap.size ≤ g1 := by rw [e1]; exact Nat.le_refl _
  replace L := below_step L l1
  refine E.GL.run rfl rfl rfl (E.Runs.assign rfl rfl) ?_
  refine E.GL.run rfl rfl rfl (E.Runs.assign rfl rfl) ?_
  refine E.GL.done ?_
  refine E.QG.codeI ?_
  refine E.CI.seq ?_
  refine E.CI.seq (E.CI.wide ?_)
  refine E.CG.list ?_
  refine E.GL.run rfl rfl rfl (E.Runs.loads (cs := lampC M A c) rfl rfl hu26 rfl info26s (blk_cells b1)) ?_
  refine E.GL.st rfl rfl rfl (E.ST.call rfl ent39 (E.evc rfl E.evn) ((check_o M A c _ (Kd.C_below hr L) hn).mono ?_))
  rintro e w9 ⟨rfl, l9⟩
  refine ⟨_, rfl, ?_⟩
  replace b1 := blk_below b1 l9
  replace L := below_step L l9
  refine E.GL.run rfl rfl rfl (E.Runs.assign rfl rfl) ?_
  refine E.GL.done ?_
  refine E.QG.codeI ?_
  refine E.CI.seq (E.CI.wide ?_)
  refine E.CG.list ?_
  refine E.GL.run rfl rfl rfl (E.Runs.move rfl rfl) ?_
  refine E.GL.run rfl rfl rfl (E.Runs.neq rfl rfl rfl (E.ne_f hck)) ?_
  refine E.GL.done ?_
  refine E.QG.codeI ?_
  refine E.CI.cond_f rfl ?_
  refine E.CI.skip ?_
  refine E.QG.codeI ?_
  refine E.CI.seq (E.CI.wide ?_)
  refine E.CG.list ?_
  refine E.GL.run rfl rfl rfl (E.Runs.fieldAddr rfl rfl hu26 rfl (by assumption) rfl) ?_
  refine E.GL.run rfl rfl rfl (E.Runs.load1 rfl rfl hu24 rfl (E.blkc b1 rfl)) ?_
  refine E.GL.run rfl rfl rfl (E.Runs.len rfl rfl hu24) ?_
  refine E.GL.st rfl rfl rfl (E.ST.allocZ rfl info3z rfl fun g5 w5 e5 b5 l5 => ?_)
  have n5 : g1 ≠ g5 := by have := blk_lt b1; omega
  have h5 : w.heap.size ≤ g5 := by rw [e5]; exact L.size
  replace b1 := blk_below b1 l5
  replace L := below_step L l5
  refine E.GL.sn rfl rfl (E.ST.store rfl (by assumption) (by assumption) rfl rfl b5 rfl (show _ = #[.int .i64 (M.gs.length : Int)] from rfl) fun ws c5 ls => ?_)
  replace b1 := blk_grown b1 ls (E.nes n5)
  replace L := E.below_own L h5 ls
  replace b5 := c5
  clear c5
  refine E.GL.done ?_
  refine E.QG.codeI ?_
  refine E.CI.seq ?_
  refine E.CI.seq (E.CI.wide ?_)
  refine E.CG.list ?_
  refine E.GL.run rfl rfl rfl (E.Runs.loads (cs := lampC M A c) rfl rfl hu26 rfl info26s (blk_cells b1)) ?_
  have hlt5 := blk_lt b5
  refine E.GL.st rfl rfl rfl (E.ST.call rfl ent63 (E.evc rfl E.evn) ((lines_calls M A c _).mono ?_))
  rintro e w6 ⟨g, rfl, bg, hgn, l6⟩
  refine ⟨_, rfl, ?_⟩
  have hL2 := L.size
  replace b1 := blk_below b1 l6
  replace b5 := blk_below b5 l6
  replace L := below_step L l6
  have hgs : w.heap.size ≤ g := by omega
  have hg1 : g1 < w6.heap.size := blk_lt b1
  have hg5 : g5 < w6.heap.size := blk_lt b5
  have hgl : g < w6.heap.size := blk_lt bg
  have ne5 : g ≠ g5 := by omega
  refine E.GL.done ?_
  refine E.QG.codeI ?_
  refine E.CI.block ?_
  refine E.CI.range (γ := Unit) (Kp := Keep w g) (by decide) rfl ent70 (lines_stops M A c g _ w w6 hV L bg hr) (fun h k => ⟨h.1.trans k.1, k.2.trans h.2⟩)
    (fun W l o o' hl ho hc hw => ⟨belowK_b L.size W l o o' hl ho hc hw, World.putObj_heap_other (by omega)⟩) (Below.refl _ _) (fun _ => rfl)
    (fun pre W => W.heap[g5]? = some (.cells #[.int .i64 (leastF M (pre.map fun x => x.2.2.1))] 3 (0, 0)) ∧ W.heap[g]? = some (.cells (lampC M A c).toArray 26 (0, 0)) ∧ Below w.heap.size w W ∧ w6.heap.size ≤ W.heap.size)
    (fun pre X Y row hi hg hrow => by
      obtain ⟨q1, q4, q5, q6⟩ := hi
      exact ⟨own_blk hg hrow q1, own_blk hg hrow q4, own_below L.size hg hrow q5 q5.size, Nat.le_trans q6 hg.size⟩)
    ⟨b5, bg, L, Nat.le_refl _⟩
    (fun x => (19, .slice x.2.1 x.2.2.1 x.2.2.2) :: (18, pv x.1) :: [(5, .pointer (some ⟨g5, 0, none⟩))])
    (fun x a ha => by
      have ha' := ha.sub (E.subc (k := 5) (v := .pointer (some ⟨g5, 0, none⟩)) rfl E.subn)
      obtain ⟨t, d⟩ := a
      obtain rfl : d = [] := ha.defers
      rw [show (#[18, 19].zip (itV x)).foldl (fun (t : Array Value) (p, v) => t.setIfInBounds p v) t = (t.setIfInBounds 18 (pv x.1)).setIfInBounds 19 (.slice x.2.1 x.2.2.1 x.2.2.2) from by simp [itV]]
      exact (ha'.put (n := 18) (pv x.1) (by decide)).put (n := 19) (.slice x.2.1 x.2.2.1 x.2.2.2) (by decide))
    (fun x _ => [(5, .pointer (some ⟨g5, 0, none⟩)), (7, .slice x.2.1 x.2.2.1 x.2.2.2)])
    (fun x _ W => True)
    (fun x _ _ X Y row hi hg hrow => trivial)
    (fun l pre x W K hi hK => ?_) (fun l pre x g3 W hi hx hlt => ?_) (fun D xs W hD hS hi hk => ?_)
  · -- the loop's variable
    have hF := E.WF.wide.round l
    refine E.CI.list ?_
    refine E.GI.run hF rfl rfl rfl rfl (E.Runs.assign rfl rfl) ?_
    refine E.GI.done ?_
    intro a' ha'
    refine hK () W (KeepsFrom.refl _ _) ⟨Below.refl _ _, rfl⟩ hi trivial a' ?_
    exact ha'.sub (E.subc rfl (E.subc rfl E.subn))
  · -- a round
    obtain ⟨q1, q4, q5, q6⟩ := hi
    have hF := E.WF.wide.round l
    refine E.CI.block ?_
    refine E.CI.list ?_
    refine E.GI.run hF rfl rfl rfl rfl (E.Runs.load rfl rfl hu3 (E.blkc q1 rfl)) ?_
    refine E.GI.run hF rfl rfl rfl rfl (E.Runs.move rfl rfl) ?_
    refine E.GI.run hF rfl rfl rfl rfl (E.Runs.len rfl rfl hu27) ?_
    refine E.GI.run hF rfl rfl rfl rfl (E.Runs.min rfl rfl rfl rfl) ?_
    refine E.GI.sn rfl rfl (E.SI.of hF rfl (E.ST.store rfl (by assumption) (by assumption) rfl rfl q1 rfl (show _ = #[.int .i64 (mn (leastF M (pre.map fun x => x.2.2.1)) (x.2.2.1 : Int))] from rfl) fun wb p1b gb => ?_))
    have p4b := blk_grown q4 gb (E.nes (fun e => ne5 e))
    have kbb : Below w.heap.size W wb := (Below.refl _ W).grown gb q5.size (fun k e => by cases e; exact h5)
    refine E.GI.done ?_
    refine E.QG.block_normal ?_
    intro a' ha'
    refine ⟨keeps_blk q1 gb, ⟨kbb, p4b.trans q4.symm⟩, ?_, p4b, q5.trans kbb, Nat.le_trans q6 kbb.size⟩
    rw [List.map_append]
    show wb.heap[g5]? = some (Obj.cells #[.int .i64 (leastF M (_ ++ [x.2.2.1]))] 3 (0, 0))
    rw [leastF_snoc]
    exact p1b
  · -- behind the loop
    obtain ⟨q1, q4, q5, q6⟩ := hi
    refine E.QD.block_normal ?_
    refine E.QD.codeI ?_
    refine E.CD.seq ?_
    refine E.CD.list ?_
    refine E.GD.run E.WF.wide rfl rfl rfl rfl (E.Runs.load rfl rfl hu3 (E.blkc q1 rfl)) ?_
    refine E.GD.run E.WF.wide rfl rfl rfl rfl (E.Runs.assign rfl rfl) ?_
    refine E.GD.run E.WF.wide rfl rfl rfl rfl (E.Runs.assign rfl rfl) ?_
    refine E.GD.done ?_
    refine E.QD.codeI ?_
    refine E.CD.ret ?_
    have hD2 : w6.heap.size ≤ D := hD
    have hrow : ∀ r, some D = some r → w6.heap.size ≤ r ∧ ∃ o : Obj, W.heap[r]? = some o ∧ o.isCells = false := fun r e => by cases e; exact ⟨hD2, _, hk, rfl⟩
    refine E.QD.result2 hk rfl rfl rfl ⟨?_, ?_⟩
    · unfold fewV
      rw [if_pos hV, hck, keys_few hS]
    · exact own_below L.size (grownBy_putObj' _ D (.deferred none)) hrow q5 q5.size
theorem few_calls (M : Lm) (A : Option Addr) (c : Nat) (w : World) (hr : Kd.C k64 w A M.gs.length M.gs) (hn : M.gs.length ≤ 1000000) :
    Calls Try.prog 36 #[lv M A c] w fun e w' => e = .returned (.tuple #[.int .i64 (fewV M), .int .i64 (checkE M)]) ∧ Below w.heap.size w w' := by
  by_cases hV : LampOk M
  · exact few_yes M A c w hV hr hn
  · exact few_no M A c w hV hr hn
set_option maxRecDepth 100000 in
set_option maxHeartbeats 8000000 in

theorem reffew_calls (M : Lm) (A : Option Addr) (c : Nat) (w : World) (hr : Kd.C k64 w A M.gs.length M.gs) (hn : M.gs.length ≤ 1000000) :
    Calls Try.prog 37 #[lv M A c] w fun e w' => e = .returned (.tuple #[.int .i64 (fewV M), .int .i64 (checkE M)]) ∧ Below w.heap.size w w' := by
  have hu3 := Try.underlying3
  have hu24 := Try.underlying24
  have hu26 := Try.underlying26
  have hu27 := Try.underlying27
  have hu46 := Try.underlying46
  have hu54 := Try.underlying54
  obtain ⟨z3, o3⟩ := info_some info3s (by decide)
  obtain ⟨z24, o24⟩ := info_some info24s (by decide)
  obtain ⟨z54, o54⟩ := info_some info54s (by decide)
  refine E.enter (N := 31) Try.func37 rfl Try.ntmps37 (args := [lv M A c]) (by simp) ?_
  have L := Below.refl w.heap.size w
  refine E.CG.seq ?_
  refine E.CG.list ?_
  refine E.GL.st rfl rfl rfl (E.ST.box rfl rfl fun g1 w1 e1 b1 l1 => ?_)
  have h1_L : w.heap.size ≤ g1 := by rw [e1]; exact L.size
  replace L := below_step L l1
  refine E.GL.run rfl rfl rfl (E.Runs.assign rfl rfl) ?_
  refine E.GL.run rfl rfl rfl (E.Runs.assign rfl rfl) ?_
  refine E.GL.done ?_
  refine E.QG.code ?_
  refine E.CG.seq ?_
  refine E.CG.seq ?_
  refine E.CG.list ?_
  refine E.GL.run rfl rfl rfl (E.Runs.loads (cs := [.int .i64 M.fl, .int .i64 M.fh, .int .i64 M.al, .int .i64 M.ah, .int .i64 M.nl, .int .i64 M.nh, .int .i64 M.ra, .slice A M.gs.length c, .int .i64 M.wr]) rfl rfl hu26 rfl info26s (blk_cells b1)) ?_
  refine E.GL.st rfl rfl rfl (E.ST.call rfl ent40 (E.evc rfl E.evn) ((check_r M A c _ (Kd.C_below hr L) hn).mono ?_))
  rintro e w8 ⟨rfl, l8⟩
  refine ⟨_, rfl, ?_⟩
  replace b1 := blk_below b1 l8
  replace L := below_step L l8
  refine E.GL.cmpn rfl rfl rfl (fun _ h => (E.Runs.neq rfl rfl rfl h)) (fun h9 => ?_) (fun h9 => ?_)
  · have hV := fun k => h9 ((checkE_ok M).mpr k)
    refine E.GL.done ?_
    refine E.QG.code ?_
    refine E.CG.cond_t rfl ?_
    refine E.CG.seq ?_
    refine E.CG.list ?_
    refine E.GL.run rfl rfl rfl (E.Runs.assign rfl rfl) ?_
    refine E.GL.run rfl rfl rfl (E.Runs.assign rfl rfl) ?_
    refine E.GL.done ?_
    refine E.QG.code ?_
    refine E.CG.ret ?_
    refine E.QG.pass_ret ?_
    exact E.QG.result2 rfl rfl rfl ⟨by unfold fewV; rw [if_neg hV, checkE_no hV], L⟩
  · have hV := (checkE_ok M).mp (by omega)
    have hfew := pairs_few hV.1
    refine E.GL.done ?_
    refine E.QG.code ?_
    refine E.CG.cond_f rfl ?_
    refine E.CG.skip ?_
    refine E.QG.code ?_
    refine E.CG.seq ?_
    refine E.CG.list ?_
    refine E.GL.run rfl rfl rfl (E.Runs.fieldAddr rfl rfl hu26 rfl (by assumption) rfl) ?_
    refine E.GL.run rfl rfl rfl (E.Runs.load1 rfl rfl hu24 rfl (by first | assumption | exact E.blkc (by assumption) rfl | exact pw_cell_below L (by assumption))) ?_
    refine E.GL.run rfl rfl rfl (E.Runs.len rfl rfl hu24) ?_
    refine E.GL.run rfl rfl rfl (E.Runs.assign rfl rfl) ?_
    refine E.GL.done ?_
    refine E.QG.code ?_
    refine E.CG.seq ?_
    refine E.CG.list ?_
    refine E.GL.run rfl rfl rfl (E.Runs.loads (cs := [.int .i64 M.fl, .int .i64 M.fh, .int .i64 M.al, .int .i64 M.ah, .int .i64 M.nl, .int .i64 M.nh, .int .i64 M.ra, .slice A M.gs.length c, .int .i64 M.wr]) rfl rfl hu26 rfl info26s (blk_cells b1)) ?_
    refine E.GL.st rfl rfl rfl (E.ST.call rfl ent58 (E.evc rfl E.evn) ((all_calls M A c _ hV.1).mono ?_))
    rintro e w14 ⟨v14, rfl, R14, l14⟩
    refine ⟨_, rfl, ?_⟩
    replace b1 := blk_below b1 l14
    replace L := below_step L l14
    have lo := Below.refl w14.heap.size w14
    obtain ⟨A14, c14, hv14⟩ := Kd.R_slice R14
    subst hv14
    obtain ⟨_, _, C14⟩ := Kd.R_reads' R14
    refine E.GL.run rfl rfl rfl (E.Runs.assign rfl rfl) ?_
    refine E.GL.done ?_
    refine E.QG.code ?_
    refine E.CG.seq ?_
    refine E.CG.seq ?_
    refine E.CG.list ?_
    refine E.GL.run rfl rfl rfl (E.Runs.assign rfl rfl) ?_
    refine E.GL.done ?_
    refine E.QG.code ?_
    refine E.CG.block ?_
    have s6_b1 := b1
    have s6_L := L
    have s6_lo := lo
    refine E.CG.loop (fun (i : Nat) => [(1, .pointer (some ⟨g1, 0, none⟩)), (4, .int .i64 (leastT M ((pairs M).take i))), (5, .slice A14 (pairs M).length c14), (6, .int .i64 i)]) (fun i w' => i ≤ (pairs M).length ∧ Below w14.heap.size w14 w') (fun i => (pairs M).length - i) 0 (E.subc rfl (E.subc rfl (E.subc rfl (E.subc rfl E.subn)))) ⟨Nat.zero_le _, Below.refl _ _⟩ ?_
    rintro i w6 ⟨hi, lq⟩
    replace b1 := blk_below b1 lq
    replace L := below_step L lq
    replace lo := below_step lo lq
    refine E.CG.seq ?_
    refine E.CG.seq ?_
    refine E.CG.list ?_
    refine E.GL.run rfl rfl rfl (E.Runs.move rfl rfl) ?_
    refine E.GL.run rfl rfl rfl (E.Runs.move rfl rfl) ?_
    refine E.GL.run rfl rfl rfl (E.Runs.len rfl rfl hu46) ?_
    refine E.GL.cmp rfl rfl rfl (fun _ h => (E.Runs.lss rfl rfl rfl h)) (fun h18 => ?_) (fun h18 => ?_)
    · obtain ⟨x, hx⟩ : ∃ x, (pairs M)[i]? = some x := ⟨_, List.getElem?_eq_getElem (by omega)⟩
      obtain ⟨ad, eA, X⟩ := line_at C14 hx
      have hip : (i : Int) < (pairs M).length := by omega
      have hxo := pairs_ok hV.1 (List.mem_of_getElem? hx)
      refine E.GL.done ?_
      refine E.QG.code ?_
      refine E.CG.cond_t rfl ?_
      refine E.CG.skip ?_
      refine E.QG.code ?_
      refine E.CG.seq ?_
      refine E.CG.block ?_
      refine E.CG.heldH (none) (by kernel_rfl) fun v8 lD hh => ?_
      replace b1 := blk_below b1 lD
      replace L := below_step L lD
      replace lo := below_step lo lD
      replace lq := below_step lq lD
      clear lD
      have s_b1 := b1
      have s_L := L
      have s_lo := lo
      have s_lq := lq
      refine E.GH.take (i := 0) rfl (by kernel_rfl) (by kernel_rfl) (by kernel_rfl) (by intro c a d v w h; cases d <;> exact h) rfl rfl rfl (fun w' hS => (E.Runs.move rfl rfl)) ?_
      refine E.GH.take (i := 1) rfl (by kernel_rfl) (by kernel_rfl) (by kernel_rfl) (by intro c a d v w h; cases d <;> exact h) rfl rfl rfl (fun w' hS => (E.Runs.loads (cs := [.int .i64 M.fl, .int .i64 M.fh, .int .i64 M.al, .int .i64 M.ah, .int .i64 M.nl, .int .i64 M.nh, .int .i64 M.ra, .slice A M.gs.length c, .int .i64 M.wr]) rfl rfl hu26 rfl info26s (blk_cells (blk_grown s_b1 hS E.nen)))) ?_
      refine E.GH.take (i := 2) rfl (by kernel_rfl) (by kernel_rfl) (by kernel_rfl) (by intro c a d v w h; cases d <;> exact h) rfl rfl rfl (fun w' hS => (E.Runs.move rfl rfl)) ?_
      refine E.GH.take (i := 3) rfl (by kernel_rfl) (by kernel_rfl) (by kernel_rfl) (by intro c a d v w h; cases d <;> exact h) rfl rfl rfl (fun w' hS => (E.Runs.move rfl rfl)) ?_
      refine E.GH.take (i := 4) rfl (by kernel_rfl) (by kernel_rfl) (by kernel_rfl) (by intro c a d v w h; cases d <;> exact h) rfl rfl rfl (fun w' hS => (E.Runs.indexAddrA rfl rfl rfl hu46 (by assumption) (by assumption) (by assumption) (by first | rfl | assumption) rfl)) ?_
      refine E.GH.take (i := 5) rfl (by kernel_rfl) (by kernel_rfl) (by kernel_rfl) (by intro c a d v w h; cases d <;> exact h) rfl rfl rfl (fun w' hS => (E.Runs.loads (cs := [.int .i64 x.f0, .int .i64 x.f1]) rfl rfl hu54 rfl info54s ((X.below (below_step s_lo (E.belowG hS))).cells))) ?_
      refine E.GH.one (i := 6) (by kernel_rfl) rfl ?_
      refine E.GO.st rfl rfl rfl (E.ST.call rfl ent41 (E.evc rfl (E.evc rfl E.evn)) ((wrong_calls M x A c _ hV hxo (Kd.C_below hr L)).mono ?_))
      rintro e w27 ⟨v27, rfl, R27, l27⟩
      refine ⟨_, rfl, hh.trans (E.gbB l27), ?_⟩
      replace hh := hh.trans (E.gbB l27)
      replace b1 := blk_below b1 l27
      replace L := below_step L l27
      replace lo := below_step lo l27
      replace lq := below_step lq l27
      obtain ⟨A27, c27, hv27⟩ := Kd.R_slice R27
      subst hv27
      refine E.GH.take (i := 7) rfl (by kernel_rfl) (by kernel_rfl) (by kernel_rfl) (by intro c a d v w h; cases d <;> exact h) rfl rfl rfl (fun w' hS => (E.Runs.len rfl rfl hu27)) ?_
      refine E.GH.take (i := 8) rfl (by kernel_rfl) (by kernel_rfl) (by kernel_rfl) (by intro c a d v w h; cases d <;> exact h) rfl rfl rfl (fun w' hS => (E.Runs.min rfl rfl rfl rfl)) ?_
      refine E.GH.take (i := 9) rfl (by kernel_rfl) (by kernel_rfl) (by kernel_rfl) (by intro c a d v w h; cases d <;> exact h) rfl rfl rfl (fun w' hS => (E.Runs.assign rfl rfl)) ?_
      refine E.GH.done (by kernel_rfl) ?_
      refine E.QG.block_normal ?_
      refine E.QG.code ?_
      refine E.CG.list ?_
      refine E.GL.run rfl rfl rfl (E.Runs.move rfl rfl) ?_
      refine E.GL.run rfl rfl rfl (E.Runs.add rfl rfl rfl (IntWalk.i64_in _ (by omega))) ?_
      refine E.GL.run rfl rfl rfl (E.Runs.assign rfl rfl) ?_
      refine E.GL.done ?_
      exact E.QG.round (i + 1) (E.subc rfl (E.subc (by rw [leastT_step hx]; rfl) (E.subc rfl (E.subc rfl E.subn)))) ⟨by omega, lq⟩ (by omega)
    · obtain rfl : i = (pairs M).length := by omega
      refine E.GL.done ?_
      refine E.QG.code ?_
      refine E.CG.cond_f rfl ?_
      refine E.CG.exit ?_
      refine E.QG.pass_exit ?_
      refine E.QG.pass_exit ?_
      refine E.QG.block_here ?_
      refine E.QG.code ?_
      refine E.CG.seq ?_
      refine E.CG.list ?_
      refine E.GL.run rfl rfl rfl (E.Runs.move rfl rfl) ?_
      refine E.GL.run rfl rfl rfl (E.Runs.assign rfl rfl) ?_
      refine E.GL.run rfl rfl rfl (E.Runs.assign rfl rfl) ?_
      refine E.GL.done ?_
      refine E.QG.code ?_
      refine E.CG.ret ?_
      exact E.QG.result2 rfl rfl rfl ⟨by rw [List.take_length]; unfold fewV; rw [if_pos hV, checkE_yes hV], L⟩

set_option maxRecDepth 100000 in
set_option maxHeartbeats 8000000 in

theorem refmany_calls (M : Lm) (A : Option Addr) (c : Nat) (w : World) (hr : Kd.C k64 w A M.gs.length M.gs) (hn : M.gs.length ≤ 1000000) :
    Calls Try.prog 35 #[lv M A c] w fun e w' => e = .returned (.tuple #[.int .i64 (manyV M), .int .i64 (checkE M)]) ∧ Below w.heap.size w w' := by
  have hu3 := Try.underlying3
  have hu26 := Try.underlying26
  have hu46 := Try.underlying46
  refine E.enter (N := 10) Try.func35 rfl Try.ntmps35 (args := [lv M A c]) (by simp) ?_
  have L := Below.refl w.heap.size w
  refine E.CG.seq ?_
  refine E.CG.list ?_
  refine E.GL.st rfl rfl rfl (E.ST.box rfl rfl fun g1 w1 e1 b1 l1 => ?_)
  have h1_L : w.heap.size ≤ g1 := by rw [e1]; exact L.size
  replace L := below_step L l1
  refine E.GL.run rfl rfl rfl (E.Runs.assign rfl rfl) ?_
  refine E.GL.run rfl rfl rfl (E.Runs.assign rfl rfl) ?_
  refine E.GL.done ?_
  refine E.QG.code ?_
  refine E.CG.seq ?_
  refine E.CG.seq ?_
  refine E.CG.list ?_
  refine E.GL.run rfl rfl rfl (E.Runs.loads (cs := [.int .i64 M.fl, .int .i64 M.fh, .int .i64 M.al, .int .i64 M.ah, .int .i64 M.nl, .int .i64 M.nh, .int .i64 M.ra, .slice A M.gs.length c, .int .i64 M.wr]) rfl rfl hu26 rfl info26s (blk_cells b1)) ?_
  refine E.GL.st rfl rfl rfl (E.ST.call rfl ent40 (E.evc rfl E.evn) ((check_r M A c _ (Kd.C_below hr L) hn).mono ?_))
  rintro e w5 ⟨rfl, l5⟩
  refine ⟨_, rfl, ?_⟩
  replace b1 := blk_below b1 l5
  replace L := below_step L l5
  refine E.GL.cmpn rfl rfl rfl (fun _ h => (E.Runs.neq rfl rfl rfl h)) (fun h6 => ?_) (fun h6 => ?_)
  · have hV := fun k => h6 ((checkE_ok M).mpr k)
    refine E.GL.done ?_
    refine E.QG.code ?_
    refine E.CG.cond_t rfl ?_
    refine E.CG.seq ?_
    refine E.CG.list ?_
    refine E.GL.run rfl rfl rfl (E.Runs.assign rfl rfl) ?_
    refine E.GL.run rfl rfl rfl (E.Runs.assign rfl rfl) ?_
    refine E.GL.done ?_
    refine E.QG.code ?_
    refine E.CG.ret ?_
    refine E.QG.pass_ret ?_
    exact E.QG.result2 rfl rfl rfl ⟨by unfold manyV; rw [if_neg hV, checkE_no hV], L⟩
  · have hV := (checkE_ok M).mp (by omega)
    refine E.GL.done ?_
    refine E.QG.code ?_
    refine E.CG.cond_f rfl ?_
    refine E.CG.skip ?_
    refine E.QG.code ?_
    refine E.CG.seq ?_
    refine E.CG.list ?_
    refine E.GL.run rfl rfl rfl (E.Runs.loads (cs := [.int .i64 M.fl, .int .i64 M.fh, .int .i64 M.al, .int .i64 M.ah, .int .i64 M.nl, .int .i64 M.nh, .int .i64 M.ra, .slice A M.gs.length c, .int .i64 M.wr]) rfl rfl hu26 rfl info26s (blk_cells b1)) ?_
    refine E.GL.st rfl rfl rfl (E.ST.call rfl ent62 (E.evc rfl E.evn) ((truths_calls M A c _ hV (Kd.C_below hr L)).mono ?_))
    rintro e w8 ⟨v8, rfl, R8, l8⟩
    refine ⟨_, rfl, ?_⟩
    replace b1 := blk_below b1 l8
    replace L := below_step L l8
    obtain ⟨A8, c8, hv8⟩ := Kd.R_slice R8
    subst hv8
    refine E.GL.run rfl rfl rfl (E.Runs.len rfl rfl hu46) ?_
    refine E.GL.run rfl rfl rfl (E.Runs.assign rfl rfl) ?_
    refine E.GL.run rfl rfl rfl (E.Runs.assign rfl rfl) ?_
    refine E.GL.done ?_
    refine E.QG.code ?_
    refine E.CG.ret ?_
    exact E.QG.result2 rfl rfl rfl ⟨by unfold manyV; rw [if_pos hV, checkE_yes hV], L⟩

end Go.Proofs.Ytbajpjnloikpdaa.T
