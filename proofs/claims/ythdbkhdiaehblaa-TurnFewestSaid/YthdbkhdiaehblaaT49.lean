/- Assign and Fewest: what they tell; the walks. -/
import Derived.Test.YthdbkhdiaehblaaT47
import Derived.Test.YthdbkhdiaehblaaT48
namespace Go.Proofs.Ythdbkhdiaehblaa.T
open Go.RowKit Go.Proofs.YthdbkhdiaehblaaW.PrintWords Go.Proofs.YthdbkhdiaehblaaW.PrintMore
open Go.Proofs.Ythdbkhdiaehblaa.P
set_option linter.unusedVariables false
set_option linter.unusedSimpArgs false

theorem ent58 (args : Array Value) (W : World) : (callFunc 58 args).run Try.prog W = .ok (.enter 58 args) W := by go_simp
theorem assign_low (H : Hs) (n : Int) (hH : HouseOk H) (hn : 0 ≤ n ∧ n ≤ 4) (l : List S36) (b : Int) (d : Day) (A1 : Option Addr) (c1 : Nat) (w : World) (B : Nat) (hs : ∀ s ∈ l, SlotIn H s) (hd : DayOk b d) (hb : 10000 ≤ b) (hl : b + 6000 * l.length ≤ 900000) (hr : Kd.C k36 w A1 l.length l) (hc : l.length ≤ c1) (hB : B ≤ w.heap.size) :
    Calls Try.prog 57 #[.agg (dayCells (pcL H) H d), .slice A1 l.length c1, .int .i64 n] w fun e w' => ∃ v o, e = .returned (.tuple #[v, .bool (Option.isSome o)]) ∧ Kd.R kI 3 w' B (fun _ => True) v (o.getD []) ∧ AsgOk H n d l o ∧ Below w.heap.size w w' :=
  (assign_calls H n hH hn l b d A1 c1 w hs hd hb hl hr hc).mono fun _ _ ⟨v, o, h1, h2, h3⟩ => ⟨v, o, h1, Kd.R_lower h2 hB, h3⟩
theorem canX_nil {H : Hs} {l : List S36} {n : Int} : CanX H l n [] ↔ ∃ ts, Tms n l ts ∧ okT (pcL H) H (dayAt 6 4) (withT l ts) :=
  ⟨fun ⟨ts, T, _, h⟩ => ⟨ts, T, h⟩, fun ⟨ts, T, h⟩ => ⟨ts, T, List.nil_prefix, h⟩⟩
theorem asg_can {H : Hs} {l : List S36} {n : Int} {us : List Int} (h : AsgOk H n (dayAt 6 4) l (some us)) : CanX H l n [] := canX_nil.mpr ⟨us, h.1 us rfl⟩
theorem asg_cannot {H : Hs} {l : List S36} {n : Int} (h : AsgOk H n (dayAt 6 4) l none) : ¬ CanX H l n [] := fun k => by
  obtain ⟨ts, T, h2⟩ := canX_nil.mp k
  exact h.2 rfl ts T h2
open Classical in
theorem fewFrom_own {H : Hs} {l : List S36} {i : Nat} (hi : i < 4) : fewFrom H l (4 - i) ((i : Int) + 1) = if CanX H l ((i : Int) + 1) [] then ((i : Int) + 1, 0) else fewFrom H l (4 - (i + 1)) (((i + 1 : Nat) : Int) + 1) := by
  obtain ⟨k, hk⟩ : ∃ k, 4 - i = k + 1 := ⟨3 - i, by omega⟩
  rw [hk, show 4 - (i + 1) = k by omega]
  rfl
set_option maxRecDepth 100000 in
set_option maxHeartbeats 8000000 in

theorem assign_own (H : Hs) (l : List S36) (A1 : Option Addr) (c1 : Nat) (w : World) (hl : l.length ≤ 1000000000000) (hr : Kd.C k36 w A1 l.length l) (hc : l.length ≤ c1) :
    Calls Try.prog 35 #[hv H, .slice A1 l.length c1] w fun e w' => ∃ v ts, e = .returned (.tuple #[v, .int .i64 (asgE H l)]) ∧ Kd.R kI 3 w' w.heap.size (fun _ => True) v ts ∧ (¬ asgE H l = 0 → ts = []) ∧ (asgE H l = 0 → Tms H.teams l ts ∧ okT (pcL H) H (dayAt 6 4) (withT l ts)) ∧ Below w.heap.size w w' := by
  have hu3 := Try.underlying3
  have hu25 := Try.underlying25
  have hu26 := Try.underlying26
  obtain ⟨z3, o3⟩ := info_some info3s (by decide)
  obtain ⟨z36, o36⟩ := info_some info36s (by decide)
  refine E.enter (N := 29) Try.func35 rfl Try.ntmps35 (args := [hv H, .slice A1 l.length c1]) (by simp) ?_
  have L := Below.refl w.heap.size w
  refine E.CG.seq ?_
  refine E.CG.list ?_
  refine E.GL.st rfl rfl rfl (E.ST.box rfl rfl fun g2 w2 e2 b2 l2 => ?_)
  have h2_L : w.heap.size ≤ g2 := by rw [e2]; exact L.size
  replace L := below_step L l2
  refine E.GL.run rfl rfl rfl (E.Runs.assign rfl rfl) ?_
  refine E.GL.run rfl rfl rfl (E.Runs.assign rfl rfl) ?_
  refine E.GL.done ?_
  refine E.QG.code ?_
  refine E.CG.seq ?_
  refine E.CG.seq ?_
  refine E.CG.list ?_
  refine E.GL.run rfl rfl rfl (E.Runs.loads (cs := [.int .i64 H.teams, .int .i64 H.walk, .int .i64 H.early, .int .i64 H.foyer, .int .i64 H.dl, .int .i64 H.dh, .int .i64 H.cl, .int .i64 H.ch]) rfl rfl hu25 rfl info25s (blk_cells b2)) ?_
  refine E.GL.run rfl rfl rfl (E.Runs.move rfl rfl) ?_
  refine E.GL.st rfl rfl rfl (E.ST.call rfl ent29 (E.evc rfl (E.evc rfl E.evn)) ((check_calls H l A1 c1 _ hl (Kd.C_below hr L) hc).mono ?_))
  rintro e w11 ⟨rfl, l11⟩
  refine ⟨_, rfl, ?_⟩
  replace b2 := blk_below b2 l11
  replace L := below_step L l11
  refine E.GL.run rfl rfl rfl (E.Runs.assign rfl rfl) ?_
  refine E.GL.done ?_
  refine E.QG.code ?_
  refine E.CG.seq ?_
  refine E.CG.list ?_
  refine E.GL.run rfl rfl rfl (E.Runs.move rfl rfl) ?_
  refine E.GL.cmpn rfl rfl rfl (fun _ h => (E.Runs.neq rfl rfl rfl h)) (fun h13 => ?_) (fun h13 => ?_)
  · refine E.GL.done ?_
    refine E.QG.code ?_
    refine E.CG.cond_t rfl ?_
    refine E.CG.seq ?_
    refine E.CG.list ?_
    refine E.GL.run rfl rfl rfl (E.Runs.move rfl rfl) ?_
    refine E.GL.run rfl rfl rfl (E.Runs.assign rfl rfl) ?_
    refine E.GL.run rfl rfl rfl (E.Runs.assign rfl rfl) ?_
    refine E.GL.done ?_
    refine E.QG.code ?_
    refine E.CG.ret ?_
    refine E.QG.pass_ret ?_
    exact E.QG.result2 rfl rfl rfl ⟨_, [], by simp only [asgE, if_neg h13], Kd.R_nil _ _ _ _ _, fun _ => rfl, (fun h => by simp only [asgE, if_neg h13] at h; exact absurd h h13), L⟩
  · have V := (checkE_valid H l).mp h13
    have hn := V.2.1
    refine E.GL.done ?_
    refine E.QG.code ?_
    refine E.CG.cond_f rfl ?_
    refine E.CG.skip ?_
    refine E.QG.code ?_
    refine E.CG.seq ?_
    refine E.CG.heldH (none) (by kernel_rfl) fun v4 lD hh => ?_
    replace b2 := blk_below b2 lD
    replace L := below_step L lD
    clear lD
    have s_b2 := b2
    have s_L := L
    refine E.GH.take (i := 0) rfl (by kernel_rfl) (by kernel_rfl) (by kernel_rfl) (by intro c a d v w h; cases d <;> exact h) rfl rfl rfl (fun w' hS => (E.Runs.loads (cs := [.int .i64 H.teams, .int .i64 H.walk, .int .i64 H.early, .int .i64 H.foyer, .int .i64 H.dl, .int .i64 H.dh, .int .i64 H.cl, .int .i64 H.ch]) rfl rfl hu25 rfl info25s (blk_cells (blk_grown s_b2 hS E.nen)))) ?_
    refine E.GH.take (i := 1) rfl (by kernel_rfl) (by kernel_rfl) (by kernel_rfl) (by intro c a d v w h; cases d <;> exact h) rfl rfl rfl (fun w' hS => (E.Runs.loads (cs := [.int .i64 H.teams, .int .i64 H.walk, .int .i64 H.early, .int .i64 H.foyer, .int .i64 H.dl, .int .i64 H.dh, .int .i64 H.cl, .int .i64 H.ch]) rfl rfl hu25 rfl info25s (blk_cells (blk_grown s_b2 hS E.nen)))) ?_
    refine E.GH.take (i := 4) rfl (by kernel_rfl) (by kernel_rfl) (by kernel_rfl) (by intro c a d v w h; cases d <;> exact h) rfl rfl rfl (fun w' hS => (E.Runs.move rfl rfl)) ?_
    refine E.GH.take (i := 5) rfl (by kernel_rfl) (by kernel_rfl) (by kernel_rfl) (by intro c a d v w h; cases d <;> exact h) rfl rfl rfl (fun w' hS => (E.Runs.fieldAddr rfl rfl hu25 rfl (by assumption) rfl)) ?_
    refine E.GH.take (i := 6) rfl (by kernel_rfl) (by kernel_rfl) (by kernel_rfl) (by intro c a d v w h; cases d <;> exact h) rfl rfl rfl (fun w' hS => (E.Runs.load rfl rfl hu3 (by first | exact E.keeps hS (E.blkc (by assumption) rfl) (by first | exact E.nen | exact E.nes (by assumption) | exact E.nes (Ne.symm (by assumption))) | exact pw_cell_below (below_step s_L (E.belowG hS)) (by assumption)))) ?_
    refine E.GH.one (i := 2) (by kernel_rfl) rfl ?_
    refine E.GO.st rfl rfl rfl (E.ST.call rfl ent43 (E.evc rfl E.evn) ((late_calls H _).mono ?_))
    rintro e w18 ⟨rfl, l18⟩
    refine ⟨_, rfl, hh.trans (E.gbB l18), ?_⟩
    replace hh := hh.trans (E.gbB l18)
    replace b2 := blk_below b2 l18
    replace L := below_step L l18
    refine E.GH.one (i := 3) (by kernel_rfl) rfl ?_
    refine E.GO.st rfl rfl rfl (E.ST.call rfl ent58 (E.evc rfl (E.evc rfl E.evn)) ((begin_calls (pcL H) H _).mono ?_))
    rintro e w19 ⟨rfl, l19⟩
    refine ⟨_, rfl, hh.trans (E.gbB l19), ?_⟩
    replace hh := hh.trans (E.gbB l19)
    replace b2 := blk_below b2 l19
    replace L := below_step L l19
    refine E.GH.one (i := 7) (by kernel_rfl) rfl ?_
    refine E.GO.st rfl rfl rfl (E.ST.call rfl ent57 (E.evc rfl (E.evc rfl (E.evc rfl E.evn))) ((assign_low H (H.teams) V.1 (by have := V.1.1; omega) l 10000 (dayAt 6 4) A1 c1 _ w.heap.size (valid_slots V) morning_ok (by decide) (by omega) (Kd.C_below hr L) hc L.size).mono ?_))
    rintro e w23 ⟨v23, o23, rfl, R23, ho, l23⟩
    refine ⟨_, rfl, hh.trans (E.gbB l23), ?_⟩
    replace hh := hh.trans (E.gbB l23)
    replace b2 := blk_below b2 l23
    replace L := below_step L l23
    refine E.GH.take (i := 8) rfl (by kernel_rfl) (by kernel_rfl) (by kernel_rfl) (by intro c a d v w h; cases d <;> exact h) rfl rfl rfl (fun w' hS => (E.Runs.move rfl rfl)) ?_
    refine E.GH.take (i := 9) rfl (by kernel_rfl) (by kernel_rfl) (by kernel_rfl) (by intro c a d v w h; cases d <;> exact h) rfl rfl rfl (fun w' hS => (E.Runs.extract rfl rfl rfl)) ?_
    refine E.GH.take (i := 10) rfl (by kernel_rfl) (by kernel_rfl) (by kernel_rfl) (by intro c a d v w h; cases d <;> exact h) rfl rfl rfl (fun w' hS => (E.Runs.extract rfl rfl rfl)) ?_
    refine E.GH.take (i := 11) rfl (by kernel_rfl) (by kernel_rfl) (by kernel_rfl) (by intro c a d v w h; cases d <;> exact h) rfl rfl rfl (fun w' hS => (E.Runs.assign rfl rfl)) ?_
    refine E.GH.take (i := 12) rfl (by kernel_rfl) (by kernel_rfl) (by kernel_rfl) (by intro c a d v w h; cases d <;> exact h) rfl rfl rfl (fun w' hS => (E.Runs.assign rfl rfl)) ?_
    refine E.GH.done (by kernel_rfl) ?_
    refine E.QG.code ?_
    refine E.CG.seq ?_
    refine E.CG.seq ?_
    refine E.CG.list ?_
    rcases o23 with _ | us
    · have hE : asgE H l = 3 := by simp only [asgE, if_pos h13, if_neg (asg_cannot ho)]
      refine E.GL.run rfl rfl rfl (E.Runs.move rfl rfl) ?_
      refine E.GL.run rfl rfl rfl (E.Runs.not rfl rfl) ?_
      refine E.GL.done ?_
      refine E.QG.code ?_
      refine E.CG.cond_t rfl ?_
      refine E.CG.seq ?_
      refine E.CG.list ?_
      refine E.GL.run rfl rfl rfl (E.Runs.assign rfl rfl) ?_
      refine E.GL.run rfl rfl rfl (E.Runs.assign rfl rfl) ?_
      refine E.GL.done ?_
      refine E.QG.code ?_
      refine E.CG.ret ?_
      refine E.QG.pass_ret ?_
      exact E.QG.result2 rfl rfl rfl ⟨_, [], by rw [hE], Kd.R_nil _ _ _ _ _, fun _ => rfl, (fun h => by rw [hE] at h; exact absurd h (by decide)), L⟩
    · have hE : asgE H l = 0 := by simp only [asgE, if_pos h13, if_pos (asg_can ho)]
      refine E.GL.run rfl rfl rfl (E.Runs.move rfl rfl) ?_
      refine E.GL.run rfl rfl rfl (E.Runs.not rfl rfl) ?_
      refine E.GL.done ?_
      refine E.QG.code ?_
      refine E.CG.cond_f rfl ?_
      refine E.CG.skip ?_
      refine E.QG.code ?_
      refine E.CG.seq ?_
      refine E.CG.list ?_
      refine E.GL.run rfl rfl rfl (E.Runs.move rfl rfl) ?_
      refine E.GL.run rfl rfl rfl (E.Runs.assign rfl rfl) ?_
      refine E.GL.run rfl rfl rfl (E.Runs.assign rfl rfl) ?_
      refine E.GL.done ?_
      refine E.QG.code ?_
      refine E.CG.ret ?_
      exact E.QG.result2 rfl rfl rfl ⟨v23, us, by rw [hE]; rfl, R23, (fun h => absurd hE h), fun _ => ho.1 _ rfl, L⟩

set_option maxRecDepth 100000 in
set_option maxHeartbeats 8000000 in

theorem fewest_own (H : Hs) (l : List S36) (A1 : Option Addr) (c1 : Nat) (w : World) (hl : l.length ≤ 1000000000000) (hr : Kd.C k36 w A1 l.length l) (hc : l.length ≤ c1) :
    Calls Try.prog 36 #[hv H, .slice A1 l.length c1] w fun e w' => e = .returned (.tuple #[.int .i64 (fewE H l).1, .int .i64 (fewE H l).2]) ∧ Below w.heap.size w w' := by
  have hu3 := Try.underlying3
  have hu25 := Try.underlying25
  have hu26 := Try.underlying26
  obtain ⟨z3, o3⟩ := info_some info3s (by decide)
  obtain ⟨z36, o36⟩ := info_some info36s (by decide)
  refine E.enter (N := 34) Try.func36 rfl Try.ntmps36 (args := [hv H, .slice A1 l.length c1]) (by simp) ?_
  have L := Below.refl w.heap.size w
  refine E.CG.seq ?_
  refine E.CG.list ?_
  refine E.GL.st rfl rfl rfl (E.ST.box rfl rfl fun g2 w2 e2 b2 l2 => ?_)
  have h2_L : w.heap.size ≤ g2 := by rw [e2]; exact L.size
  replace L := below_step L l2
  refine E.GL.run rfl rfl rfl (E.Runs.assign rfl rfl) ?_
  refine E.GL.run rfl rfl rfl (E.Runs.assign rfl rfl) ?_
  refine E.GL.done ?_
  refine E.QG.code ?_
  refine E.CG.seq ?_
  refine E.CG.seq ?_
  refine E.CG.list ?_
  refine E.GL.run rfl rfl rfl (E.Runs.loads (cs := [.int .i64 H.teams, .int .i64 H.walk, .int .i64 H.early, .int .i64 H.foyer, .int .i64 H.dl, .int .i64 H.dh, .int .i64 H.cl, .int .i64 H.ch]) rfl rfl hu25 rfl info25s (blk_cells b2)) ?_
  refine E.GL.run rfl rfl rfl (E.Runs.move rfl rfl) ?_
  refine E.GL.st rfl rfl rfl (E.ST.call rfl ent29 (E.evc rfl (E.evc rfl E.evn)) ((check_calls H l A1 c1 _ hl (Kd.C_below hr L) hc).mono ?_))
  rintro e w12 ⟨rfl, l12⟩
  refine ⟨_, rfl, ?_⟩
  replace b2 := blk_below b2 l12
  replace L := below_step L l12
  refine E.GL.run rfl rfl rfl (E.Runs.assign rfl rfl) ?_
  refine E.GL.done ?_
  refine E.QG.code ?_
  refine E.CG.seq ?_
  refine E.CG.list ?_
  refine E.GL.run rfl rfl rfl (E.Runs.move rfl rfl) ?_
  refine E.GL.cmpn rfl rfl rfl (fun _ h => (E.Runs.neq rfl rfl rfl h)) (fun h14 => ?_) (fun h14 => ?_)
  · refine E.GL.done ?_
    refine E.QG.code ?_
    refine E.CG.cond_t rfl ?_
    refine E.CG.seq ?_
    refine E.CG.list ?_
    refine E.GL.run rfl rfl rfl (E.Runs.move rfl rfl) ?_
    refine E.GL.run rfl rfl rfl (E.Runs.assign rfl rfl) ?_
    refine E.GL.run rfl rfl rfl (E.Runs.assign rfl rfl) ?_
    refine E.GL.done ?_
    refine E.QG.code ?_
    refine E.CG.ret ?_
    refine E.QG.pass_ret ?_
    exact E.QG.result2 rfl rfl rfl ⟨by simp only [fewE, if_neg h14], L⟩
  · have V := (checkE_valid H l).mp h14
    have hn := V.2.1
    refine E.GL.done ?_
    refine E.QG.code ?_
    refine E.CG.cond_f rfl ?_
    refine E.CG.skip ?_
    refine E.QG.code ?_
    refine E.CG.seq ?_
    refine E.CG.seq ?_
    refine E.CG.list ?_
    refine E.GL.run rfl rfl rfl (E.Runs.move rfl rfl) ?_
    refine E.GL.done ?_
    refine E.QG.code ?_
    refine E.CG.block ?_
    have s5_b2 := b2
    have s5_L := L
    refine E.CG.loop (fun (i : Nat) => [(1, .slice A1 l.length c1), (2, .pointer (some ⟨g2, 0, none⟩)), (16, .int .i64 i)]) (fun i w' => i ≤ 4 ∧ w'.heap[g2]? = some (.cells #[.int .i64 H.teams, .int .i64 H.walk, .int .i64 H.early, .int .i64 H.foyer, .int .i64 H.dl, .int .i64 H.dh, .int .i64 H.cl, .int .i64 H.ch] 25 (0, 0)) ∧ Below w.heap.size w w' ∧ fewFrom H l 4 1 = fewFrom H l (4 - i) ((i : Int) + 1)) (fun i => 4 - i) 0 (E.subc rfl (E.subc rfl (E.subc rfl (E.subn)))) ⟨Nat.zero_le _, b2, L, rfl⟩ ?_
    rintro i w5 ⟨hi, b2, L, hq⟩
    refine E.CG.seq ?_
    refine E.CG.list ?_
    refine E.GL.cmp rfl rfl rfl (fun _ h => (E.Runs.lss rfl rfl rfl h)) (fun h17 => ?_) (fun h17 => ?_)
    · have hi4 : i < 4 := by omega
      have hst := fewFrom_own (H := H) (l := l) hi4
      refine E.GL.done ?_
      refine E.QG.code ?_
      refine E.CG.seq ?_
      refine E.CG.cond_t rfl ?_
      refine E.CG.skip ?_
      refine E.QG.code ?_
      refine E.CG.seq ?_
      refine E.CG.block ?_
      refine E.CG.seq ?_
      refine E.CG.list ?_
      refine E.GL.run rfl rfl rfl (E.Runs.move rfl rfl) ?_
      refine E.GL.run rfl rfl rfl (E.Runs.assign rfl rfl) ?_
      refine E.GL.done ?_
      refine E.QG.code ?_
      refine E.CG.seq ?_
      refine E.CG.heldH (none) (by kernel_rfl) fun v7 lD hh => ?_
      replace b2 := blk_below b2 lD
      replace L := below_step L lD
      clear lD
      have s_b2 := b2
      have s_L := L
      refine E.GH.take (i := 0) rfl (by kernel_rfl) (by kernel_rfl) (by kernel_rfl) (by intro c a d v w h; cases d <;> exact h) rfl rfl rfl (fun w' hS => (E.Runs.loads (cs := [.int .i64 H.teams, .int .i64 H.walk, .int .i64 H.early, .int .i64 H.foyer, .int .i64 H.dl, .int .i64 H.dh, .int .i64 H.cl, .int .i64 H.ch]) rfl rfl hu25 rfl info25s (blk_cells (blk_grown s_b2 hS E.nen)))) ?_
      refine E.GH.take (i := 1) rfl (by kernel_rfl) (by kernel_rfl) (by kernel_rfl) (by intro c a d v w h; cases d <;> exact h) rfl rfl rfl (fun w' hS => (E.Runs.loads (cs := [.int .i64 H.teams, .int .i64 H.walk, .int .i64 H.early, .int .i64 H.foyer, .int .i64 H.dl, .int .i64 H.dh, .int .i64 H.cl, .int .i64 H.ch]) rfl rfl hu25 rfl info25s (blk_cells (blk_grown s_b2 hS E.nen)))) ?_
      refine E.GH.take (i := 4) rfl (by kernel_rfl) (by kernel_rfl) (by kernel_rfl) (by intro c a d v w h; cases d <;> exact h) rfl rfl rfl (fun w' hS => (E.Runs.move rfl rfl)) ?_
      refine E.GH.take (i := 5) rfl (by kernel_rfl) (by kernel_rfl) (by kernel_rfl) (by intro c a d v w h; cases d <;> exact h) rfl rfl rfl (fun w' hS => (E.Runs.move rfl rfl)) ?_
      refine E.GH.take (i := 6) rfl (by kernel_rfl) (by kernel_rfl) (by kernel_rfl) (by intro c a d v w h; cases d <;> exact h) rfl rfl rfl (fun w' hS => (E.Runs.add rfl rfl rfl (IntWalk.i64_in _ (by omega)))) ?_
      refine E.GH.one (i := 2) (by kernel_rfl) rfl ?_
      refine E.GO.st rfl rfl rfl (E.ST.call rfl ent43 (E.evc rfl E.evn) ((late_calls H _).mono ?_))
      rintro e w22 ⟨rfl, l22⟩
      refine ⟨_, rfl, hh.trans (E.gbB l22), ?_⟩
      replace hh := hh.trans (E.gbB l22)
      replace b2 := blk_below b2 l22
      replace L := below_step L l22
      refine E.GH.one (i := 3) (by kernel_rfl) rfl ?_
      refine E.GO.st rfl rfl rfl (E.ST.call rfl ent58 (E.evc rfl (E.evc rfl E.evn)) ((begin_calls (pcL H) H _).mono ?_))
      rintro e w23 ⟨rfl, l23⟩
      refine ⟨_, rfl, hh.trans (E.gbB l23), ?_⟩
      replace hh := hh.trans (E.gbB l23)
      replace b2 := blk_below b2 l23
      replace L := below_step L l23
      refine E.GH.one (i := 7) (by kernel_rfl) rfl ?_
      refine E.GO.st rfl rfl rfl (E.ST.call rfl ent57 (E.evc rfl (E.evc rfl (E.evc rfl E.evn))) ((assign_low H ((i : Int) + 1) V.1 (by have := V.1.1; omega) l 10000 (dayAt 6 4) A1 c1 _ w.heap.size (valid_slots V) morning_ok (by decide) (by omega) (Kd.C_below hr L) hc L.size).mono ?_))
      rintro e w27 ⟨v27, o27, rfl, R27, ho, l27⟩
      refine ⟨_, rfl, hh.trans (E.gbB l27), ?_⟩
      replace hh := hh.trans (E.gbB l27)
      replace b2 := blk_below b2 l27
      replace L := below_step L l27
      refine E.GH.take (i := 8) rfl (by kernel_rfl) (by kernel_rfl) (by kernel_rfl) (by intro c a d v w h; cases d <;> exact h) rfl rfl rfl (fun w' hS => (E.Runs.move rfl rfl)) ?_
      refine E.GH.take (i := 9) rfl (by kernel_rfl) (by kernel_rfl) (by kernel_rfl) (by intro c a d v w h; cases d <;> exact h) rfl rfl rfl (fun w' hS => (E.Runs.extract rfl rfl rfl)) ?_
      refine E.GH.take (i := 10) rfl (by kernel_rfl) (by kernel_rfl) (by kernel_rfl) (by intro c a d v w h; cases d <;> exact h) rfl rfl rfl (fun w' hS => (E.Runs.extract rfl rfl rfl)) ?_
      refine E.GH.take (i := 11) rfl (by kernel_rfl) (by kernel_rfl) (by kernel_rfl) (by intro c a d v w h; cases d <;> exact h) rfl rfl rfl (fun w' hS => (E.Runs.assign rfl rfl)) ?_
      refine E.GH.take (i := 12) rfl (by kernel_rfl) (by kernel_rfl) (by kernel_rfl) (by intro c a d v w h; cases d <;> exact h) rfl rfl rfl (fun w' hS => (E.Runs.assign rfl rfl)) ?_
      refine E.GH.done (by kernel_rfl) ?_
      refine E.QG.code ?_
      refine E.CG.seq ?_
      refine E.CG.list ?_
      rcases o27 with _ | us
      · refine E.GL.run rfl rfl rfl (E.Runs.move rfl rfl) ?_
        refine E.GL.done ?_
        refine E.QG.code ?_
        refine E.CG.cond_f rfl ?_
        refine E.CG.skip ?_
        refine E.QG.block_normal ?_
        refine E.QG.code ?_
        refine E.CG.list ?_
        refine E.GL.run rfl rfl rfl (E.Runs.add rfl rfl rfl (IntWalk.i64_in _ (by omega))) ?_
        refine E.GL.run rfl rfl rfl (E.Runs.move rfl rfl) ?_
        refine E.GL.done ?_
        exact E.QG.round (i + 1) (E.subc rfl (E.subc rfl (E.subc rfl E.subn))) ⟨by omega, b2, L, by rw [hq, hst, if_neg (asg_cannot ho)]⟩ (by omega)
      · refine E.GL.run rfl rfl rfl (E.Runs.move rfl rfl) ?_
        refine E.GL.done ?_
        refine E.QG.code ?_
        refine E.CG.cond_t rfl ?_
        refine E.CG.seq ?_
        refine E.CG.list ?_
        refine E.GL.run rfl rfl rfl (E.Runs.move rfl rfl) ?_
        refine E.GL.run rfl rfl rfl (E.Runs.add rfl rfl rfl (IntWalk.i64_in _ (by omega))) ?_
        refine E.GL.run rfl rfl rfl (E.Runs.assign rfl rfl) ?_
        refine E.GL.run rfl rfl rfl (E.Runs.assign rfl rfl) ?_
        refine E.GL.done ?_
        refine E.QG.code ?_
        refine E.CG.ret ?_
        refine E.QG.block_ret ?_
        refine E.QG.pass_ret ?_
        refine E.QG.pass_ret ?_
        refine E.QG.block_ret ?_
        refine E.QG.pass_ret ?_
        exact E.QG.result2 rfl rfl rfl ⟨by simp only [fewE, if_pos h14]; rw [hq, hst, if_pos (asg_can ho)], L⟩
    · refine E.GL.done ?_
      refine E.QG.code ?_
      refine E.CG.seq ?_
      refine E.CG.cond_f rfl ?_
      refine E.CG.exit ?_
      refine E.QG.pass_exit ?_
      refine E.QG.pass_exit ?_
      refine E.QG.block_here ?_
      refine E.QG.code ?_
      refine E.CG.seq ?_
      refine E.CG.list ?_
      refine E.GL.run rfl rfl rfl (E.Runs.assign rfl rfl) ?_
      refine E.GL.run rfl rfl rfl (E.Runs.assign rfl rfl) ?_
      refine E.GL.done ?_
      refine E.QG.code ?_
      refine E.CG.ret ?_
      exact E.QG.result2 rfl rfl rfl ⟨by simp only [fewE, if_pos h14]; rw [hq, show 4 - i = 0 by omega]; rfl, L⟩

/-- With teams of the house what was valid is valid. -/
theorem valid_with {H : Hs} {l : List S36} {ts : List Int} (h : Valid H l) (T : Tms H.teams l ts) : Valid H (withT l ts) := by
  refine ⟨h.1, by rw [withT_length]; exact h.2.1, fun j _ hj => ?_⟩
  have hjl : j < l.length := by rwa [withT_length] at hj
  obtain ⟨s, h1, h2, h3⟩ := withT_get l ts j _ (List.getElem?_eq_getElem hj)
  obtain ⟨hl, rfl⟩ := List.getElem?_eq_some_iff.1 h1
  obtain ⟨⟨s1, s2, s3, s4⟩, f1, f2, f3⟩ := h.2.2 j (Nat.zero_le _) hl
  have h4 : 0 ≤ ((withT l ts)[j]).f4 ∧ ((withT l ts)[j]).f4 < H.teams := by
    rcases h3 with ⟨_, h3⟩ | h3
    · have := T.1
      omega
    · exact T.2 _ (List.mem_of_getElem? h3)
  generalize (withT l ts)[j] = u at h2 h4
  rw [h2]
  refine ⟨⟨s1, s2, s3, by show 0 ≤ u.f4 ∧ u.f4 ≤ H.teams - 1; omega⟩, f1, fun hne => ?_, fun o ho => ?_⟩
  · rw [← withT_take] at hne ⊢
    have hp := List.length_pos_iff.mpr hne
    have hp' : 0 < (l.take j).length := by rwa [withT_length] at hp
    rw [rd36_last _ hp]
    have hg := List.getElem?_eq_getElem (l := withT (l.take j) (ts.take j)) (i := (withT (l.take j) (ts.take j)).length - 1) (by omega)
    obtain ⟨s', k1, k2, _⟩ := withT_get _ _ _ _ hg
    have := f2 (List.length_pos_iff.mp hp')
    rw [rd36_last _ hp'] at this
    rw [withT_length] at k1
    obtain ⟨_, rfl⟩ := List.getElem?_eq_some_iff.1 k1
    rw [k2]
    exact this
  · rw [← withT_take] at ho
    obtain ⟨i, hi⟩ := List.mem_iff_getElem?.mp ho
    obtain ⟨s', k1, k2, _⟩ := withT_get _ _ _ _ hi
    have := f3 s' (List.mem_of_getElem? k1)
    rw [k2]
    exact this
theorem with_late {H : Hs} {l : List S36} {ts : List Int} (h : Valid H l) (T : Tms H.teams l ts) (k : okT (pcL H) H (dayAt 6 4) (withT l ts)) : (lateE H (withT l ts)).1 = -1 ∧ (lateE H (withT l ts)).2.2 = 0 := by
  have hv := (checkE_valid H _).mpr (valid_with h T)
  simp only [lateE, if_pos hv]
  refine ⟨?_, trivial⟩
  rcases late_ok (pcL H) H (withT l ts) (dayAt 6 4) 0 (Int.le_refl _) with ⟨_, k2⟩ | ⟨k2, _⟩
  · exact k2
  · exact absurd k k2
set_option maxRecDepth 100000 in
set_option maxHeartbeats 8000000 in

theorem teams_law (H : Hs) (l : List S36) (A1 : Option Addr) (c1 : Nat) (w : World) (hr : Kd.C k36 w A1 l.length l) (hc : l.length ≤ c1) :
    Calls Try.prog 11 #[hv H, .slice A1 l.length c1] w fun e w' => e = .returned (.bool true) ∧ Below w.heap.size w w' := by
  have hu3 := Try.underlying3
  have hu25 := Try.underlying25
  have hu26 := Try.underlying26
  have hu47 := Try.underlying47
  obtain ⟨z3, o3⟩ := info_some info3s (by decide)
  obtain ⟨z36, o36⟩ := info_some info36s (by decide)
  refine E.enter (N := 99) Try.func11 rfl Try.ntmps11 (args := [hv H, .slice A1 l.length c1]) (by simp) ?_
  have L := Below.refl w.heap.size w
  refine E.CG.seq ?_
  refine E.CG.list ?_
  refine E.GL.st rfl rfl rfl (E.ST.box rfl rfl fun g2 w2 e2 b2 l2 => ?_)
  have h2_L : w.heap.size ≤ g2 := by rw [e2]; exact L.size
  replace L := below_step L l2
  refine E.GL.run rfl rfl rfl (E.Runs.assign rfl rfl) ?_
  refine E.GL.done ?_
  refine E.QG.code ?_
  refine E.CG.seq ?_
  refine E.CG.seq ?_
  refine E.CG.list ?_
  refine E.GL.run rfl rfl rfl (E.Runs.move rfl rfl) ?_
  by_cases h16 : 40 < l.length
  · refine E.GL.st rfl rfl rfl (E.ST.call rfl ent20 (E.evc rfl E.evn) ((far_row l A1 c1 true (iff_of_true rfl h16) _).mono ?_))
    rintro e w16 ⟨rfl, l16⟩
    refine ⟨_, rfl, ?_⟩
    replace b2 := blk_below b2 l16
    replace L := below_step L l16
    refine E.GL.run rfl rfl rfl (E.Runs.move rfl rfl) ?_
    refine E.GL.skip rfl rfl rfl ?_
    refine E.GL.skip rfl rfl rfl ?_
    refine E.GL.skip rfl rfl rfl ?_
    refine E.GL.skip rfl rfl rfl ?_
    refine E.GL.skip rfl rfl rfl ?_
    refine E.GL.skip rfl rfl rfl ?_
    refine E.GL.skip rfl rfl rfl ?_
    refine E.GL.skip rfl rfl rfl ?_
    refine E.GL.run rfl rfl rfl (E.Runs.pick_t rfl rfl rfl) ?_
    refine E.GL.done ?_
    refine E.QG.code ?_
    refine E.CG.cond_t rfl ?_
    refine E.CG.seq ?_
    refine E.CG.list ?_
    refine E.GL.st rfl rfl rfl (E.ST.call rfl ent14 E.evn ((works_calls _).mono ?_))
    rintro e w27 ⟨rfl, l27⟩
    refine ⟨_, rfl, ?_⟩
    replace b2 := blk_below b2 l27
    replace L := below_step L l27
    refine E.GL.run rfl rfl rfl (E.Runs.assign rfl rfl) ?_
    refine E.GL.done ?_
    refine E.QG.code ?_
    refine E.CG.ret ?_
    refine E.QG.pass_ret ?_
    exact E.QG.result rfl rfl ⟨rfl, L⟩
  · have hn : l.length ≤ 40 := by omega
    refine E.GL.st rfl rfl rfl (E.ST.call rfl ent20 (E.evc rfl E.evn) ((far_row l A1 c1 false (iff_of_false Bool.false_ne_true h16) _).mono ?_))
    rintro e w16 ⟨rfl, l16⟩
    refine ⟨_, rfl, ?_⟩
    replace b2 := blk_below b2 l16
    replace L := below_step L l16
    refine E.GL.run rfl rfl rfl (E.Runs.move rfl rfl) ?_
    refine E.GL.run rfl rfl rfl (E.Runs.move rfl rfl) ?_
    refine E.GL.run rfl rfl rfl (E.Runs.len rfl rfl hu26) ?_
    refine E.GL.cmp rfl rfl rfl (fun _ h => (E.Runs.gtr rfl rfl rfl h)) (fun h20 => ?_) (fun h20 => ?_)
    · refine E.GL.run rfl rfl rfl (E.Runs.move rfl rfl) ?_
      refine E.GL.run rfl rfl rfl (E.Runs.move rfl rfl) ?_
      refine E.GL.run rfl rfl rfl (E.Runs.len rfl rfl hu26) ?_
      refine E.GL.cmp rfl rfl rfl (fun _ h => (E.Runs.leq rfl rfl rfl h)) (fun h24 => ?_) (fun h24 => ?_)
      · refine E.GL.run rfl rfl rfl (E.Runs.pick_t rfl rfl rfl) ?_
        refine E.GL.run rfl rfl rfl (E.Runs.pick_f rfl rfl rfl) ?_
        refine E.GL.done ?_
        refine E.QG.code ?_
        refine E.CG.cond_t rfl ?_
        refine E.CG.seq ?_
        refine E.CG.list ?_
        refine E.GL.st rfl rfl rfl (E.ST.call rfl ent14 E.evn ((works_calls _).mono ?_))
        rintro e w27 ⟨rfl, l27⟩
        refine ⟨_, rfl, ?_⟩
        replace b2 := blk_below b2 l27
        replace L := below_step L l27
        refine E.GL.run rfl rfl rfl (E.Runs.assign rfl rfl) ?_
        refine E.GL.done ?_
        refine E.QG.code ?_
        refine E.CG.ret ?_
        refine E.QG.pass_ret ?_
        exact E.QG.result rfl rfl ⟨rfl, L⟩
      · refine E.GL.run rfl rfl rfl (E.Runs.pick_t rfl rfl rfl) ?_
        refine E.GL.run rfl rfl rfl (E.Runs.pick_f rfl rfl rfl) ?_
        refine E.GL.done ?_
        refine E.QG.code ?_
        refine E.CG.cond_f rfl ?_
        refine E.CG.skip ?_
        refine E.QG.code ?_
        refine E.CG.seq ?_
        refine E.CG.heldH (none) (by kernel_rfl) fun v3 lD hh => ?_
        replace b2 := blk_below b2 lD
        replace L := below_step L lD
        clear lD
        have s_b2 := b2
        have s_L := L
        refine E.GH.take (i := 0) rfl (by kernel_rfl) (by kernel_rfl) (by kernel_rfl) (by intro c a d v w h; cases d <;> exact h) rfl rfl rfl (fun w' hS => (E.Runs.loads (cs := [.int .i64 H.teams, .int .i64 H.walk, .int .i64 H.early, .int .i64 H.foyer, .int .i64 H.dl, .int .i64 H.dh, .int .i64 H.cl, .int .i64 H.ch]) rfl rfl hu25 rfl info25s (blk_cells (blk_grown s_b2 hS E.nen)))) ?_
        refine E.GH.take (i := 1) rfl (by kernel_rfl) (by kernel_rfl) (by kernel_rfl) (by intro c a d v w h; cases d <;> exact h) rfl rfl rfl (fun w' hS => (E.Runs.move rfl rfl)) ?_
        refine E.GH.one (i := 2) (by kernel_rfl) rfl ?_
        refine E.GO.st rfl rfl rfl (E.ST.call rfl ent18 (E.evc rfl E.evn) ((copied_row l A1 c1 _ (by omega) (Kd.C_below hr L) hc).mono ?_))
        rintro e w31 ⟨Ao, co, rfl, ko, ro, l31⟩
        refine ⟨_, rfl, hh.trans (E.gbB l31), ?_⟩
        replace hh := hh.trans (E.gbB l31)
        replace b2 := blk_below b2 l31
        replace L := below_step L l31
        have lo := Below.refl w31.heap.size w31
        refine E.GH.one (i := 3) (by kernel_rfl) rfl ?_
        refine E.GO.st rfl rfl rfl (E.ST.call rfl ent35 (E.evc rfl (E.evc rfl E.evn)) ((assign_own H l Ao co _ (by omega) (Kd.C_below ro lo) ko).mono ?_))
        rintro e w32 ⟨v32, ts, rfl, R32, ht1, ht2, l32⟩
        refine ⟨_, rfl, hh.trans (E.gbB l32), ?_⟩
        replace hh := hh.trans (E.gbB l32)
        replace b2 := blk_below b2 l32
        replace L := below_step L l32
        replace lo := below_step lo l32
        refine E.GH.take (i := 4) rfl (by kernel_rfl) (by kernel_rfl) (by kernel_rfl) (by intro c a d v w h; cases d <;> exact h) rfl rfl rfl (fun w' hS => (E.Runs.move rfl rfl)) ?_
        refine E.GH.take (i := 5) rfl (by kernel_rfl) (by kernel_rfl) (by kernel_rfl) (by intro c a d v w h; cases d <;> exact h) rfl rfl rfl (fun w' hS => (E.Runs.extract rfl rfl rfl)) ?_
        refine E.GH.take (i := 6) rfl (by kernel_rfl) (by kernel_rfl) (by kernel_rfl) (by intro c a d v w h; cases d <;> exact h) rfl rfl rfl (fun w' hS => (E.Runs.extract rfl rfl rfl)) ?_
        refine E.GH.take (i := 7) rfl (by kernel_rfl) (by kernel_rfl) (by kernel_rfl) (by intro c a d v w h; cases d <;> exact h) rfl rfl rfl (fun w' hS => (E.Runs.assign rfl rfl)) ?_
        refine E.GH.take (i := 8) rfl (by kernel_rfl) (by kernel_rfl) (by kernel_rfl) (by intro c a d v w h; cases d <;> exact h) rfl rfl rfl (fun w' hS => (E.Runs.assign rfl rfl)) ?_
        refine E.GH.done (by kernel_rfl) ?_
        refine E.QG.code ?_
        refine E.CG.seq ?_
        refine E.CG.heldH (none) (by kernel_rfl) fun v4 lD hh => ?_
        replace b2 := blk_below b2 lD
        replace R32 := Kd.R_below R32 lD
        replace L := below_step L lD
        replace lo := below_step lo lD
        clear lD
        have s_b2 := b2
        have s_L := L
        have s_lo := lo
        refine E.GH.take (i := 0) rfl (by kernel_rfl) (by kernel_rfl) (by kernel_rfl) (by intro c a d v w h; cases d <;> exact h) rfl rfl rfl (fun w' hS => (E.Runs.loads (cs := [.int .i64 H.teams, .int .i64 H.walk, .int .i64 H.early, .int .i64 H.foyer, .int .i64 H.dl, .int .i64 H.dh, .int .i64 H.cl, .int .i64 H.ch]) rfl rfl hu25 rfl info25s (blk_cells (blk_grown s_b2 hS E.nen)))) ?_
        refine E.GH.take (i := 1) rfl (by kernel_rfl) (by kernel_rfl) (by kernel_rfl) (by intro c a d v w h; cases d <;> exact h) rfl rfl rfl (fun w' hS => (E.Runs.move rfl rfl)) ?_
        refine E.GH.one (i := 2) (by kernel_rfl) rfl ?_
        refine E.GO.st rfl rfl rfl (E.ST.call rfl ent18 (E.evc rfl E.evn) ((copied_row l A1 c1 _ (by omega) (Kd.C_below hr L) hc).mono ?_))
        rintro e w38 ⟨Ap, cp, rfl, kp, rp, l38⟩
        refine ⟨_, rfl, hh.trans (E.gbB l38), ?_⟩
        replace hh := hh.trans (E.gbB l38)
        replace b2 := blk_below b2 l38
        replace R32 := Kd.R_below R32 l38
        replace L := below_step L l38
        replace lo := below_step lo l38
        have lp := Below.refl w38.heap.size w38
        refine E.GH.one (i := 3) (by kernel_rfl) rfl ?_
        refine E.GO.st rfl rfl rfl (E.ST.call rfl ent36 (E.evc rfl (E.evc rfl E.evn)) ((fewest_own H l Ap cp _ (by omega) (Kd.C_below rp lp) kp).mono ?_))
        rintro e w39 ⟨rfl, l39⟩
        refine ⟨_, rfl, hh.trans (E.gbB l39), ?_⟩
        replace hh := hh.trans (E.gbB l39)
        replace b2 := blk_below b2 l39
        replace R32 := Kd.R_below R32 l39
        replace L := below_step L l39
        replace lo := below_step lo l39
        replace lp := below_step lp l39
        refine E.GH.take (i := 4) rfl (by kernel_rfl) (by kernel_rfl) (by kernel_rfl) (by intro c a d v w h; cases d <;> exact h) rfl rfl rfl (fun w' hS => (E.Runs.move rfl rfl)) ?_
        refine E.GH.take (i := 5) rfl (by kernel_rfl) (by kernel_rfl) (by kernel_rfl) (by intro c a d v w h; cases d <;> exact h) rfl rfl rfl (fun w' hS => (E.Runs.extract rfl rfl rfl)) ?_
        refine E.GH.take (i := 6) rfl (by kernel_rfl) (by kernel_rfl) (by kernel_rfl) (by intro c a d v w h; cases d <;> exact h) rfl rfl rfl (fun w' hS => (E.Runs.extract rfl rfl rfl)) ?_
        refine E.GH.take (i := 7) rfl (by kernel_rfl) (by kernel_rfl) (by kernel_rfl) (by intro c a d v w h; cases d <;> exact h) rfl rfl rfl (fun w' hS => (E.Runs.assign rfl rfl)) ?_
        refine E.GH.take (i := 8) rfl (by kernel_rfl) (by kernel_rfl) (by kernel_rfl) (by intro c a d v w h; cases d <;> exact h) rfl rfl rfl (fun w' hS => (E.Runs.assign rfl rfl)) ?_
        refine E.GH.done (by kernel_rfl) ?_
        refine E.QG.code ?_
        refine E.CG.seq ?_
        obtain ⟨A32, c32, h32⟩ := Kd.R_slice R32
        subst h32
        refine E.CG.list ?_
        refine E.GL.run rfl rfl rfl (E.Runs.loads (cs := [.int .i64 H.teams, .int .i64 H.walk, .int .i64 H.early, .int .i64 H.foyer, .int .i64 H.dl, .int .i64 H.dh, .int .i64 H.cl, .int .i64 H.ch]) rfl rfl hu25 rfl info25s (blk_cells b2)) ?_
        refine E.GL.run rfl rfl rfl (E.Runs.move rfl rfl) ?_
        refine E.GL.st rfl rfl rfl (E.ST.call rfl ent37 (E.evc rfl (E.evc rfl E.evn)) ((fewest_ref H l A1 c1 _ (by omega) (Kd.C_below hr L) hc).mono ?_))
        rintro e w45 ⟨rfl, l45⟩
        refine ⟨_, rfl, ?_⟩
        replace b2 := blk_below b2 l45
        replace R32 := Kd.R_below R32 l45
        replace L := below_step L l45
        replace lo := below_step lo l45
        replace lp := below_step lp l45
        refine E.GL.run rfl rfl rfl (E.Runs.move rfl rfl) ?_
        refine E.GL.run rfl rfl rfl (E.Runs.extract rfl rfl rfl) ?_
        refine E.GL.run rfl rfl rfl (E.Runs.extract rfl rfl rfl) ?_
        refine E.GL.run rfl rfl rfl (E.Runs.assign rfl rfl) ?_
        refine E.GL.run rfl rfl rfl (E.Runs.assign rfl rfl) ?_
        refine E.GL.done ?_
        refine E.QG.code ?_
        refine E.CG.seq ?_
        refine E.CG.seq ?_
        refine E.CG.list ?_
        refine E.GL.run rfl rfl rfl (E.Runs.move rfl rfl) ?_
        refine E.GL.run rfl rfl rfl (E.Runs.loads (cs := [.int .i64 H.teams, .int .i64 H.walk, .int .i64 H.early, .int .i64 H.foyer, .int .i64 H.dl, .int .i64 H.dh, .int .i64 H.cl, .int .i64 H.ch]) rfl rfl hu25 rfl info25s (blk_cells b2)) ?_
        refine E.GL.run rfl rfl rfl (E.Runs.move rfl rfl) ?_
        refine E.GL.st rfl rfl rfl (E.ST.call rfl ent38 (E.evc rfl (E.evc rfl E.evn)) ((checkAsg_ref H l A1 c1 _ (by omega) (Kd.C_below hr L) hc).mono ?_))
        rintro e w51 ⟨rfl, l51⟩
        refine ⟨_, rfl, ?_⟩
        replace b2 := blk_below b2 l51
        replace R32 := Kd.R_below R32 l51
        replace L := below_step L l51
        replace lo := below_step lo l51
        replace lp := below_step lp l51
        refine E.GL.run rfl rfl rfl (E.Runs.neq rfl rfl rfl (E.ne_f rfl)) ?_
        refine E.GL.run rfl rfl rfl (E.Runs.move rfl rfl) ?_
        refine E.GL.run rfl rfl rfl (E.Runs.move rfl rfl) ?_
        refine E.GL.cmpn rfl rfl rfl (fun _ h => (E.Runs.neq rfl rfl rfl h)) (fun h55 => ?_) (fun h55 => ?_)
        · have hts := ht1 h55
          subst hts
          refine E.GL.run rfl rfl rfl (E.Runs.move rfl rfl) ?_
          refine E.GL.run rfl rfl rfl (E.Runs.move rfl rfl) ?_
          refine E.GL.run rfl rfl rfl (E.Runs.len rfl rfl hu47) ?_
          refine E.GL.run rfl rfl rfl (E.Runs.gtr rfl rfl rfl (decide_eq_false (by simp))) ?_
          refine E.GL.run rfl rfl rfl (E.Runs.pick_t rfl rfl rfl) ?_
          refine E.GL.run rfl rfl rfl (E.Runs.pick_f rfl rfl rfl) ?_
          refine E.GL.run rfl rfl rfl (E.Runs.move rfl rfl) ?_
          refine E.GL.run rfl rfl rfl (E.Runs.move rfl rfl) ?_
          refine E.GL.run rfl rfl rfl (E.Runs.move rfl rfl) ?_
          refine E.GL.run rfl rfl rfl (E.Runs.neq rfl rfl rfl (E.ne_f rfl)) ?_
          refine E.GL.run rfl rfl rfl (E.Runs.pick_f rfl rfl rfl) ?_
          refine E.GL.run rfl rfl rfl (E.Runs.move rfl rfl) ?_
          refine E.GL.run rfl rfl rfl (E.Runs.move rfl rfl) ?_
          refine E.GL.run rfl rfl rfl (E.Runs.move rfl rfl) ?_
          refine E.GL.run rfl rfl rfl (E.Runs.neq rfl rfl rfl (E.ne_f rfl)) ?_
          refine E.GL.run rfl rfl rfl (E.Runs.pick_f rfl rfl rfl) ?_
          refine E.GL.done ?_
          refine E.QG.code ?_
          refine E.CG.cond_f rfl ?_
          refine E.CG.skip ?_
          refine E.QG.code ?_
          refine E.CG.seq ?_
          refine E.CG.seq ?_
          refine E.CG.list ?_
          refine E.GL.run rfl rfl rfl (E.Runs.move rfl rfl) ?_
          refine E.GL.run rfl rfl rfl (E.Runs.neq rfl rfl rfl (E.ne_t h55)) ?_
          refine E.GL.done ?_
          refine E.QG.code ?_
          refine E.CG.cond_t rfl ?_
          refine E.CG.seq ?_
          refine E.CG.list ?_
          refine E.GL.st rfl rfl rfl (E.ST.call rfl ent14 E.evn ((works_calls _).mono ?_))
          rintro e w74 ⟨rfl, l74⟩
          refine ⟨_, rfl, ?_⟩
          replace b2 := blk_below b2 l74
          replace R32 := Kd.R_below R32 l74
          replace L := below_step L l74
          replace lo := below_step lo l74
          replace lp := below_step lp l74
          refine E.GL.run rfl rfl rfl (E.Runs.assign rfl rfl) ?_
          refine E.GL.done ?_
          refine E.QG.code ?_
          refine E.CG.ret ?_
          refine E.QG.pass_ret ?_
          exact E.QG.result rfl rfl ⟨rfl, L⟩
        · obtain ⟨T, hok⟩ := ht2 h55
          refine E.GL.run rfl rfl rfl (E.Runs.move rfl rfl) ?_
          refine E.GL.skip rfl rfl rfl ?_
          refine E.GL.skip rfl rfl rfl ?_
          refine E.GL.skip rfl rfl rfl ?_
          refine E.GL.run rfl rfl rfl (E.Runs.pick_f rfl rfl rfl) ?_
          refine E.GL.run rfl rfl rfl (E.Runs.pick_f rfl rfl rfl) ?_
          refine E.GL.run rfl rfl rfl (E.Runs.move rfl rfl) ?_
          refine E.GL.run rfl rfl rfl (E.Runs.move rfl rfl) ?_
          refine E.GL.run rfl rfl rfl (E.Runs.move rfl rfl) ?_
          refine E.GL.run rfl rfl rfl (E.Runs.neq rfl rfl rfl (E.ne_f rfl)) ?_
          refine E.GL.run rfl rfl rfl (E.Runs.pick_f rfl rfl rfl) ?_
          refine E.GL.run rfl rfl rfl (E.Runs.move rfl rfl) ?_
          refine E.GL.run rfl rfl rfl (E.Runs.move rfl rfl) ?_
          refine E.GL.run rfl rfl rfl (E.Runs.move rfl rfl) ?_
          refine E.GL.run rfl rfl rfl (E.Runs.neq rfl rfl rfl (E.ne_f rfl)) ?_
          refine E.GL.run rfl rfl rfl (E.Runs.pick_f rfl rfl rfl) ?_
          refine E.GL.done ?_
          refine E.QG.code ?_
          refine E.CG.cond_f rfl ?_
          refine E.CG.skip ?_
          refine E.QG.code ?_
          refine E.CG.seq ?_
          refine E.CG.seq ?_
          refine E.CG.list ?_
          refine E.GL.run rfl rfl rfl (E.Runs.move rfl rfl) ?_
          refine E.GL.run rfl rfl rfl (E.Runs.neq rfl rfl rfl (E.ne_f h55)) ?_
          refine E.GL.done ?_
          refine E.QG.code ?_
          refine E.CG.cond_f rfl ?_
          refine E.CG.skip ?_
          refine E.QG.code ?_
          refine E.CG.seq ?_
          refine E.CG.seq ?_
          refine E.CG.list ?_
          refine E.GL.run rfl rfl rfl (E.Runs.move rfl rfl) ?_
          refine E.GL.run rfl rfl rfl (E.Runs.len rfl rfl hu47) ?_
          refine E.GL.run rfl rfl rfl (E.Runs.move rfl rfl) ?_
          refine E.GL.run rfl rfl rfl (E.Runs.len rfl rfl hu26) ?_
          refine E.GL.run rfl rfl rfl (E.Runs.neq rfl rfl rfl (E.ne_f (by have := T.1; omega))) ?_
          refine E.GL.done ?_
          refine E.QG.code ?_
          refine E.CG.cond_f rfl ?_
          refine E.CG.skip ?_
          refine E.QG.code ?_
          refine E.CG.seq ?_
          obtain ⟨_, _, C32⟩ := Kd.R_reads' R32
          have V : Valid H l := (checkE_valid H l).mp (by by_cases hv : checkE H l = 0; exact hv; simp only [asgE, if_neg hv] at h55; exact h55)
          refine E.CG.list ?_
          refine E.GL.run rfl rfl rfl (E.Runs.move rfl rfl) ?_
          refine E.GL.run rfl rfl rfl (E.Runs.move rfl rfl) ?_
          refine E.GL.st rfl rfl rfl (E.ST.call rfl ent39 (E.evc rfl (E.evc rfl E.evn)) ((with_row l ts A1 A32 c1 c32 _ (by omega) (Kd.C_below hr L) hc C32).mono ?_))
          rintro e w82 ⟨Aw, cw, rfl, kw, rw_, l82⟩
          refine ⟨_, rfl, ?_⟩
          replace b2 := blk_below b2 l82
          replace R32 := Kd.R_below R32 l82
          replace L := below_step L l82
          replace lo := below_step lo l82
          replace lp := below_step lp l82
          have lw := Below.refl w82.heap.size w82
          refine E.GL.run rfl rfl rfl (E.Runs.assign rfl rfl) ?_
          refine E.GL.done ?_
          refine E.QG.code ?_
          refine E.CG.seq ?_
          refine E.CG.seq ?_
          refine E.CG.list ?_
          refine E.GL.run rfl rfl rfl (E.Runs.loads (cs := [.int .i64 H.teams, .int .i64 H.walk, .int .i64 H.early, .int .i64 H.foyer, .int .i64 H.dl, .int .i64 H.dh, .int .i64 H.cl, .int .i64 H.ch]) rfl rfl hu25 rfl info25s (blk_cells b2)) ?_
          refine E.GL.run rfl rfl rfl (E.Runs.move rfl rfl) ?_
          refine E.GL.st rfl rfl rfl (E.ST.call rfl ent19 (E.evc rfl (E.evc rfl E.evn)) ((check_ref H (withT l ts) Aw cw _ (by rw [withT_length]; omega) (Kd.C_below rw_ lw) kw).mono ?_))
          rintro e w85 ⟨rfl, l85⟩
          refine ⟨_, rfl, ?_⟩
          replace b2 := blk_below b2 l85
          replace R32 := Kd.R_below R32 l85
          replace L := below_step L l85
          replace lo := below_step lo l85
          replace lp := below_step lp l85
          replace lw := below_step lw l85
          refine E.GL.run rfl rfl rfl (E.Runs.neq rfl rfl rfl (E.ne_f ((checkE_valid H _).mpr (valid_with V T)))) ?_
          refine E.GL.done ?_
          refine E.QG.code ?_
          refine E.CG.cond_f rfl ?_
          refine E.CG.skip ?_
          refine E.QG.code ?_
          refine E.CG.seq ?_
          refine E.CG.list ?_
          refine E.GL.run rfl rfl rfl (E.Runs.loads (cs := [.int .i64 H.teams, .int .i64 H.walk, .int .i64 H.early, .int .i64 H.foyer, .int .i64 H.dl, .int .i64 H.dh, .int .i64 H.cl, .int .i64 H.ch]) rfl rfl hu25 rfl info25s (blk_cells b2)) ?_
          refine E.GL.run rfl rfl rfl (E.Runs.move rfl rfl) ?_
          refine E.GL.st rfl rfl rfl (E.ST.call rfl ent31 (E.evc rfl (E.evc rfl E.evn)) ((late_ref H (withT l ts) Aw cw _ (by rw [withT_length]; omega) (Kd.C_below rw_ lw) kw).mono ?_))
          rintro e w90 ⟨rfl, l90⟩
          refine ⟨_, rfl, ?_⟩
          replace b2 := blk_below b2 l90
          replace R32 := Kd.R_below R32 l90
          replace L := below_step L l90
          replace lo := below_step lo l90
          replace lp := below_step lp l90
          replace lw := below_step lw l90
          refine E.GL.run rfl rfl rfl (E.Runs.move rfl rfl) ?_
          refine E.GL.run rfl rfl rfl (E.Runs.extract rfl rfl rfl) ?_
          refine E.GL.run rfl rfl rfl (E.Runs.extract rfl rfl rfl) ?_
          refine E.GL.run rfl rfl rfl (E.Runs.extract rfl rfl rfl) ?_
          refine E.GL.run rfl rfl rfl (E.Runs.assign rfl rfl) ?_
          refine E.GL.run rfl rfl rfl (E.Runs.assign rfl rfl) ?_
          refine E.GL.run rfl rfl rfl (E.Runs.assign rfl rfl) ?_
          refine E.GL.done ?_
          refine E.QG.code ?_
          refine E.CG.seq ?_
          refine E.CG.list ?_
          refine E.GL.run rfl rfl rfl (E.Runs.move rfl rfl) ?_
          refine E.GL.run rfl rfl rfl (E.Runs.eql rfl rfl rfl (decide_eq_true (with_late V T hok).1)) ?_
          refine E.GL.run rfl rfl rfl (E.Runs.move rfl rfl) ?_
          refine E.GL.st rfl rfl rfl (E.ST.call rfl ent14 E.evn ((works_calls _).mono ?_))
          rintro e w97 ⟨rfl, l97⟩
          refine ⟨_, rfl, ?_⟩
          replace b2 := blk_below b2 l97
          replace R32 := Kd.R_below R32 l97
          replace L := below_step L l97
          replace lo := below_step lo l97
          replace lp := below_step lp l97
          replace lw := below_step lw l97
          refine E.GL.run rfl rfl rfl (E.Runs.pick_t rfl rfl rfl) ?_
          refine E.GL.run rfl rfl rfl (E.Runs.assign rfl rfl) ?_
          refine E.GL.done ?_
          refine E.QG.code ?_
          refine E.CG.ret ?_
          exact E.QG.result rfl rfl ⟨rfl, L⟩
    · refine E.GL.run rfl rfl rfl (E.Runs.move rfl rfl) ?_
      refine E.GL.skip rfl rfl rfl ?_
      refine E.GL.skip rfl rfl rfl ?_
      refine E.GL.skip rfl rfl rfl ?_
      refine E.GL.run rfl rfl rfl (E.Runs.pick_f rfl rfl rfl) ?_
      refine E.GL.run rfl rfl rfl (E.Runs.pick_f rfl rfl rfl) ?_
      refine E.GL.done ?_
      refine E.QG.code ?_
      refine E.CG.cond_f rfl ?_
      refine E.CG.skip ?_
      refine E.QG.code ?_
      refine E.CG.seq ?_
      refine E.CG.heldH (none) (by kernel_rfl) fun v3 lD hh => ?_
      replace b2 := blk_below b2 lD
      replace L := below_step L lD
      clear lD
      have s_b2 := b2
      have s_L := L
      refine E.GH.take (i := 0) rfl (by kernel_rfl) (by kernel_rfl) (by kernel_rfl) (by intro c a d v w h; cases d <;> exact h) rfl rfl rfl (fun w' hS => (E.Runs.loads (cs := [.int .i64 H.teams, .int .i64 H.walk, .int .i64 H.early, .int .i64 H.foyer, .int .i64 H.dl, .int .i64 H.dh, .int .i64 H.cl, .int .i64 H.ch]) rfl rfl hu25 rfl info25s (blk_cells (blk_grown s_b2 hS E.nen)))) ?_
      refine E.GH.take (i := 1) rfl (by kernel_rfl) (by kernel_rfl) (by kernel_rfl) (by intro c a d v w h; cases d <;> exact h) rfl rfl rfl (fun w' hS => (E.Runs.move rfl rfl)) ?_
      refine E.GH.one (i := 2) (by kernel_rfl) rfl ?_
      refine E.GO.st rfl rfl rfl (E.ST.call rfl ent18 (E.evc rfl E.evn) ((copied_row l A1 c1 _ (by omega) (Kd.C_below hr L) hc).mono ?_))
      rintro e w31 ⟨Ao, co, rfl, ko, ro, l31⟩
      refine ⟨_, rfl, hh.trans (E.gbB l31), ?_⟩
      replace hh := hh.trans (E.gbB l31)
      replace b2 := blk_below b2 l31
      replace L := below_step L l31
      have lo := Below.refl w31.heap.size w31
      refine E.GH.one (i := 3) (by kernel_rfl) rfl ?_
      refine E.GO.st rfl rfl rfl (E.ST.call rfl ent35 (E.evc rfl (E.evc rfl E.evn)) ((assign_own H l Ao co _ (by omega) (Kd.C_below ro lo) ko).mono ?_))
      rintro e w32 ⟨v32, ts, rfl, R32, ht1, ht2, l32⟩
      refine ⟨_, rfl, hh.trans (E.gbB l32), ?_⟩
      replace hh := hh.trans (E.gbB l32)
      replace b2 := blk_below b2 l32
      replace L := below_step L l32
      replace lo := below_step lo l32
      refine E.GH.take (i := 4) rfl (by kernel_rfl) (by kernel_rfl) (by kernel_rfl) (by intro c a d v w h; cases d <;> exact h) rfl rfl rfl (fun w' hS => (E.Runs.move rfl rfl)) ?_
      refine E.GH.take (i := 5) rfl (by kernel_rfl) (by kernel_rfl) (by kernel_rfl) (by intro c a d v w h; cases d <;> exact h) rfl rfl rfl (fun w' hS => (E.Runs.extract rfl rfl rfl)) ?_
      refine E.GH.take (i := 6) rfl (by kernel_rfl) (by kernel_rfl) (by kernel_rfl) (by intro c a d v w h; cases d <;> exact h) rfl rfl rfl (fun w' hS => (E.Runs.extract rfl rfl rfl)) ?_
      refine E.GH.take (i := 7) rfl (by kernel_rfl) (by kernel_rfl) (by kernel_rfl) (by intro c a d v w h; cases d <;> exact h) rfl rfl rfl (fun w' hS => (E.Runs.assign rfl rfl)) ?_
      refine E.GH.take (i := 8) rfl (by kernel_rfl) (by kernel_rfl) (by kernel_rfl) (by intro c a d v w h; cases d <;> exact h) rfl rfl rfl (fun w' hS => (E.Runs.assign rfl rfl)) ?_
      refine E.GH.done (by kernel_rfl) ?_
      refine E.QG.code ?_
      refine E.CG.seq ?_
      refine E.CG.heldH (none) (by kernel_rfl) fun v4 lD hh => ?_
      replace b2 := blk_below b2 lD
      replace R32 := Kd.R_below R32 lD
      replace L := below_step L lD
      replace lo := below_step lo lD
      clear lD
      have s_b2 := b2
      have s_L := L
      have s_lo := lo
      refine E.GH.take (i := 0) rfl (by kernel_rfl) (by kernel_rfl) (by kernel_rfl) (by intro c a d v w h; cases d <;> exact h) rfl rfl rfl (fun w' hS => (E.Runs.loads (cs := [.int .i64 H.teams, .int .i64 H.walk, .int .i64 H.early, .int .i64 H.foyer, .int .i64 H.dl, .int .i64 H.dh, .int .i64 H.cl, .int .i64 H.ch]) rfl rfl hu25 rfl info25s (blk_cells (blk_grown s_b2 hS E.nen)))) ?_
      refine E.GH.take (i := 1) rfl (by kernel_rfl) (by kernel_rfl) (by kernel_rfl) (by intro c a d v w h; cases d <;> exact h) rfl rfl rfl (fun w' hS => (E.Runs.move rfl rfl)) ?_
      refine E.GH.one (i := 2) (by kernel_rfl) rfl ?_
      refine E.GO.st rfl rfl rfl (E.ST.call rfl ent18 (E.evc rfl E.evn) ((copied_row l A1 c1 _ (by omega) (Kd.C_below hr L) hc).mono ?_))
      rintro e w38 ⟨Ap, cp, rfl, kp, rp, l38⟩
      refine ⟨_, rfl, hh.trans (E.gbB l38), ?_⟩
      replace hh := hh.trans (E.gbB l38)
      replace b2 := blk_below b2 l38
      replace R32 := Kd.R_below R32 l38
      replace L := below_step L l38
      replace lo := below_step lo l38
      have lp := Below.refl w38.heap.size w38
      refine E.GH.one (i := 3) (by kernel_rfl) rfl ?_
      refine E.GO.st rfl rfl rfl (E.ST.call rfl ent36 (E.evc rfl (E.evc rfl E.evn)) ((fewest_own H l Ap cp _ (by omega) (Kd.C_below rp lp) kp).mono ?_))
      rintro e w39 ⟨rfl, l39⟩
      refine ⟨_, rfl, hh.trans (E.gbB l39), ?_⟩
      replace hh := hh.trans (E.gbB l39)
      replace b2 := blk_below b2 l39
      replace R32 := Kd.R_below R32 l39
      replace L := below_step L l39
      replace lo := below_step lo l39
      replace lp := below_step lp l39
      refine E.GH.take (i := 4) rfl (by kernel_rfl) (by kernel_rfl) (by kernel_rfl) (by intro c a d v w h; cases d <;> exact h) rfl rfl rfl (fun w' hS => (E.Runs.move rfl rfl)) ?_
      refine E.GH.take (i := 5) rfl (by kernel_rfl) (by kernel_rfl) (by kernel_rfl) (by intro c a d v w h; cases d <;> exact h) rfl rfl rfl (fun w' hS => (E.Runs.extract rfl rfl rfl)) ?_
      refine E.GH.take (i := 6) rfl (by kernel_rfl) (by kernel_rfl) (by kernel_rfl) (by intro c a d v w h; cases d <;> exact h) rfl rfl rfl (fun w' hS => (E.Runs.extract rfl rfl rfl)) ?_
      refine E.GH.take (i := 7) rfl (by kernel_rfl) (by kernel_rfl) (by kernel_rfl) (by intro c a d v w h; cases d <;> exact h) rfl rfl rfl (fun w' hS => (E.Runs.assign rfl rfl)) ?_
      refine E.GH.take (i := 8) rfl (by kernel_rfl) (by kernel_rfl) (by kernel_rfl) (by intro c a d v w h; cases d <;> exact h) rfl rfl rfl (fun w' hS => (E.Runs.assign rfl rfl)) ?_
      refine E.GH.done (by kernel_rfl) ?_
      refine E.QG.code ?_
      refine E.CG.seq ?_
      obtain ⟨A32, c32, h32⟩ := Kd.R_slice R32
      subst h32
      refine E.CG.list ?_
      refine E.GL.run rfl rfl rfl (E.Runs.loads (cs := [.int .i64 H.teams, .int .i64 H.walk, .int .i64 H.early, .int .i64 H.foyer, .int .i64 H.dl, .int .i64 H.dh, .int .i64 H.cl, .int .i64 H.ch]) rfl rfl hu25 rfl info25s (blk_cells b2)) ?_
      refine E.GL.run rfl rfl rfl (E.Runs.move rfl rfl) ?_
      refine E.GL.st rfl rfl rfl (E.ST.call rfl ent37 (E.evc rfl (E.evc rfl E.evn)) ((fewest_ref H l A1 c1 _ (by omega) (Kd.C_below hr L) hc).mono ?_))
      rintro e w45 ⟨rfl, l45⟩
      refine ⟨_, rfl, ?_⟩
      replace b2 := blk_below b2 l45
      replace R32 := Kd.R_below R32 l45
      replace L := below_step L l45
      replace lo := below_step lo l45
      replace lp := below_step lp l45
      refine E.GL.run rfl rfl rfl (E.Runs.move rfl rfl) ?_
      refine E.GL.run rfl rfl rfl (E.Runs.extract rfl rfl rfl) ?_
      refine E.GL.run rfl rfl rfl (E.Runs.extract rfl rfl rfl) ?_
      refine E.GL.run rfl rfl rfl (E.Runs.assign rfl rfl) ?_
      refine E.GL.run rfl rfl rfl (E.Runs.assign rfl rfl) ?_
      refine E.GL.done ?_
      refine E.QG.code ?_
      refine E.CG.seq ?_
      refine E.CG.seq ?_
      refine E.CG.list ?_
      refine E.GL.run rfl rfl rfl (E.Runs.move rfl rfl) ?_
      refine E.GL.run rfl rfl rfl (E.Runs.loads (cs := [.int .i64 H.teams, .int .i64 H.walk, .int .i64 H.early, .int .i64 H.foyer, .int .i64 H.dl, .int .i64 H.dh, .int .i64 H.cl, .int .i64 H.ch]) rfl rfl hu25 rfl info25s (blk_cells b2)) ?_
      refine E.GL.run rfl rfl rfl (E.Runs.move rfl rfl) ?_
      refine E.GL.st rfl rfl rfl (E.ST.call rfl ent38 (E.evc rfl (E.evc rfl E.evn)) ((checkAsg_ref H l A1 c1 _ (by omega) (Kd.C_below hr L) hc).mono ?_))
      rintro e w51 ⟨rfl, l51⟩
      refine ⟨_, rfl, ?_⟩
      replace b2 := blk_below b2 l51
      replace R32 := Kd.R_below R32 l51
      replace L := below_step L l51
      replace lo := below_step lo l51
      replace lp := below_step lp l51
      refine E.GL.run rfl rfl rfl (E.Runs.neq rfl rfl rfl (E.ne_f rfl)) ?_
      refine E.GL.run rfl rfl rfl (E.Runs.move rfl rfl) ?_
      refine E.GL.run rfl rfl rfl (E.Runs.move rfl rfl) ?_
      refine E.GL.cmpn rfl rfl rfl (fun _ h => (E.Runs.neq rfl rfl rfl h)) (fun h55 => ?_) (fun h55 => ?_)
      · have hts := ht1 h55
        subst hts
        refine E.GL.run rfl rfl rfl (E.Runs.move rfl rfl) ?_
        refine E.GL.run rfl rfl rfl (E.Runs.move rfl rfl) ?_
        refine E.GL.run rfl rfl rfl (E.Runs.len rfl rfl hu47) ?_
        refine E.GL.run rfl rfl rfl (E.Runs.gtr rfl rfl rfl (decide_eq_false (by simp))) ?_
        refine E.GL.run rfl rfl rfl (E.Runs.pick_t rfl rfl rfl) ?_
        refine E.GL.run rfl rfl rfl (E.Runs.pick_f rfl rfl rfl) ?_
        refine E.GL.run rfl rfl rfl (E.Runs.move rfl rfl) ?_
        refine E.GL.run rfl rfl rfl (E.Runs.move rfl rfl) ?_
        refine E.GL.run rfl rfl rfl (E.Runs.move rfl rfl) ?_
        refine E.GL.run rfl rfl rfl (E.Runs.neq rfl rfl rfl (E.ne_f rfl)) ?_
        refine E.GL.run rfl rfl rfl (E.Runs.pick_f rfl rfl rfl) ?_
        refine E.GL.run rfl rfl rfl (E.Runs.move rfl rfl) ?_
        refine E.GL.run rfl rfl rfl (E.Runs.move rfl rfl) ?_
        refine E.GL.run rfl rfl rfl (E.Runs.move rfl rfl) ?_
        refine E.GL.run rfl rfl rfl (E.Runs.neq rfl rfl rfl (E.ne_f rfl)) ?_
        refine E.GL.run rfl rfl rfl (E.Runs.pick_f rfl rfl rfl) ?_
        refine E.GL.done ?_
        refine E.QG.code ?_
        refine E.CG.cond_f rfl ?_
        refine E.CG.skip ?_
        refine E.QG.code ?_
        refine E.CG.seq ?_
        refine E.CG.seq ?_
        refine E.CG.list ?_
        refine E.GL.run rfl rfl rfl (E.Runs.move rfl rfl) ?_
        refine E.GL.run rfl rfl rfl (E.Runs.neq rfl rfl rfl (E.ne_t h55)) ?_
        refine E.GL.done ?_
        refine E.QG.code ?_
        refine E.CG.cond_t rfl ?_
        refine E.CG.seq ?_
        refine E.CG.list ?_
        refine E.GL.st rfl rfl rfl (E.ST.call rfl ent14 E.evn ((works_calls _).mono ?_))
        rintro e w74 ⟨rfl, l74⟩
        refine ⟨_, rfl, ?_⟩
        replace b2 := blk_below b2 l74
        replace R32 := Kd.R_below R32 l74
        replace L := below_step L l74
        replace lo := below_step lo l74
        replace lp := below_step lp l74
        refine E.GL.run rfl rfl rfl (E.Runs.assign rfl rfl) ?_
        refine E.GL.done ?_
        refine E.QG.code ?_
        refine E.CG.ret ?_
        refine E.QG.pass_ret ?_
        exact E.QG.result rfl rfl ⟨rfl, L⟩
      · obtain ⟨T, hok⟩ := ht2 h55
        refine E.GL.run rfl rfl rfl (E.Runs.move rfl rfl) ?_
        refine E.GL.skip rfl rfl rfl ?_
        refine E.GL.skip rfl rfl rfl ?_
        refine E.GL.skip rfl rfl rfl ?_
        refine E.GL.run rfl rfl rfl (E.Runs.pick_f rfl rfl rfl) ?_
        refine E.GL.run rfl rfl rfl (E.Runs.pick_f rfl rfl rfl) ?_
        refine E.GL.run rfl rfl rfl (E.Runs.move rfl rfl) ?_
        refine E.GL.run rfl rfl rfl (E.Runs.move rfl rfl) ?_
        refine E.GL.run rfl rfl rfl (E.Runs.move rfl rfl) ?_
        refine E.GL.run rfl rfl rfl (E.Runs.neq rfl rfl rfl (E.ne_f rfl)) ?_
        refine E.GL.run rfl rfl rfl (E.Runs.pick_f rfl rfl rfl) ?_
        refine E.GL.run rfl rfl rfl (E.Runs.move rfl rfl) ?_
        refine E.GL.run rfl rfl rfl (E.Runs.move rfl rfl) ?_
        refine E.GL.run rfl rfl rfl (E.Runs.move rfl rfl) ?_
        refine E.GL.run rfl rfl rfl (E.Runs.neq rfl rfl rfl (E.ne_f rfl)) ?_
        refine E.GL.run rfl rfl rfl (E.Runs.pick_f rfl rfl rfl) ?_
        refine E.GL.done ?_
        refine E.QG.code ?_
        refine E.CG.cond_f rfl ?_
        refine E.CG.skip ?_
        refine E.QG.code ?_
        refine E.CG.seq ?_
        refine E.CG.seq ?_
        refine E.CG.list ?_
        refine E.GL.run rfl rfl rfl (E.Runs.move rfl rfl) ?_
        refine E.GL.run rfl rfl rfl (E.Runs.neq rfl rfl rfl (E.ne_f h55)) ?_
        refine E.GL.done ?_
        refine E.QG.code ?_
        refine E.CG.cond_f rfl ?_
        refine E.CG.skip ?_
        refine E.QG.code ?_
        refine E.CG.seq ?_
        refine E.CG.seq ?_
        refine E.CG.list ?_
        refine E.GL.run rfl rfl rfl (E.Runs.move rfl rfl) ?_
        refine E.GL.run rfl rfl rfl (E.Runs.len rfl rfl hu47) ?_
        refine E.GL.run rfl rfl rfl (E.Runs.move rfl rfl) ?_
        refine E.GL.run rfl rfl rfl (E.Runs.len rfl rfl hu26) ?_
        refine E.GL.run rfl rfl rfl (E.Runs.neq rfl rfl rfl (E.ne_f (by have := T.1; omega))) ?_
        refine E.GL.done ?_
        refine E.QG.code ?_
        refine E.CG.cond_f rfl ?_
        refine E.CG.skip ?_
        refine E.QG.code ?_
        refine E.CG.seq ?_
        obtain ⟨_, _, C32⟩ := Kd.R_reads' R32
        have V : Valid H l := (checkE_valid H l).mp (by by_cases hv : checkE H l = 0; exact hv; simp only [asgE, if_neg hv] at h55; exact h55)
        refine E.CG.list ?_
        refine E.GL.run rfl rfl rfl (E.Runs.move rfl rfl) ?_
        refine E.GL.run rfl rfl rfl (E.Runs.move rfl rfl) ?_
        refine E.GL.st rfl rfl rfl (E.ST.call rfl ent39 (E.evc rfl (E.evc rfl E.evn)) ((with_row l ts A1 A32 c1 c32 _ (by omega) (Kd.C_below hr L) hc C32).mono ?_))
        rintro e w82 ⟨Aw, cw, rfl, kw, rw_, l82⟩
        refine ⟨_, rfl, ?_⟩
        replace b2 := blk_below b2 l82
        replace R32 := Kd.R_below R32 l82
        replace L := below_step L l82
        replace lo := below_step lo l82
        replace lp := below_step lp l82
        have lw := Below.refl w82.heap.size w82
        refine E.GL.run rfl rfl rfl (E.Runs.assign rfl rfl) ?_
        refine E.GL.done ?_
        refine E.QG.code ?_
        refine E.CG.seq ?_
        refine E.CG.seq ?_
        refine E.CG.list ?_
        refine E.GL.run rfl rfl rfl (E.Runs.loads (cs := [.int .i64 H.teams, .int .i64 H.walk, .int .i64 H.early, .int .i64 H.foyer, .int .i64 H.dl, .int .i64 H.dh, .int .i64 H.cl, .int .i64 H.ch]) rfl rfl hu25 rfl info25s (blk_cells b2)) ?_
        refine E.GL.run rfl rfl rfl (E.Runs.move rfl rfl) ?_
        refine E.GL.st rfl rfl rfl (E.ST.call rfl ent19 (E.evc rfl (E.evc rfl E.evn)) ((check_ref H (withT l ts) Aw cw _ (by rw [withT_length]; omega) (Kd.C_below rw_ lw) kw).mono ?_))
        rintro e w85 ⟨rfl, l85⟩
        refine ⟨_, rfl, ?_⟩
        replace b2 := blk_below b2 l85
        replace R32 := Kd.R_below R32 l85
        replace L := below_step L l85
        replace lo := below_step lo l85
        replace lp := below_step lp l85
        replace lw := below_step lw l85
        refine E.GL.run rfl rfl rfl (E.Runs.neq rfl rfl rfl (E.ne_f ((checkE_valid H _).mpr (valid_with V T)))) ?_
        refine E.GL.done ?_
        refine E.QG.code ?_
        refine E.CG.cond_f rfl ?_
        refine E.CG.skip ?_
        refine E.QG.code ?_
        refine E.CG.seq ?_
        refine E.CG.list ?_
        refine E.GL.run rfl rfl rfl (E.Runs.loads (cs := [.int .i64 H.teams, .int .i64 H.walk, .int .i64 H.early, .int .i64 H.foyer, .int .i64 H.dl, .int .i64 H.dh, .int .i64 H.cl, .int .i64 H.ch]) rfl rfl hu25 rfl info25s (blk_cells b2)) ?_
        refine E.GL.run rfl rfl rfl (E.Runs.move rfl rfl) ?_
        refine E.GL.st rfl rfl rfl (E.ST.call rfl ent31 (E.evc rfl (E.evc rfl E.evn)) ((late_ref H (withT l ts) Aw cw _ (by rw [withT_length]; omega) (Kd.C_below rw_ lw) kw).mono ?_))
        rintro e w90 ⟨rfl, l90⟩
        refine ⟨_, rfl, ?_⟩
        replace b2 := blk_below b2 l90
        replace R32 := Kd.R_below R32 l90
        replace L := below_step L l90
        replace lo := below_step lo l90
        replace lp := below_step lp l90
        replace lw := below_step lw l90
        refine E.GL.run rfl rfl rfl (E.Runs.move rfl rfl) ?_
        refine E.GL.run rfl rfl rfl (E.Runs.extract rfl rfl rfl) ?_
        refine E.GL.run rfl rfl rfl (E.Runs.extract rfl rfl rfl) ?_
        refine E.GL.run rfl rfl rfl (E.Runs.extract rfl rfl rfl) ?_
        refine E.GL.run rfl rfl rfl (E.Runs.assign rfl rfl) ?_
        refine E.GL.run rfl rfl rfl (E.Runs.assign rfl rfl) ?_
        refine E.GL.run rfl rfl rfl (E.Runs.assign rfl rfl) ?_
        refine E.GL.done ?_
        refine E.QG.code ?_
        refine E.CG.seq ?_
        refine E.CG.list ?_
        refine E.GL.run rfl rfl rfl (E.Runs.move rfl rfl) ?_
        refine E.GL.run rfl rfl rfl (E.Runs.eql rfl rfl rfl (decide_eq_true (with_late V T hok).1)) ?_
        refine E.GL.run rfl rfl rfl (E.Runs.move rfl rfl) ?_
        refine E.GL.st rfl rfl rfl (E.ST.call rfl ent14 E.evn ((works_calls _).mono ?_))
        rintro e w97 ⟨rfl, l97⟩
        refine ⟨_, rfl, ?_⟩
        replace b2 := blk_below b2 l97
        replace R32 := Kd.R_below R32 l97
        replace L := below_step L l97
        replace lo := below_step lo l97
        replace lp := below_step lp l97
        replace lw := below_step lw l97
        refine E.GL.run rfl rfl rfl (E.Runs.pick_t rfl rfl rfl) ?_
        refine E.GL.run rfl rfl rfl (E.Runs.assign rfl rfl) ?_
        refine E.GL.done ?_
        refine E.QG.code ?_
        refine E.CG.ret ?_
        exact E.QG.result rfl rfl ⟨rfl, L⟩

end Go.Proofs.Ythdbkhdiaehblaa.T
