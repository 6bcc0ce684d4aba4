/- Up to which hour: the walk of Until; equal rows, a copy of a lamp. -/
import Derived.Test.YtbajpjnloikpdaaP6
namespace Go.Proofs.Ytbajpjnloikpdaa.T
open Go.RowKit Go.Proofs.YtbajpjnloikpdaaW.PrintWords Go.Proofs.YtbajpjnloikpdaaW.PrintMore
open Go.Proofs.Ytbajpjnloikpdaa.P
set_option linter.unusedVariables false
set_option linter.unusedSimpArgs false

noncomputable def mayT (a b f ra : Int) (t : List Ln) : Int := t.foldl (fun m x => mx m (lastT (isK a b x) f ra)) (-1)
theorem mayT_step {a b f ra : Int} {t : List Ln} {i : Nat} {x : Ln} (hx : t[i]? = some x) : mayT a b f ra (t.take (i + 1)) = mx (mayT a b f ra (t.take i)) (lastT (isK a b x) f ra) := by
  unfold mayT
  rw [List.take_add_one, hx]
  simp [List.foldl_append]
noncomputable def sureT (a b f ra : Int) (t : List Ln) : Int := lastT (fun h => keepsT a b t h = 1) f ra
noncomputable def untilV (M : Lm) (h : Int) : Int × Int := if askE M h = 0 then (sureT M.nl M.nh h M.ra (truths M), mayT M.nl M.nh h M.ra (truths M)) else (0, 0)
set_option maxRecDepth 100000 in
set_option maxHeartbeats 8000000 in

theorem until_calls (M : Lm) (A : Option Addr) (c : Nat) (h : Int) (w : World) (hr : Kd.C k64 w A M.gs.length M.gs) (hn : M.gs.length ≤ 1000000) :
    Calls Try.prog 21 #[lv M A c, .int .i64 h] w fun e w' => e = .returned (.tuple #[.int .i64 (untilV M h).1, .int .i64 (untilV M h).2, .int .i64 (askE M h)]) ∧ Below w.heap.size w w' := by
  have hu3 := Try.underlying3
  have hu24 := Try.underlying24
  have hu26 := Try.underlying26
  have hu72 := Try.underlying72
  have hu80 := Try.underlying80
  obtain ⟨z3, o3⟩ := info_some info3s (by decide)
  obtain ⟨z72, o72⟩ := info_some info72s (by decide)
  obtain ⟨z80, o80⟩ := info_some info80s (by decide)
  refine E.enter (N := 40) Try.func21 rfl Try.ntmps21 (args := [lv M A c, .int .i64 h]) (by simp) ?_
  have L := Below.refl w.heap.size w
  refine E.CG.seq ?_
  refine E.CG.list ?_
  refine E.GL.st rfl rfl rfl (E.ST.box rfl rfl fun g2 w2 e2 b2 l2 => ?_)
  have h2_L : w.heap.size ≤ g2 := by rw [e2]; exact L.size
  replace L := below_step L l2
  refine E.GL.run rfl rfl rfl (E.Runs.assign rfl rfl) ?_
  refine E.GL.run rfl rfl rfl (E.Runs.assign rfl rfl) ?_
  refine E.GL.run rfl rfl rfl (E.Runs.assign rfl rfl) ?_
  refine E.GL.done ?_
  refine E.QG.code ?_
  refine E.CG.seq ?_
  refine E.CG.list ?_
  refine E.GL.run rfl rfl rfl (E.Runs.loads (cs := [.int .i64 M.fl, .int .i64 M.fh, .int .i64 M.al, .int .i64 M.ah, .int .i64 M.nl, .int .i64 M.nh, .int .i64 M.ra, .slice A M.gs.length c, .int .i64 M.wr]) rfl rfl hu26 rfl info26s (blk_cells b2)) ?_
  refine E.GL.run rfl rfl rfl (E.Runs.move rfl rfl) ?_
  refine E.GL.st rfl rfl rfl (E.ST.call rfl ent49 (E.evc rfl (E.evc rfl E.evn)) ((ask_calls M A c h _ (Kd.C_below hr L) hn).mono ?_))
  rintro e w13 ⟨v13, rfl, R13, l13⟩
  refine ⟨_, rfl, ?_⟩
  replace b2 := blk_below b2 l13
  replace L := below_step L l13
  have lo := Below.refl w13.heap.size w13
  obtain ⟨A13, c13, hv13⟩ := Kd.R_slice R13
  subst hv13
  obtain ⟨_, _, C13⟩ := Kd.R_reads' R13
  refine E.GL.run rfl rfl rfl (E.Runs.move rfl rfl) ?_
  refine E.GL.run rfl rfl rfl (E.Runs.extract rfl rfl rfl) ?_
  refine E.GL.run rfl rfl rfl (E.Runs.extract rfl rfl rfl) ?_
  refine E.GL.st rfl rfl rfl (E.ST.allocZ rfl info72z rfl fun g7 w7 e7 b7 l7 => ?_)
  have h7_L : w.heap.size ≤ g7 := by rw [e7]; exact L.size
  have h7_lo : w13.heap.size ≤ g7 := by rw [e7]; exact lo.size
  have n7_b2 : g2 ≠ g7 := by have := blk_lt b2; omega
  replace b2 := blk_below b2 l7
  replace L := below_step L l7
  replace lo := below_step lo l7
  refine E.GL.sn rfl rfl (E.ST.storeSl (cs := [.slice none 0 0]) rfl z72 o72 rfl rfl b7 rfl rfl fun wS c7 lS => ?_)
  replace b2 := blk_grown b2 lS (E.nes (by first | assumption | exact Ne.symm (by assumption)))
  replace L := E.below_own L h7_L lS
  replace lo := E.below_own lo h7_lo lS
  replace b7 := c7
  clear c7
  refine E.GL.run rfl rfl rfl (E.Runs.assign rfl rfl) ?_
  refine E.GL.done ?_
  refine E.QG.code ?_
  refine E.CG.seq ?_
  refine E.CG.seq ?_
  refine E.CG.list ?_
  refine E.GL.run rfl rfl rfl (E.Runs.move rfl rfl) ?_
  refine E.GL.cmpn rfl rfl rfl (fun _ h => (E.Runs.neq rfl rfl rfl h)) (fun h17 => ?_) (fun h17 => ?_)
  · refine E.GL.done ?_
    refine E.QG.code ?_
    refine E.CG.cond_t rfl ?_
    refine E.CG.seq ?_
    refine E.CG.list ?_
    refine E.GL.run rfl rfl rfl (E.Runs.move rfl rfl) ?_
    refine E.GL.run rfl rfl rfl (E.Runs.assign rfl rfl) ?_
    refine E.GL.run rfl rfl rfl (E.Runs.assign rfl rfl) ?_
    refine E.GL.run rfl rfl rfl (E.Runs.assign rfl rfl) ?_
    refine E.GL.done ?_
    refine E.QG.code ?_
    refine E.CG.ret ?_
    refine E.QG.pass_ret ?_
    exact E.QG.result3 rfl rfl rfl rfl ⟨by unfold untilV; rw [if_neg h17]; rfl, L⟩
  · obtain ⟨hV, hh, hpos⟩ := askE_ok (M := M) (h := h) (by omega)
    obtain ⟨hh0, hh1⟩ := hh
    have hf := truths_few hV.1
    have hT : askT M h = truths M := askT_0 (by omega)
    have hTl : (askT M h).length = (truths M).length := by rw [hT]
    have hok : ∀ x ∈ askT M h, PtOk x := fun x hx => truths_ok hV.1 (by rw [hT] at hx; exact hx)
    have hra0 : 0 ≤ M.ra := hV.1.2.2.2.1.1
    have hra1 : M.ra ≤ 40 := hV.1.2.2.2.1.2
    refine E.GL.done ?_
    refine E.QG.code ?_
    refine E.CG.cond_f rfl ?_
    refine E.CG.skip ?_
    refine E.QG.code ?_
    refine E.CG.seq ?_
    refine E.CG.list ?_
    refine E.GL.run rfl rfl rfl (E.Runs.move rfl rfl) ?_
    refine E.GL.run rfl rfl rfl (E.Runs.fieldAddr rfl rfl hu26 rfl (by assumption) rfl) ?_
    refine E.GL.run rfl rfl rfl (E.Runs.load rfl rfl hu3 (by first | assumption | exact E.blkc (by assumption) rfl | exact pw_cell_below L (by assumption) | exact pw_cell_below lo (by assumption))) ?_
    refine E.GL.run rfl rfl rfl (E.Runs.makeFunc rfl (E.evc rfl (E.evc rfl E.evn))) ?_
    refine E.GL.st rfl rfl rfl (E.ST.call rfl ent51 (E.evc rfl (E.evc rfl (E.evc rfl E.evn))) ((last_calls 52 [.pointer (some ⟨g7, 0, none⟩), .pointer (some ⟨g2, 0, none⟩)] (fun x => keepsT M.nl M.nh (askT M h) x = 1) h M.ra _ ent52 ⟨hh0, by omega⟩ ⟨by omega, by omega⟩ (fun x r W hr' k1 k2 lW => clo52 M (askT M h) A A13 c c13 g7 g2 x r hr' W (blk_below b7 lW) (blk_below b2 lW) (Kd.C_below C13 (below_step lo lW)) hok (by omega) (by omega) (by omega))).mono ?_))
    rintro e w23 ⟨rfl, l23⟩
    refine ⟨_, rfl, ?_⟩
    replace b2 := blk_below b2 l23
    replace b7 := blk_below b7 l23
    replace L := below_step L l23
    replace lo := below_step lo l23
    refine E.GL.run rfl rfl rfl (E.Runs.assign rfl rfl) ?_
    refine E.GL.done ?_
    refine E.QG.code ?_
    refine E.CG.seq ?_
    refine E.CG.list ?_
    refine E.GL.run rfl rfl rfl (E.Runs.assign rfl rfl) ?_
    refine E.GL.done ?_
    refine E.QG.code ?_
    refine E.CG.seq ?_
    refine E.CG.seq ?_
    refine E.CG.list ?_
    refine E.GL.run rfl rfl rfl (E.Runs.load1 rfl rfl hu72 rfl (by first | assumption | exact E.blkc (by assumption) rfl | exact pw_cell_below L (by assumption) | exact pw_cell_below lo (by assumption))) ?_
    refine E.GL.run rfl rfl rfl (E.Runs.len rfl rfl hu72) ?_
    refine E.GL.run rfl rfl rfl (E.Runs.move rfl rfl) ?_
    refine E.GL.done ?_
    refine E.QG.code ?_
    refine E.CG.block ?_
    have s7_b2 := b2
    have s7_b7 := b7
    have s7_L := L
    have s7_lo := lo
    refine E.CG.loop (fun (i : Nat) => [(1, .int .i64 h), (2, .pointer (some ⟨g2, 0, none⟩)), (4, .int .i64 (sureT M.nl M.nh h M.ra (askT M h))), (5, .int .i64 (mayT M.nl M.nh h M.ra ((askT M h).take i))), (24, .slice A13 (askT M h).length c13), (25, .int .i64 (askT M h).length), (26, .int .i64 i)]) (fun i w' => i ≤ (askT M h).length ∧ Below w23.heap.size w23 w') (fun i => (askT M h).length - i) 0 (E.subc rfl (E.subc rfl (E.subc rfl (E.subc rfl (E.subc rfl (E.subc rfl (E.subc rfl E.subn))))))) ⟨Nat.zero_le _, Below.refl _ _⟩ ?_
    rintro i w7 ⟨hi, lq⟩
    replace b2 := blk_below b2 lq
    replace b7 := blk_below b7 lq
    replace L := below_step L lq
    replace lo := below_step lo lq
    refine E.CG.seq ?_
    refine E.CG.list ?_
    refine E.GL.cmp rfl rfl rfl (fun _ h => (E.Runs.lss rfl rfl rfl h)) (fun h27 => ?_) (fun h27 => ?_)
    · obtain ⟨x, hx⟩ : ∃ x, (askT M h)[i]? = some x := ⟨_, List.getElem?_eq_getElem (by omega)⟩
      obtain ⟨ad, eA, X⟩ := line_at C13 hx
      refine E.GL.done ?_
      refine E.QG.code ?_
      refine E.CG.seq ?_
      refine E.CG.cond_t rfl ?_
      refine E.CG.skip ?_
      refine E.QG.code ?_
      refine E.CG.seq ?_
      refine E.CG.block ?_
      refine E.CG.seq ?_
      refine E.CG.list ?_
      refine E.GL.run rfl rfl rfl (E.Runs.indexAddrA rfl rfl rfl hu72 (by assumption) (by assumption) (by assumption) (by first | rfl | assumption) rfl) ?_
      refine E.GL.run rfl rfl rfl (E.Runs.loads (cs := [.int .i64 x.f0, .int .i64 x.f1]) rfl rfl hu80 rfl info80s ((X.below lo).cells)) ?_
      refine E.GL.st rfl rfl rfl (E.ST.alloc rfl info80z fun g9 w9 e9 b9 l9 => ?_)
      have h9_L : w.heap.size ≤ g9 := by rw [e9]; exact L.size
      have h9_lo : w13.heap.size ≤ g9 := by rw [e9]; exact lo.size
      have h9_lq : w23.heap.size ≤ g9 := by rw [e9]; exact lq.size
      have n9_b2 : g2 ≠ g9 := by have := blk_lt b2; omega
      have n9_b7 : g7 ≠ g9 := by have := blk_lt b7; omega
      replace b2 := blk_below b2 l9
      replace b7 := blk_below b7 l9
      replace L := below_step L l9
      replace lo := below_step lo l9
      replace lq := below_step lq l9
      refine E.GL.store_whole rfl rfl rfl rfl rfl b9 rfl info80s (two_one _ _) fun wS8_3 c9 lS8_3 => ?_
      replace b2 := blk_grown b2 lS8_3 (E.nes (by first | assumption | exact Ne.symm (by assumption)))
      replace b7 := blk_grown b7 lS8_3 (E.nes (by first | assumption | exact Ne.symm (by assumption)))
      replace L := E.below_own L h9_L lS8_3
      replace lo := E.below_own lo h9_lo lS8_3
      replace lq := E.below_own lq h9_lq lS8_3
      replace b9 := c9
      clear c9
      refine E.GL.done ?_
      refine E.QG.code ?_
      refine E.CG.list ?_
      refine E.GL.run rfl rfl rfl (E.Runs.move rfl rfl) ?_
      refine E.GL.run rfl rfl rfl (E.Runs.move rfl rfl) ?_
      refine E.GL.run rfl rfl rfl (E.Runs.fieldAddr rfl rfl hu26 rfl (by assumption) rfl) ?_
      refine E.GL.run rfl rfl rfl (E.Runs.load rfl rfl hu3 (by first | assumption | exact E.blkc (by assumption) rfl | exact pw_cell_below L (by assumption) | exact pw_cell_below lo (by assumption) | exact pw_cell_below lq (by assumption))) ?_
      refine E.GL.run rfl rfl rfl (E.Runs.makeFunc rfl (E.evc rfl (E.evc rfl E.evn))) ?_
      refine E.GL.st rfl rfl rfl (E.ST.call rfl ent51 (E.evc rfl (E.evc rfl (E.evc rfl E.evn))) ((last_calls 54 [.pointer (some ⟨g9, 0, none⟩), .pointer (some ⟨g2, 0, none⟩)] (isK M.nl M.nh x) h M.ra _ ent54 ⟨hh0, by omega⟩ ⟨by omega, by omega⟩ (fun y r W hr' k1 k2 lW => clo54 M x A c g9 g2 y r hr' W (blk_below b9 lW) (blk_below b2 lW) (hok x (List.mem_of_getElem? hx)) (by omega) (by omega))).mono ?_))
      rintro e w35 ⟨rfl, l35⟩
      refine ⟨_, rfl, ?_⟩
      replace b2 := blk_below b2 l35
      replace b7 := blk_below b7 l35
      replace b9 := blk_below b9 l35
      replace L := below_step L l35
      replace lo := below_step lo l35
      replace lq := below_step lq l35
      refine E.GL.run rfl rfl rfl (E.Runs.max rfl rfl rfl rfl) ?_
      refine E.GL.run rfl rfl rfl (E.Runs.assign rfl rfl) ?_
      refine E.GL.done ?_
      refine E.QG.block_normal ?_
      refine E.QG.code ?_
      refine E.CG.list ?_
      refine E.GL.run rfl rfl rfl (E.Runs.add rfl rfl rfl (IntWalk.i64_in _ (by omega))) ?_
      refine E.GL.run rfl rfl rfl (E.Runs.move rfl rfl) ?_
      refine E.GL.done ?_
      exact E.QG.round (i + 1) (E.subc rfl (E.subc rfl (E.subc rfl (E.subc (by rw [mayT_step hx]; rfl) (E.subc rfl (E.subc rfl (E.subc rfl E.subn))))))) ⟨by omega, lq⟩ (by omega)
    · obtain rfl : i = (askT M h).length := by omega
      refine E.GL.done ?_
      refine E.QG.code ?_
      refine E.CG.seq ?_
      refine E.CG.cond_f rfl ?_
      refine E.CG.exit ?_
      refine E.QG.pass_exit ?_
      refine E.QG.pass_exit ?_
      refine E.QG.block_here ?_
      refine E.QG.code ?_
      refine E.CG.seq ?_
      refine E.CG.list ?_
      refine E.GL.run rfl rfl rfl (E.Runs.move rfl rfl) ?_
      refine E.GL.run rfl rfl rfl (E.Runs.move rfl rfl) ?_
      refine E.GL.run rfl rfl rfl (E.Runs.assign rfl rfl) ?_
      refine E.GL.run rfl rfl rfl (E.Runs.assign rfl rfl) ?_
      refine E.GL.run rfl rfl rfl (E.Runs.assign rfl rfl) ?_
      refine E.GL.done ?_
      refine E.QG.code ?_
      refine E.CG.ret ?_
      exact E.QG.result3 rfl rfl rfl rfl ⟨by rw [List.take_length]; unfold untilV; rw [if_pos (by omega), show askE M h = 0 by omega, hT], L⟩

set_option maxRecDepth 100000 in
set_option maxHeartbeats 8000000 in

theorem same_calls (l k : List Int) (A A1 : Option Addr) (c c1 : Nat) (w : World) (r : Bool) (hb : r = true ↔ l = k) (h1 : Kd.C kI w A l.length l) (h2 : Kd.C kI w A1 k.length k) (hn : l.length ≤ 1000000) :
    Calls Try.prog 17 #[.slice A l.length c, .slice A1 k.length c1] w fun e w' => e = .returned (.bool r) ∧ Below w.heap.size w w' := by
  have hu3 := Try.underlying3
  have hu27 := Try.underlying27
  obtain ⟨z3, o3⟩ := info_some info3s (by decide)
  refine E.enter (N := 26) Try.func17 rfl Try.ntmps17 (args := [.slice A l.length c, .slice A1 k.length c1]) (by simp) ?_
  have L := Below.refl w.heap.size w
  refine E.CG.seq ?_
  refine E.CG.list ?_
  refine E.GL.run rfl rfl rfl (E.Runs.assign rfl rfl) ?_
  refine E.GL.done ?_
  refine E.QG.code ?_
  refine E.CG.seq ?_
  refine E.CG.seq ?_
  refine E.CG.list ?_
  refine E.GL.run rfl rfl rfl (E.Runs.move rfl rfl) ?_
  refine E.GL.run rfl rfl rfl (E.Runs.len rfl rfl hu27) ?_
  refine E.GL.run rfl rfl rfl (E.Runs.move rfl rfl) ?_
  refine E.GL.run rfl rfl rfl (E.Runs.len rfl rfl hu27) ?_
  refine E.GL.cmpn rfl rfl rfl (fun _ h => (E.Runs.neq rfl rfl rfl h)) (fun h10 => ?_) (fun h10 => ?_)
  · refine E.GL.done ?_
    refine E.QG.code ?_
    refine E.CG.cond_t rfl ?_
    refine E.CG.seq ?_
    refine E.CG.list ?_
    refine E.GL.run rfl rfl rfl (E.Runs.assign rfl rfl) ?_
    refine E.GL.done ?_
    refine E.QG.code ?_
    refine E.CG.ret ?_
    refine E.QG.pass_ret ?_
    exact E.QG.result rfl rfl ⟨by rw [bool_no hb (fun e => h10 (by rw [e]))], L⟩
  · refine E.GL.done ?_
    refine E.QG.code ?_
    refine E.CG.cond_f rfl ?_
    refine E.CG.skip ?_
    refine E.QG.code ?_
    refine E.CG.seq ?_
    refine E.CG.seq ?_
    refine E.CG.list ?_
    refine E.GL.run rfl rfl rfl (E.Runs.assign rfl rfl) ?_
    refine E.GL.done ?_
    refine E.QG.code ?_
    refine E.CG.block ?_
    have s4_L := L
    refine E.CG.loop (fun (i : Nat) => [(0, .slice A l.length c), (1, .slice A1 k.length c1), (5, .int .i64 i)]) (fun i w' => i ≤ l.length ∧ Below w.heap.size w w' ∧ ∀ j, j < i → l[j]? = k[j]?) (fun i => l.length - i) 0 (E.subc rfl (E.subc rfl (E.subc rfl E.subn))) ⟨Nat.zero_le _, L, fun j hj => by omega⟩ ?_
    rintro i w4 ⟨hi, L, hs⟩
    refine E.CG.seq ?_
    refine E.CG.seq ?_
    refine E.CG.list ?_
    refine E.GL.run rfl rfl rfl (E.Runs.move rfl rfl) ?_
    refine E.GL.run rfl rfl rfl (E.Runs.move rfl rfl) ?_
    refine E.GL.run rfl rfl rfl (E.Runs.len rfl rfl hu27) ?_
    refine E.GL.cmp rfl rfl rfl (fun _ h => (E.Runs.lss rfl rfl rfl h)) (fun h14 => ?_) (fun h14 => ?_)
    · obtain ⟨x, hx⟩ : ∃ x, l[i]? = some x := ⟨_, List.getElem?_eq_getElem (by omega)⟩
      obtain ⟨ad, eA, X⟩ := int_at h1 hx
      obtain ⟨y, hy⟩ : ∃ x, k[i]? = some x := ⟨_, List.getElem?_eq_getElem (by omega)⟩
      obtain ⟨ae, eB, Y⟩ := int_at h2 hy
      have hik : (i : Int) < l.length := by omega
      have hik2 : (i : Int) < k.length := by omega
      refine E.GL.done ?_
      refine E.QG.code ?_
      refine E.CG.cond_t rfl ?_
      refine E.CG.skip ?_
      refine E.QG.code ?_
      refine E.CG.seq ?_
      refine E.CG.block ?_
      refine E.CG.seq ?_
      refine E.CG.quietF (by kernel_rfl) rfl (by kernel_rfl) (by kernel_rfl) ?_
      refine E.GQ.run rfl rfl rfl (E.Runs.move rfl rfl) ?_
      refine E.GQ.run rfl rfl rfl (E.Runs.move rfl rfl) ?_
      refine E.GQ.run rfl rfl rfl (E.Runs.indexAddrA rfl rfl rfl hu27 (by assumption) (by assumption) (by assumption) (by first | rfl | assumption) rfl) ?_
      refine E.GQ.run rfl rfl rfl (E.Runs.load rfl rfl hu3 (by first | assumption | exact E.blkc (by assumption) rfl | exact pw_cell_below L (by assumption))) ?_
      refine E.GQ.run rfl rfl rfl (E.Runs.move rfl rfl) ?_
      refine E.GQ.run rfl rfl rfl (E.Runs.move rfl rfl) ?_
      refine E.GQ.run rfl rfl rfl (E.Runs.indexAddrA rfl rfl rfl hu27 (by assumption) (by assumption) (by assumption) (by first | rfl | assumption) rfl) ?_
      refine E.GQ.run rfl rfl rfl (E.Runs.load rfl rfl hu3 (by first | assumption | exact E.blkc (by assumption) rfl | exact pw_cell_below L (by assumption))) ?_
      refine E.GQ.cmpn rfl rfl rfl (fun _ h => (E.Runs.neq rfl rfl rfl h)) (fun h25 => ?_) (fun h25 => ?_)
      · refine E.GQ.doneB fun v6 lD => ?_
        replace L := below_step L lD
        clear lD
        refine E.QG.code ?_
        refine E.CG.cond_t rfl ?_
        refine E.CG.seq ?_
        refine E.CG.list ?_
        refine E.GL.run rfl rfl rfl (E.Runs.assign rfl rfl) ?_
        refine E.GL.done ?_
        refine E.QG.code ?_
        refine E.CG.ret ?_
        refine E.QG.block_ret ?_
        refine E.QG.pass_ret ?_
        refine E.QG.pass_ret ?_
        refine E.QG.block_ret ?_
        refine E.QG.pass_ret ?_
        exact E.QG.result rfl rfl ⟨by rw [bool_no hb (fun e => by subst e; rw [hx] at hy; cases hy; exact h25 rfl)], L⟩
      · refine E.GQ.doneB fun v6 lD => ?_
        replace L := below_step L lD
        clear lD
        refine E.QG.code ?_
        refine E.CG.cond_f rfl ?_
        refine E.CG.skip ?_
        refine E.QG.block_normal ?_
        refine E.QG.code ?_
        refine E.CG.list ?_
        refine E.GL.run rfl rfl rfl (E.Runs.move rfl rfl) ?_
        refine E.GL.run rfl rfl rfl (E.Runs.add rfl rfl rfl (IntWalk.i64_in _ (by omega))) ?_
        refine E.GL.run rfl rfl rfl (E.Runs.assign rfl rfl) ?_
        refine E.GL.done ?_
        exact E.QG.round (i + 1) (E.subc rfl (E.subc rfl (E.subc rfl E.subn))) ⟨by omega, L, fun j hj => (Nat.lt_or_ge j i).elim (hs j) (fun q => (show j = i by omega) ▸ (by rw [hx, hy, h25]))⟩ (by omega)
    · refine E.GL.done ?_
      refine E.QG.code ?_
      refine E.CG.cond_f rfl ?_
      refine E.CG.exit ?_
      refine E.QG.pass_exit ?_
      refine E.QG.pass_exit ?_
      refine E.QG.block_here ?_
      refine E.QG.code ?_
      refine E.CG.seq ?_
      refine E.CG.list ?_
      refine E.GL.run rfl rfl rfl (E.Runs.assign rfl rfl) ?_
      refine E.GL.done ?_
      refine E.QG.code ?_
      refine E.CG.ret ?_
      exact E.QG.result rfl rfl ⟨by rw [hb.mpr (List.ext_getElem? fun j => (Nat.lt_or_ge j i).elim (hs j) (fun q => by rw [List.getElem?_eq_none (by omega), List.getElem?_eq_none (by omega)]))], L⟩

end Go.Proofs.Ytbajpjnloikpdaa.T
