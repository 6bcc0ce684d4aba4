/- Late: the walk. -/
import Derived.Test.YthdbkhdiaehblaaT24
namespace Go.Proofs.Ythdbkhdiaehblaa.T
open Go.RowKit Go.Proofs.YthdbkhdiaehblaaW.PrintWords Go.Proofs.YthdbkhdiaehblaaW.PrintMore
open Go.Proofs.Ythdbkhdiaehblaa.P
set_option linter.unusedVariables false
/-- The first slot that is late, and by how much. -/
def lateT : List S36 → List Tm → Int → Int × Int
  | s :: l, t :: ts, i => if s.f1 < t.start then (i, t.start - s.f1) else lateT l ts (i + 1)
  | _, _, _ => (-1, 0)
/-- The cells of a row of minutes, at one place. -/
structure TmAt (w : World) (ad : Addr) (k : Nat) (t : Tm) : Prop where
  c0 : w.cell? (ad.add (k * 5)) = some (.int .i64 t.enter)
  c1 : w.cell? ⟨(ad.add (k * 5)).block, (ad.add (k * 5)).off + 1, none⟩ = some (.int .i64 t.seated)
  c2 : w.cell? ⟨(ad.add (k * 5)).block, (ad.add (k * 5)).off + 2, none⟩ = some (.int .i64 t.start)
  c3 : w.cell? ⟨(ad.add (k * 5)).block, (ad.add (k * 5)).off + 3, none⟩ = some (.int .i64 t.empty)
  c4 : w.cell? ⟨(ad.add (k * 5)).block, (ad.add (k * 5)).off + 4, none⟩ = some (.int .i64 t.ready)
theorem TmAt.below {w w' : World} {ad : Addr} {k : Nat} {t : Tm} (h : TmAt w ad k t) (hb : Below w.heap.size w w') : TmAt w' ad k t :=
  ⟨pw_cell_below hb h.c0, pw_cell_below hb h.c1, pw_cell_below hb h.c2, pw_cell_below hb h.c3, pw_cell_below hb h.c4⟩
theorem TmAt.cells {w : World} {ad : Addr} {k : Nat} {t : Tm} (h : TmAt w ad k t) (j : Nat) (v : Value) (hv : ([.int .i64 t.enter, .int .i64 t.seated, .int .i64 t.start, .int .i64 t.empty, .int .i64 t.ready] : List Value)[j]? = some v) : w.cell? ((ad.add (k * 5)).add j) = some v := by
  rcases j with _ | _ | _ | _ | _ | j
  · cases hv; exact h.c0
  · cases hv; exact h.c1
  · cases hv; exact h.c2
  · cases hv; exact h.c3
  · cases hv; exact h.c4
  · simp at hv
theorem tm_at {w : World} {A : Option Addr} {n : Nat} {ts : List Tm} (h : Kd.C kTm w A n ts) {i : Nat} {t : Tm} (hi : ts[i]? = some t) : ∃ ad, A = some ad ∧ TmAt w ad i t := by
  have hil : i < ts.length := (List.getElem?_eq_some_iff.1 hi).1
  have hn := Kd.C_len h
  obtain ⟨ad, e, m0, m1, m2, m3, m4⟩ := at_Tm h (i : Int) (by omega) (by omega)
  have hs : rd_Tm ts (i : Int) = t := by rw [rd_Tm_get _ _ hil]; rw [List.getElem?_eq_getElem hil] at hi; exact Option.some.inj hi
  rw [hs] at m0 m1 m2 m3 m4
  simp only [Int.toNat_natCast] at m0 m1 m2 m3 m4
  exact ⟨ad, e, m0, m1, m2, m3, m4⟩
theorem info83z : (Try.prog.info? 83).map (·.zero) = some (some (.agg #[(.int .i64 0), (.int .i64 0), (.int .i64 0), (.int .i64 0), (.int .i64 0)])) := by kernel_rfl
theorem lateT_step {l : List S36} {ts : List Tm} {k : Nat} {s : S36} {t : Tm} (hs : l[k]? = some s) (ht : ts[k]? = some t) (n : Int) : lateT (l.drop k) (ts.drop k) n = if s.f1 < t.start then (n, t.start - s.f1) else lateT (l.drop (k + 1)) (ts.drop (k + 1)) (n + 1) := by
  obtain ⟨h1, rfl⟩ := List.getElem?_eq_some_iff.1 hs
  obtain ⟨h2, rfl⟩ := List.getElem?_eq_some_iff.1 ht
  rw [List.drop_eq_getElem_cons h1, List.drop_eq_getElem_cons h2]
  rfl
/-- The last minutes of a day, as all of them are told. -/
abbrev lateDay (H : Hs) (l : List S36) : List Tm := allT (pcL H) H (dayAt 6 4) l
/-- The facts of one slot on the latest day. -/
theorem late_facts {H : Hs} {l : List S36} (h : Valid H l) {k : Nat} {s : S36} {t : Tm} (hs : l[k]? = some s) (ht : (lateDay H l)[k]? = some t) : DayFacts (rtOf (pcL H) H) (l.map (itOf (pcL H))) k (itOf (pcL H) s) t := by
  have hL : (l.map (itOf (pcL H)))[k]? = some (itOf (pcL H) s) := by rw [List.getElem?_map, hs]; rfl
  have XL : ∀ x ∈ l.map (itOf (pcL H)), ItOk x := by
    intro x hx
    obtain ⟨y, hy, rfl⟩ := List.mem_map.mp hx
    exact itL h.1 (valid_slots h y hy)
  rw [lateDay, allL_is h.1 (valid_slots h)] at ht
  exact dayT_facts (rtL h.1) XL hL ht
theorem late_bound {H : Hs} {l : List S36} (h : Valid H l) {k : Nat} {s : S36} {t : Tm} (hs : l[k]? = some s) (ht : (lateDay H l)[k]? = some t) : (0 ≤ s.f1 ∧ s.f1 ≤ 2000) ∧ s.f1 ≤ t.start ∧ t.start ≤ 100000 := by
  have F := late_facts h hs ht
  have S := valid_slots h s (List.mem_of_getElem? hs)
  have hk : k < l.length := (List.getElem?_eq_some_iff.1 hs).1
  have hn := h.2.1
  have f3 : s.f1 ≤ t.start := F.bs
  have f4 : t.start + s.f2.f1 ≤ t.empty := F.se
  have f5 : t.empty + H.ch ≤ t.ready := F.er
  have f6 := F.le
  obtain ⟨⟨k1, k2, k3, k4⟩, k5⟩ := S
  obtain ⟨h1, h2, h3, h4, h5, h6⟩ := h.1
  exact ⟨k5, f3, by omega⟩
set_option maxRecDepth 100000 in
set_option maxHeartbeats 40000000 in

theorem late_row (H : Hs) (l : List S36) (A1 : Option Addr) (c1 : Nat) (w : World) (h : Valid H l) (hr : Kd.C k36 w A1 l.length l) (hc : l.length ≤ c1) :
    Calls Try.prog 23 #[hv H, .slice A1 l.length c1] w fun e w' => e = .returned (.tuple #[.int .i64 (lateT l (lateDay H l) 0).1, .int .i64 (lateT l (lateDay H l) 0).2, .int .i64 0]) ∧ Below w.heap.size w w' := by
  have hu3 := Try.underlying3
  have hu25 := Try.underlying25
  have hu26 := Try.underlying26
  have hu36 := Try.underlying36
  have hu76 := Try.underlying76
  have hu83 := Try.underlying83
  obtain ⟨z3, o3⟩ := info_some info3s (by decide)
  obtain ⟨z36, o36⟩ := info_some info36s (by decide)
  obtain ⟨z83, o83⟩ := info_some info83s (by decide)
  have hE : checkE H l = 0 := (checkE_valid H l).mpr h
  have hn := h.2.1
  refine E.enter (N := 45) Try.func23 rfl Try.ntmps23 (args := [hv H, .slice A1 l.length c1]) (by simp) ?_
  have L := Below.refl w.heap.size w
  refine E.CG.seq ?_
  refine E.CG.list ?_
  refine E.GL.st rfl rfl rfl (E.ST.box rfl rfl fun g2 w2 e2 b2 l2 => ?_)
  have h2_L : w.heap.size ≤ g2 := by rw [e2]; exact L.size
  replace L := below_step L l2
  refine E.GL.run rfl rfl rfl (E.Runs.assign rfl rfl) ?_
  refine E.GL.run rfl rfl rfl (E.Runs.assign rfl rfl) ?_
  refine E.GL.run rfl rfl rfl (E.Runs.assign rfl rfl) ?_
  refine E.GL.done ?_
  refine E.QG.code ?_
  refine E.CG.seq ?_
  refine E.CG.seq ?_
  refine E.CG.list ?_
  refine E.GL.run rfl rfl rfl (E.Runs.loads (cs := [.int .i64 H.teams, .int .i64 H.walk, .int .i64 H.early, .int .i64 H.foyer, .int .i64 H.dl, .int .i64 H.dh, .int .i64 H.cl, .int .i64 H.ch]) rfl rfl hu25 rfl info25s (blk_cells b2)) ?_
  refine E.GL.run rfl rfl rfl (E.Runs.move rfl rfl) ?_
  refine E.GL.st rfl rfl rfl (E.ST.call rfl ent29 (E.evc rfl (E.evc rfl E.evn)) ((check_calls H l A1 c1 _ (by omega) (Kd.C_below hr L) hc).mono ?_))
  rintro e w12 ⟨rfl, l12⟩
  refine ⟨_, rfl, ?_⟩
  replace b2 := blk_below b2 l12
  replace L := below_step L l12
  rw [hE]
  refine E.GL.run rfl rfl rfl (E.Runs.assign rfl rfl) ?_
  refine E.GL.done ?_
  refine E.QG.code ?_
  refine E.CG.seq ?_
  refine E.CG.list ?_
  refine E.GL.run rfl rfl rfl (E.Runs.move rfl rfl) ?_
  refine E.GL.run rfl rfl rfl (E.Runs.neq rfl rfl rfl (E.ne_f rfl)) ?_
  refine E.GL.done ?_
  refine E.QG.code ?_
  refine E.CG.cond_f rfl ?_
  refine E.CG.skip ?_
  refine E.QG.code ?_
  refine E.CG.seq ?_
  refine E.CG.seq ?_
  refine E.CG.heldH (none) (by kernel_rfl) fun v4 lD hh => ?_
  replace b2 := blk_below b2 lD
  replace L := below_step L lD
  clear lD
  have s_b2 := b2
  have s_L := L
  refine E.GH.take (i := 0) rfl (by kernel_rfl) (by kernel_rfl) (by kernel_rfl) (by intro c a d v w h; cases d <;> exact h) rfl rfl rfl (fun w' hS => (E.Runs.loads (cs := [.int .i64 H.teams, .int .i64 H.walk, .int .i64 H.early, .int .i64 H.foyer, .int .i64 H.dl, .int .i64 H.dh, .int .i64 H.cl, .int .i64 H.ch]) rfl rfl hu25 rfl info25s (blk_cells (blk_grown s_b2 hS E.nen)))) ?_
  refine E.GH.take (i := 1) rfl (by kernel_rfl) (by kernel_rfl) (by kernel_rfl) (by intro c a d v w h; cases d <;> exact h) rfl rfl rfl (fun w' hS => (E.Runs.move rfl rfl)) ?_
  refine E.GH.take (i := 2) rfl (by kernel_rfl) (by kernel_rfl) (by kernel_rfl) (by intro c a d v w h; cases d <;> exact h) rfl rfl rfl (fun w' hS => (E.Runs.loads (cs := [.int .i64 H.teams, .int .i64 H.walk, .int .i64 H.early, .int .i64 H.foyer, .int .i64 H.dl, .int .i64 H.dh, .int .i64 H.cl, .int .i64 H.ch]) rfl rfl hu25 rfl info25s (blk_cells (blk_grown s_b2 hS E.nen)))) ?_
  refine E.GH.take (i := 6) rfl (by kernel_rfl) (by kernel_rfl) (by kernel_rfl) (by intro c a d v w h; cases d <;> exact h) rfl rfl rfl (fun w' hS => (E.Runs.move rfl rfl)) ?_
  refine E.GH.one (i := 3) (by kernel_rfl) rfl ?_
  refine E.GO.st rfl rfl rfl (E.ST.call rfl ent43 (E.evc rfl E.evn) ((late_calls H _).mono ?_))
  rintro e w19 ⟨rfl, l19⟩
  refine ⟨_, rfl, hh.trans (E.gbB l19), ?_⟩
  replace hh := hh.trans (E.gbB l19)
  replace b2 := blk_below b2 l19
  replace L := below_step L l19
  refine E.GH.one (i := 4) (by kernel_rfl) rfl ?_
  refine E.GO.st rfl rfl rfl (E.ST.call rfl ent41 (E.evc rfl (E.evc rfl (E.evc rfl E.evn))) ((all_late H l A1 c1 _ h.1 (valid_slots h) (by omega) (Kd.C_below hr L) hc).mono ?_))
  rintro e w20 ⟨A, c, rfl, k20, r20, l20⟩
  refine ⟨_, rfl, hh.trans (E.gbB l20), ?_⟩
  replace hh := hh.trans (E.gbB l20)
  replace b2 := blk_below b2 l20
  replace L := below_step L l20
  refine E.GH.take (i := 5) rfl (by kernel_rfl) (by kernel_rfl) (by kernel_rfl) (by intro c a d v w h; cases d <;> exact h) rfl rfl rfl (fun w' hS => (E.Runs.len rfl rfl hu76)) ?_
  refine E.GH.done (by kernel_rfl) ?_
  refine E.QG.code ?_
  refine E.CG.block ?_
  have s5_b2 := b2
  have s5_L := L
  refine E.CG.loop (fun (k : Nat) => [(1, .slice A1 l.length c1), (20, .slice A l.length c), (21, .int .i64 l.length), (22, .int .i64 k)]) (fun k w' => k ≤ l.length ∧ Below w20.heap.size w20 w' ∧ lateT l (lateDay H l) 0 = lateT (l.drop k) ((lateDay H l).drop k) k) (fun k => l.length - k) 0 (E.subc rfl (E.subc rfl (E.subc rfl (E.subc rfl (E.subn))))) ⟨Nat.zero_le _, Below.refl _ _, rfl⟩ ?_
  rintro k w5 ⟨hk, lq, hq⟩
  replace L := below_step L lq
  refine E.CG.seq ?_
  refine E.CG.list ?_
  refine E.GL.cmp rfl rfl rfl (fun _ h => (E.Runs.lss rfl rfl rfl h)) (fun h23 => ?_) (fun h23 => ?_)
  · have hlt : k < l.length := by omega
    obtain ⟨s, hs⟩ : ∃ s, l[k]? = some s := ⟨_, List.getElem?_eq_getElem hlt⟩
    obtain ⟨t, ht⟩ : ∃ t, (lateDay H l)[k]? = some t := ⟨_, List.getElem?_eq_getElem (by rw [allT_length]; exact hlt)⟩
    obtain ⟨ae, eB, T⟩ := tm_at r20 ht
    obtain ⟨ad, eA, S⟩ := slot_at hr hs
    subst eA eB
    have y1 := S.c1
    have bd := late_bound h hs ht
    refine E.GL.done ?_
    refine E.QG.code ?_
    refine E.CG.seq ?_
    refine E.CG.cond_t rfl ?_
    refine E.CG.skip ?_
    refine E.QG.code ?_
    refine E.CG.seq ?_
    refine E.CG.block ?_
    refine E.CG.seq ?_
    refine E.CG.list ?_
    refine E.GL.run rfl rfl rfl (E.Runs.move rfl rfl) ?_
    refine E.GL.run rfl rfl rfl (E.Runs.indexAddrA rfl rfl rfl hu76 (by assumption) (by assumption) (by assumption) (by first | rfl | assumption) rfl) ?_
    refine E.GL.run rfl rfl rfl (E.Runs.loads (cs := [.int .i64 t.enter, .int .i64 t.seated, .int .i64 t.start, .int .i64 t.empty, .int .i64 t.ready]) rfl rfl hu83 rfl info83s (E.cellsB lq T.cells)) ?_
    refine E.GL.st rfl rfl rfl (E.ST.alloc rfl info83z fun g9 w9 e9 b9 l9 => ?_)
    have h9_L : w.heap.size ≤ g9 := by rw [e9]; exact L.size
    have h9_lq : w20.heap.size ≤ g9 := by rw [e9]; exact lq.size
    replace L := below_step L l9
    replace lq := below_step lq l9
    refine E.GL.run rfl rfl rfl (E.Runs.assign rfl rfl) ?_
    refine E.GL.store_whole rfl rfl rfl rfl rfl b9 rfl info83s (five_one _ _ _ _ _) fun wS6_5 c9 lS6_5 => ?_
    replace L := E.below_own L h9_L lS6_5
    replace lq := E.below_own lq h9_lq lS6_5
    replace b9 := c9
    clear c9
    refine E.GL.done ?_
    refine E.QG.code ?_
    refine E.CG.seq ?_
    refine E.CG.quietF (by kernel_rfl) rfl (by kernel_rfl) (by kernel_rfl) ?_
    refine E.GQ.run rfl rfl rfl (E.Runs.fieldAddr rfl rfl hu83 rfl (by assumption) rfl) ?_
    refine E.GQ.run rfl rfl rfl (E.Runs.load rfl rfl hu3 (by first | assumption | exact E.blkc (by assumption) rfl | exact pw_cell_below L (by assumption) | exact pw_cell_below lq (by assumption))) ?_
    refine E.GQ.run rfl rfl rfl (E.Runs.move rfl rfl) ?_
    refine E.GQ.run rfl rfl rfl (E.Runs.move rfl rfl) ?_
    refine E.GQ.run rfl rfl rfl (E.Runs.indexAddrA rfl rfl rfl hu26 (by assumption) (by assumption) (by assumption) (by first | rfl | assumption) rfl) ?_
    refine E.GQ.run rfl rfl rfl (E.Runs.fieldAddr rfl rfl hu36 rfl (by assumption) rfl) ?_
    refine E.GQ.run rfl rfl rfl (E.Runs.load rfl rfl hu3 (by first | assumption | exact E.blkc (by assumption) rfl | exact pw_cell_below L (by assumption) | exact pw_cell_below lq (by assumption))) ?_
    refine E.GQ.cmp rfl rfl rfl (fun _ h => (E.Runs.gtr rfl rfl rfl h)) (fun h34 => ?_) (fun h34 => ?_)
    · refine E.GQ.doneB fun v7 lD => ?_
      replace b9 := blk_below b9 lD
      replace L := below_step L lD
      replace lq := below_step lq lD
      clear lD
      refine E.QG.code ?_
      refine E.CG.cond_t rfl ?_
      refine E.CG.seq ?_
      refine E.CG.quietF (by kernel_rfl) rfl (by kernel_rfl) (by kernel_rfl) ?_
      refine E.GQ.run rfl rfl rfl (E.Runs.move rfl rfl) ?_
      refine E.GQ.run rfl rfl rfl (E.Runs.fieldAddr rfl rfl hu83 rfl (by assumption) rfl) ?_
      refine E.GQ.run rfl rfl rfl (E.Runs.load rfl rfl hu3 (by first | assumption | exact E.blkc (by assumption) rfl | exact pw_cell_below L (by assumption) | exact pw_cell_below lq (by assumption))) ?_
      refine E.GQ.run rfl rfl rfl (E.Runs.move rfl rfl) ?_
      refine E.GQ.run rfl rfl rfl (E.Runs.move rfl rfl) ?_
      refine E.GQ.run rfl rfl rfl (E.Runs.indexAddrA rfl rfl rfl hu26 (by assumption) (by assumption) (by assumption) (by first | rfl | assumption) rfl) ?_
      refine E.GQ.run rfl rfl rfl (E.Runs.fieldAddr rfl rfl hu36 rfl (by assumption) rfl) ?_
      refine E.GQ.run rfl rfl rfl (E.Runs.load rfl rfl hu3 (by first | assumption | exact E.blkc (by assumption) rfl | exact pw_cell_below L (by assumption) | exact pw_cell_below lq (by assumption))) ?_
      refine E.GQ.run rfl rfl rfl (E.Runs.sub rfl rfl rfl (IntWalk.i64_in _ (by omega))) ?_
      refine E.GQ.run rfl rfl rfl (E.Runs.assign rfl rfl) ?_
      refine E.GQ.run rfl rfl rfl (E.Runs.assign rfl rfl) ?_
      refine E.GQ.run rfl rfl rfl (E.Runs.assign rfl rfl) ?_
      refine E.GQ.doneB fun v8 lD => ?_
      replace b9 := blk_below b9 lD
      replace L := below_step L lD
      replace lq := below_step lq lD
      clear lD
      refine E.QG.code ?_
      refine E.CG.ret ?_
      refine E.QG.block_ret ?_
      refine E.QG.pass_ret ?_
      refine E.QG.pass_ret ?_
      refine E.QG.block_ret ?_
      refine E.QG.pass_ret ?_
      exact E.QG.result3 rfl rfl rfl rfl ⟨by rw [hq, lateT_step hs ht, if_pos h34], L⟩
    · refine E.GQ.doneB fun v7 lD => ?_
      replace b9 := blk_below b9 lD
      replace L := below_step L lD
      replace lq := below_step lq lD
      clear lD
      refine E.QG.code ?_
      refine E.CG.cond_f rfl ?_
      refine E.CG.skip ?_
      refine E.QG.block_normal ?_
      refine E.QG.code ?_
      refine E.CG.list ?_
      refine E.GL.run rfl rfl rfl (E.Runs.add rfl rfl rfl (IntWalk.i64_in _ (by omega))) ?_
      refine E.GL.run rfl rfl rfl (E.Runs.move rfl rfl) ?_
      refine E.GL.done ?_
      exact E.QG.round (k + 1) (E.subc rfl (E.subc rfl (E.subc rfl (E.subc rfl E.subn)))) ⟨by omega, lq, by rw [hq, lateT_step hs ht, if_neg h34]; rfl⟩ (by omega)
  · refine E.GL.done ?_
    refine E.QG.code ?_
    refine E.CG.seq ?_
    refine E.CG.cond_f rfl ?_
    refine E.CG.exit ?_
    refine E.QG.pass_exit ?_
    refine E.QG.pass_exit ?_
    refine E.QG.block_here ?_
    refine E.QG.code ?_
    refine E.CG.seq ?_
    refine E.CG.list ?_
    refine E.GL.run rfl rfl rfl (E.Runs.assign rfl rfl) ?_
    refine E.GL.run rfl rfl rfl (E.Runs.assign rfl rfl) ?_
    refine E.GL.run rfl rfl rfl (E.Runs.assign rfl rfl) ?_
    refine E.GL.done ?_
    refine E.QG.code ?_
    refine E.CG.ret ?_
    exact E.QG.result3 rfl rfl rfl rfl ⟨by rw [hq, List.drop_eq_nil_of_le (by omega)]; rfl, L⟩

end Go.Proofs.Ythdbkhdiaehblaa.T
