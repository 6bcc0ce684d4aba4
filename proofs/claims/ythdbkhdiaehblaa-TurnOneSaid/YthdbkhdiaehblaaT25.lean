/- TurnOne: the walk. -/
import Derived.Test.YthdbkhdiaehblaaT23
import Derived.Outline
import Derived.Test.YthdbkhdiaehblaaE2
namespace Go.Proofs.Ythdbkhdiaehblaa.T
open Go.RowKit Go.Proofs.YthdbkhdiaehblaaW.PrintWords Go.Proofs.YthdbkhdiaehblaaW.PrintLast Go.Proofs.YthdbkhdiaehblaaW.PrintMore
open Go.Proofs.Ythdbkhdiaehblaa.P
set_option linter.unusedVariables false
set_option maxRecDepth 100000 in
set_option maxHeartbeats 2000000 in
theorem one_no (H : Hs) (l : List S36) (A1 : Option Addr) (c1 : Nat) (w : World) (h : ¬ Valid H l) (hr : Kd.C k36 w A1 l.length l) (hc : l.length ≤ c1) :
    Calls Try.prog 3 #[hv H, .slice A1 l.length c1] w fun e w' => e = .returned (.bool true) ∧ Below w.heap.size w w' := by
  have hu25 := Try.underlying25
  have HV := Aside0.mk (fun W (k : Kd.C k36 W A1 l.length l) => valid_no H l A1 c1 W h k hc)
  have HR := Aside0.mk hr
  clear hr
  go_enter Try.func3, Try.ntmps3
  go_wp2_with (first
    | ((with_reducible refine gate_dst (N := 2) rfl ?_); refine box_event ?hg (N := 2) ?hd (cs := #[.int .i64 H.teams, .int .i64 H.walk, .int .i64 H.early, .int .i64 H.foyer, .int .i64 H.dl, .int .i64 H.dh, .int .i64 H.cl, .int .i64 H.ch]) (t := 25) ?hr ?_; (case hd => rfl); (case hg => rfl); (case hr => first | (go_simp; done) | (go_simp; rfl)); intro g2 e2 w2 b2 l2; have L2 := Aside0.mk l2; have B2 := Aside0.mk b2; clear l2 b2 e2; obtain ⟨h0, h1, h2, h3, h4, h5, h6, h7⟩ := house8 B2.out)
    | (go_at_call 13; refine (HV.out _ (Kd.C_below HR.out L2.out)).mono ?_; rintro e w3 ⟨rfl, l3⟩; have L3 := Aside0.mk (below_step L2.out l3); clear l3)
    | (go_at_call 14; refine (works_calls _).mono ?_; rintro e w4 ⟨rfl, l4⟩; have L4 := Aside0.mk (below_step L3.out l4); clear l4)
    | fail)
  go_ret
  exact ⟨rfl, L4.out⟩
theorem ten_one (a b c d e f g h i j : Int) : (#[.int .i64 a, .int .i64 b, .int .i64 c, .int .i64 d, .int .i64 e, .int .i64 f, .int .i64 g, .int .i64 h, .int .i64 i, .int .i64 j] : Array Value).all (·.oneCell') = true := by simp [Value.oneCell']
theorem info34s : (Try.prog.info? 34).map (·.size) = some 10 := by kernel_rfl
/-- The cells of a row of moments, at one place. -/
structure MomAt (w : World) (ad : Addr) (k : Nat) (t u : Tm) : Prop where
  c0 : w.cell? (ad.add (k * 10)) = some (.int .i64 t.enter)
  c1 : w.cell? ⟨(ad.add (k * 10)).block, (ad.add (k * 10)).off + 1, none⟩ = some (.int .i64 u.enter)
  c2 : w.cell? ⟨(ad.add (k * 10)).block, (ad.add (k * 10)).off + 2, none⟩ = some (.int .i64 t.seated)
  c3 : w.cell? ⟨(ad.add (k * 10)).block, (ad.add (k * 10)).off + 3, none⟩ = some (.int .i64 u.seated)
  c4 : w.cell? ⟨(ad.add (k * 10)).block, (ad.add (k * 10)).off + 4, none⟩ = some (.int .i64 t.start)
  c5 : w.cell? ⟨(ad.add (k * 10)).block, (ad.add (k * 10)).off + 5, none⟩ = some (.int .i64 u.start)
  c6 : w.cell? ⟨(ad.add (k * 10)).block, (ad.add (k * 10)).off + 6, none⟩ = some (.int .i64 t.empty)
  c7 : w.cell? ⟨(ad.add (k * 10)).block, (ad.add (k * 10)).off + 7, none⟩ = some (.int .i64 u.empty)
  c8 : w.cell? ⟨(ad.add (k * 10)).block, (ad.add (k * 10)).off + 8, none⟩ = some (.int .i64 t.ready)
  c9 : w.cell? ⟨(ad.add (k * 10)).block, (ad.add (k * 10)).off + 9, none⟩ = some (.int .i64 u.ready)
theorem mom_at {H : Hs} {l : List S36} {w : World} {A : Option Addr} (h : Kd.C k34 w A l.length (moments H l)) {i : Nat} {s : S36} {t u : Tm} (T : Told H l i s t u) (hi : i < l.length) : ∃ ad, A = some ad ∧ MomAt w ad i t u := by
  obtain ⟨ad, e, m0, m1, m2, m3, m4, m5, m6, m7, m8, m9⟩ := at_T34 h (i : Int) (by omega) (by omega)
  rw [T.m] at m0 m1 m2 m3 m4 m5 m6 m7 m8 m9
  simp only [Int.toNat_natCast] at m0 m1 m2 m3 m4 m5 m6 m7 m8 m9
  exact ⟨ad, e, m0, m1, m2, m3, m4, m5, m6, m7, m8, m9⟩
theorem MomAt.below {w w' : World} {ad : Addr} {k : Nat} {t u : Tm} (h : MomAt w ad k t u) (hb : Below w.heap.size w w') : MomAt w' ad k t u :=
  ⟨pw_cell_below hb h.c0, pw_cell_below hb h.c1, pw_cell_below hb h.c2, pw_cell_below hb h.c3, pw_cell_below hb h.c4, pw_cell_below hb h.c5, pw_cell_below hb h.c6, pw_cell_below hb h.c7, pw_cell_below hb h.c8, pw_cell_below hb h.c9⟩
theorem slot_at {w : World} {A : Option Addr} {l : List S36} (h : Kd.C k36 w A l.length l) {i : Nat} {s : S36} (hi : l[i]? = some s) : ∃ ad, A = some ad ∧ SlotAt w ad i s := by
  have hil : i < l.length := (List.getElem?_eq_some_iff.1 hi).1
  obtain ⟨ad, e, m0, m1, m2, m3, m4, m5⟩ := at_T36 h (i : Int) (by omega) (by omega)
  have hs : rd_T36 l (i : Int) = s := by rw [rd36 l i hil]; rw [List.getElem?_eq_getElem hil] at hi; exact Option.some.inj hi
  rw [hs] at m0 m1 m2 m3 m4 m5
  simp only [Int.toNat_natCast] at m0 m1 m2 m3 m4 m5
  exact ⟨ad, e, m0, m1, m2, m3, m4, m5⟩
/-- Times, for the laws: the moments, ready to be read. -/
theorem times_reads (H : Hs) (l : List S36) (A1 : Option Addr) (c1 : Nat) (w : World) (h : Valid H l) (hr : Kd.C k36 w A1 l.length l) (hc : l.length ≤ c1) :
    Calls Try.prog 15 #[hv H, .slice A1 l.length c1] w fun e w' => ∃ A c, e = .returned (.tuple #[.slice A l.length c, .int .i64 0]) ∧ Kd.C k34 w' A l.length (moments H l) ∧ Below w.heap.size w w' := by
  refine (times_calls H l A1 c1 w h hr hc).mono ?_
  rintro e w' ⟨v, rfl, hR, hb⟩
  obtain ⟨A, c, rfl, h1, h2⟩ := R_ready hR
  rw [moments_length] at h2 ⊢
  exact ⟨A, c, rfl, h2, hb⟩
/-- The tests of one slot by itself. -/
def OneFacts (H : Hs) (s : S36) (t u : Tm) : Prop :=
  decide (t.seated < t.enter) = false ∧ decide (u.seated < u.enter) = false ∧ decide (t.start < t.seated) = false ∧ decide (u.start < u.seated) = false ∧ decide (t.start < s.f1) = false ∧ decide (t.empty < t.start + s.f2.f0) = false ∧ decide (u.empty < u.start + s.f2.f1) = false ∧ decide (t.ready < t.empty + H.cl) = false ∧ decide (u.ready < u.empty + H.ch) = false ∧
  IntKind.i64.wrap (t.start + s.f2.f0) = t.start + s.f2.f0 ∧ IntKind.i64.wrap (u.start + s.f2.f1) = u.start + s.f2.f1 ∧ IntKind.i64.wrap (t.empty + H.cl) = t.empty + H.cl ∧ IntKind.i64.wrap (u.empty + H.ch) = u.empty + H.ch
theorem one_facts {H : Hs} {l : List S36} {i : Nat} {s : S36} {t u : Tm} (hh : HouseOk H) (hs : SlotIn H s) (T : Told H l i s t u) (hi : i ≤ 100) : OneFacts H s t u := by
  have p1 := T.p.e; have p2 := T.p.d; have p3 := T.p.s; have p4 := T.p.m; have p5 := T.p.r
  have e0 := T.fe.e0
  have e1 : t.enter ≤ t.seated := T.fe.es
  have e2 : t.seated ≤ t.start := T.fe.ss
  have e3 : s.f1 ≤ t.start := T.fe.bs
  have e4 : t.start + s.f2.f0 ≤ t.empty := T.fe.se
  have e5 : t.empty + H.cl ≤ t.ready := T.fe.er
  have f1 : u.enter ≤ u.seated := T.fl.es
  have f2 : u.seated ≤ u.start := T.fl.ss
  have f4 : u.start + s.f2.f1 ≤ u.empty := T.fl.se
  have f5 : u.empty + H.ch ≤ u.ready := T.fl.er
  have f6 : u.ready ≤ 10000 + 6000 * (i + 1) := T.fl.le
  obtain ⟨⟨q1, q2, q3, q4⟩, q5⟩ := hs
  obtain ⟨k1, k2, k3, k4, k5, k6⟩ := hh
  exact ⟨decide_eq_false (by omega), decide_eq_false (by omega), decide_eq_false (by omega), decide_eq_false (by omega), decide_eq_false (by omega), decide_eq_false (by omega), decide_eq_false (by omega), decide_eq_false (by omega), decide_eq_false (by omega),
    IntWalk.i64_in _ (by omega), IntWalk.i64_in _ (by omega), IntWalk.i64_in _ (by omega), IntWalk.i64_in _ (by omega)⟩
theorem ent13 (args : Array Value) (W : World) : (callFunc 13 args).run Try.prog W = .ok (.enter 13 args) W := by go_simp
theorem ent14 (args : Array Value) (W : World) : (callFunc 14 args).run Try.prog W = .ok (.enter 14 args) W := by go_simp
theorem ent15 (args : Array Value) (W : World) : (callFunc 15 args).run Try.prog W = .ok (.enter 15 args) W := by go_simp
set_option maxRecDepth 100000 in
theorem info_some {t : TypeId} {n : Nat} (h : (Try.prog.info? t).map (·.size) = some n) (hn : n ≠ 0) : E.Sized Try.prog t ∧ Try.prog.cellsOf t = n := by
  cases hq : Try.prog.info? t with
  | none => simp [hq] at h
  | some i =>
    have hs : i.size = n := by simpa [hq] using h
    have hc : Try.prog.cellsOf t = n := by simp [Program.cellsOf, hq, hs]
    exact ⟨⟨i, hq, by rw [hc]; exact hn⟩, hc⟩
theorem info3s : (Try.prog.info? 3).map (·.size) = some 1 := by kernel_rfl
theorem info36s : (Try.prog.info? 36).map (·.size) = some 6 := by kernel_rfl
theorem blk_cells {w : World} {g : Nat} {t : TypeId} {cs : List Value} (h : w.heap[g]? = some (.cells cs.toArray t (0, 0))) (j : Nat) (v : Value) (hv : cs[j]? = some v) : w.cell? ((⟨g, 0, none⟩ : Addr).add j) = some v := by
  have := blk_cell h j
  rw [Addr.add_mid, Nat.zero_add, this]
  simpa using hv
theorem MomAt.cells {w : World} {ad : Addr} {k : Nat} {t u : Tm} (h : MomAt w ad k t u) (j : Nat) (v : Value) (hv : ([.int .i64 t.enter, .int .i64 u.enter, .int .i64 t.seated, .int .i64 u.seated, .int .i64 t.start, .int .i64 u.start, .int .i64 t.empty, .int .i64 u.empty, .int .i64 t.ready, .int .i64 u.ready] : List Value)[j]? = some v) : w.cell? ((ad.add (k * 10)).add j) = some v := by
  rcases j with _ | _ | _ | _ | _ | _ | _ | _ | _ | _ | j
  · cases hv; exact h.c0
  · cases hv; exact h.c1
  · cases hv; exact h.c2
  · cases hv; exact h.c3
  · cases hv; exact h.c4
  · cases hv; exact h.c5
  · cases hv; exact h.c6
  · cases hv; exact h.c7
  · cases hv; exact h.c8
  · cases hv; exact h.c9
  · simp at hv
theorem mom10 {w : World} {g : Nat} {t u : Tm} (b : w.heap[g]? = some (.cells #[.int .i64 t.enter, .int .i64 u.enter, .int .i64 t.seated, .int .i64 u.seated, .int .i64 t.start, .int .i64 u.start, .int .i64 t.empty, .int .i64 u.empty, .int .i64 t.ready, .int .i64 u.ready] 34 (0, 0))) :
    w.cell? ⟨g, 0, none⟩ = some (.int .i64 t.enter) ∧ w.cell? ⟨g, 1, none⟩ = some (.int .i64 u.enter) ∧ w.cell? ⟨g, 2, none⟩ = some (.int .i64 t.seated) ∧ w.cell? ⟨g, 3, none⟩ = some (.int .i64 u.seated) ∧ w.cell? ⟨g, 4, none⟩ = some (.int .i64 t.start) ∧ w.cell? ⟨g, 5, none⟩ = some (.int .i64 u.start) ∧
    w.cell? ⟨g, 6, none⟩ = some (.int .i64 t.empty) ∧ w.cell? ⟨g, 7, none⟩ = some (.int .i64 u.empty) ∧ w.cell? ⟨g, 8, none⟩ = some (.int .i64 t.ready) ∧ w.cell? ⟨g, 9, none⟩ = some (.int .i64 u.ready) :=
  ⟨blk_cell b 0, blk_cell b 1, blk_cell b 2, blk_cell b 3, blk_cell b 4, blk_cell b 5, blk_cell b 6, blk_cell b 7, blk_cell b 8, blk_cell b 9⟩
theorem info34z : (Try.prog.info? 34).map (·.zero) = some (some (.agg #[(.int .i64 0), (.int .i64 0), (.int .i64 0), (.int .i64 0), (.int .i64 0), (.int .i64 0), (.int .i64 0), (.int .i64 0), (.int .i64 0), (.int .i64 0)])) := by kernel_rfl
/-- The tests of one slot beside one before it. -/
theorem pair_facts {H : Hs} {l : List S36} {i k : Nat} {s s' : S36} {t u t' u' : Tm} (hh : HouseOk H) (hS : SlotIn H s') (T : Told H l i s t u) (T' : Told H l k s' t' u') (hs : l[i]? = some s) (hs' : l[k]? = some s') (hk : k < i) (hi : i ≤ 100) :
    (decide (s'.f0 = s.f0) = false ∨ (decide (s'.f0 = s.f0) = true ∧ decide (t.enter < t'.ready) = false ∧ decide (u.enter < u'.ready) = false)) ∧
    (decide (s'.f4 = s.f4) = false ∨ (decide (s'.f4 = s.f4) = true ∧ decide (t.ready < t'.ready + H.walk + H.cl) = false ∧ decide (u.ready < u'.ready + H.walk + H.ch) = false)) ∧
    IntKind.i64.wrap (t'.ready + H.walk) = t'.ready + H.walk ∧ IntKind.i64.wrap (t'.ready + H.walk + H.cl) = t'.ready + H.walk + H.cl ∧ IntKind.i64.wrap (u'.ready + H.walk) = u'.ready + H.walk ∧ IntKind.i64.wrap (u'.ready + H.walk + H.ch) = u'.ready + H.walk + H.ch := by
  have g1 := T'.fe.e0; have g2 := T'.fe.es; have g3 := T'.fe.ss; have g4 : t'.start + s'.f2.f0 ≤ t'.empty := T'.fe.se; have g5 : t'.empty + H.cl ≤ t'.ready := T'.fe.er
  have g6 := T'.fe.le; have g7 := T'.fl.le; have g8 := T'.p.r
  have hE : (l.map (itOf (pcE H)))[k]? = some (itOf (pcE H) s') := by rw [List.getElem?_map, hs']; rfl
  have hL : (l.map (itOf (pcL H)))[k]? = some (itOf (pcL H) s') := by rw [List.getElem?_map, hs']; rfl
  obtain ⟨k1, k2, k3, k4, k5, k6⟩ := hh
  obtain ⟨⟨p1, p2, p3, p4⟩, p5⟩ := hS
  have hr0 : 0 ≤ t'.ready := by omega
  refine ⟨?_, ?_, IntWalk.i64_in _ (by omega), IntWalk.i64_in _ (by omega), IntWalk.i64_in _ (by omega), IntWalk.i64_in _ (by omega)⟩
  · by_cases he : s'.f0 = s.f0
    · refine .inr ⟨decide_eq_true he, decide_eq_false (Int.not_lt.mpr ?_), decide_eq_false (Int.not_lt.mpr ?_)⟩
      · exact T.fe.sc k _ _ hk hE T'.te he
      · exact T.fl.sc k _ _ hk hL T'.tl he
    · exact .inl (decide_eq_false he)
  · by_cases he : s'.f4 = s.f4
    · refine .inr ⟨decide_eq_true he, decide_eq_false (Int.not_lt.mpr ?_), decide_eq_false (Int.not_lt.mpr ?_)⟩
      · exact T.fe.tm k _ _ hk hE T'.te he
      · exact T.fl.tm k _ _ hk hL T'.tl he
    · exact .inl (decide_eq_false he)
set_option maxRecDepth 100000 in
set_option maxHeartbeats 40000000 in
theorem one_yes (H : Hs) (l : List S36) (A1 : Option Addr) (c1 : Nat) (w : World) (h : Valid H l) (hr : Kd.C k36 w A1 l.length l) (hc : l.length ≤ c1) :
    Calls Try.prog 3 #[hv H, .slice A1 l.length c1] w fun e w' => e = .returned (.bool true) ∧ Below w.heap.size w w' := by
  have hu3 := Try.underlying3
  have hu23 := Try.underlying23
  have hu25 := Try.underlying25
  have hu26 := Try.underlying26
  have hu29 := Try.underlying29
  have hu34 := Try.underlying34
  have hu36 := Try.underlying36
  obtain ⟨z3, o3⟩ := info_some info3s (by decide)
  obtain ⟨z23, o23⟩ := info_some info23s (by decide)
  obtain ⟨z34, o34⟩ := info_some info34s (by decide)
  obtain ⟨z36, o36⟩ := info_some info36s (by decide)
  refine E.enter (N := 269) Try.func3 rfl Try.ntmps3 (args := [hv H, .slice A1 l.length c1]) (by simp) ?_
  repeat (first
    | refine E.CG.seq ?_
    | refine E.CG.block ?_
    | refine E.CG.list ?_
    | refine E.CG.quietF (by kernel_rfl) rfl (by kernel_rfl) (by kernel_rfl) ?_
    | refine E.CG.cond_t rfl ?_
    | refine E.CG.cond_f rfl ?_
    | refine E.CG.skip ?_
    | refine E.CG.exit ?_
    | refine E.CG.ret ?_
    | refine E.CG.label ?_
    | refine E.GL.done ?_
    | refine E.GQ.done fun _ => ?_
    | refine E.QG.code ?_
    | refine E.QG.pass_exit ?_
    | refine E.QG.pass_ret ?_
    | refine E.QG.block_normal ?_
    | refine E.QG.block_ret ?_
    | refine E.QG.block_here ?_
    | refine E.QG.block_out rfl ?_
    | refine E.GL.run rfl rfl rfl (E.Runs.move rfl rfl) ?_
    | refine E.GQ.run rfl rfl rfl (E.Runs.move rfl rfl) ?_
    | refine E.GL.run rfl rfl rfl (E.Runs.assign rfl rfl) ?_
    | refine E.GQ.run rfl rfl rfl (E.Runs.assign rfl rfl) ?_
    | refine E.GL.run rfl rfl rfl (E.Runs.load rfl rfl (by assumption) (by assumption)) ?_
    | refine E.GQ.run rfl rfl rfl (E.Runs.load rfl rfl (by assumption) (by assumption)) ?_
    | refine E.GL.run rfl rfl rfl (E.Runs.fieldAddr rfl rfl (by assumption) rfl (by assumption) rfl) ?_
    | refine E.GQ.run rfl rfl rfl (E.Runs.fieldAddr rfl rfl (by assumption) rfl (by assumption) rfl) ?_
    | refine E.GL.run rfl rfl rfl (E.Runs.indexAddr rfl rfl rfl (by assumption) (by assumption) (by assumption) (by assumption) rfl) ?_
    | refine E.GQ.run rfl rfl rfl (E.Runs.indexAddr rfl rfl rfl (by assumption) (by assumption) (by assumption) (by assumption) rfl) ?_
    | refine E.GL.run rfl rfl rfl (E.Runs.gtr rfl rfl rfl (by first | assumption | rfl)) ?_
    | refine E.GQ.run rfl rfl rfl (E.Runs.gtr rfl rfl rfl (by first | assumption | rfl)) ?_
    | refine E.GL.run rfl rfl rfl (E.Runs.lss rfl rfl rfl (by first | assumption | rfl)) ?_
    | refine E.GQ.run rfl rfl rfl (E.Runs.lss rfl rfl rfl (by first | assumption | rfl)) ?_
    | refine E.GL.run rfl rfl rfl (E.Runs.leq rfl rfl rfl (by first | assumption | rfl)) ?_
    | refine E.GQ.run rfl rfl rfl (E.Runs.leq rfl rfl rfl (by first | assumption | rfl)) ?_
    | refine E.GL.run rfl rfl rfl (E.Runs.geq rfl rfl rfl (by first | assumption | rfl)) ?_
    | refine E.GQ.run rfl rfl rfl (E.Runs.geq rfl rfl rfl (by first | assumption | rfl)) ?_
    | refine E.GL.run rfl rfl rfl (E.Runs.pick_t rfl rfl rfl) ?_
    | refine E.GQ.run rfl rfl rfl (E.Runs.pick_t rfl rfl rfl) ?_
    | refine E.GL.run rfl rfl rfl (E.Runs.pick_f rfl rfl rfl) ?_
    | refine E.GQ.run rfl rfl rfl (E.Runs.pick_f rfl rfl rfl) ?_
    | refine E.GL.run rfl rfl rfl (E.Runs.eql rfl rfl rfl (by first | assumption | rfl)) ?_
    | refine E.GQ.run rfl rfl rfl (E.Runs.eql rfl rfl rfl (by first | assumption | rfl)) ?_
    | refine E.GL.run rfl rfl rfl (E.Runs.neq rfl rfl rfl (by first | assumption | rfl)) ?_
    | refine E.GQ.run rfl rfl rfl (E.Runs.neq rfl rfl rfl (by first | assumption | rfl)) ?_
    | refine E.GL.run rfl rfl rfl (E.Runs.add rfl rfl rfl (by assumption)) ?_
    | refine E.GQ.run rfl rfl rfl (E.Runs.add rfl rfl rfl (by assumption)) ?_
    | refine E.GL.run rfl rfl rfl (E.Runs.sub rfl rfl rfl (by assumption)) ?_
    | refine E.GQ.run rfl rfl rfl (E.Runs.sub rfl rfl rfl (by assumption)) ?_
    | refine E.GL.run rfl rfl rfl (E.Runs.not rfl rfl) ?_
    | refine E.GQ.run rfl rfl rfl (E.Runs.not rfl rfl) ?_
    | refine E.GL.run rfl rfl rfl (E.Runs.extract rfl rfl rfl) ?_
    | refine E.GQ.run rfl rfl rfl (E.Runs.extract rfl rfl rfl) ?_
    | refine E.GL.run rfl rfl rfl (E.Runs.len rfl rfl (by assumption)) ?_
    | refine E.GQ.run rfl rfl rfl (E.Runs.len rfl rfl (by assumption)) ?_
    | refine E.GL.skip rfl rfl rfl ?_
    | refine E.GQ.skip rfl rfl rfl ?_
    | fail)
  refine E.GL.box rfl rfl rfl rfl rfl fun g2 w2 e2 b2 l2 => ?_
  repeat (first
    | refine E.CG.seq ?_
    | refine E.CG.block ?_
    | refine E.CG.list ?_
    | refine E.CG.quietF (by kernel_rfl) rfl (by kernel_rfl) (by kernel_rfl) ?_
    | refine E.CG.cond_t rfl ?_
    | refine E.CG.cond_f rfl ?_
    | refine E.CG.skip ?_
    | refine E.CG.exit ?_
    | refine E.CG.ret ?_
    | refine E.CG.label ?_
    | refine E.GL.done ?_
    | refine E.GQ.done fun _ => ?_
    | refine E.QG.code ?_
    | refine E.QG.pass_exit ?_
    | refine E.QG.pass_ret ?_
    | refine E.QG.block_normal ?_
    | refine E.QG.block_ret ?_
    | refine E.QG.block_here ?_
    | refine E.QG.block_out rfl ?_
    | refine E.GL.run rfl rfl rfl (E.Runs.move rfl rfl) ?_
    | refine E.GQ.run rfl rfl rfl (E.Runs.move rfl rfl) ?_
    | refine E.GL.run rfl rfl rfl (E.Runs.assign rfl rfl) ?_
    | refine E.GQ.run rfl rfl rfl (E.Runs.assign rfl rfl) ?_
    | refine E.GL.run rfl rfl rfl (E.Runs.load rfl rfl (by assumption) (by assumption)) ?_
    | refine E.GQ.run rfl rfl rfl (E.Runs.load rfl rfl (by assumption) (by assumption)) ?_
    | refine E.GL.run rfl rfl rfl (E.Runs.fieldAddr rfl rfl (by assumption) rfl (by assumption) rfl) ?_
    | refine E.GQ.run rfl rfl rfl (E.Runs.fieldAddr rfl rfl (by assumption) rfl (by assumption) rfl) ?_
    | refine E.GL.run rfl rfl rfl (E.Runs.indexAddr rfl rfl rfl (by assumption) (by assumption) (by assumption) (by assumption) rfl) ?_
    | refine E.GQ.run rfl rfl rfl (E.Runs.indexAddr rfl rfl rfl (by assumption) (by assumption) (by assumption) (by assumption) rfl) ?_
    | refine E.GL.run rfl rfl rfl (E.Runs.gtr rfl rfl rfl (by first | assumption | rfl)) ?_
    | refine E.GQ.run rfl rfl rfl (E.Runs.gtr rfl rfl rfl (by first | assumption | rfl)) ?_
    | refine E.GL.run rfl rfl rfl (E.Runs.lss rfl rfl rfl (by first | assumption | rfl)) ?_
    | refine E.GQ.run rfl rfl rfl (E.Runs.lss rfl rfl rfl (by first | assumption | rfl)) ?_
    | refine E.GL.run rfl rfl rfl (E.Runs.leq rfl rfl rfl (by first | assumption | rfl)) ?_
    | refine E.GQ.run rfl rfl rfl (E.Runs.leq rfl rfl rfl (by first | assumption | rfl)) ?_
    | refine E.GL.run rfl rfl rfl (E.Runs.geq rfl rfl rfl (by first | assumption | rfl)) ?_
    | refine E.GQ.run rfl rfl rfl (E.Runs.geq rfl rfl rfl (by first | assumption | rfl)) ?_
    | refine E.GL.run rfl rfl rfl (E.Runs.pick_t rfl rfl rfl) ?_
    | refine E.GQ.run rfl rfl rfl (E.Runs.pick_t rfl rfl rfl) ?_
    | refine E.GL.run rfl rfl rfl (E.Runs.pick_f rfl rfl rfl) ?_
    | refine E.GQ.run rfl rfl rfl (E.Runs.pick_f rfl rfl rfl) ?_
    | refine E.GL.run rfl rfl rfl (E.Runs.eql rfl rfl rfl (by first | assumption | rfl)) ?_
    | refine E.GQ.run rfl rfl rfl (E.Runs.eql rfl rfl rfl (by first | assumption | rfl)) ?_
    | refine E.GL.run rfl rfl rfl (E.Runs.neq rfl rfl rfl (by first | assumption | rfl)) ?_
    | refine E.GQ.run rfl rfl rfl (E.Runs.neq rfl rfl rfl (by first | assumption | rfl)) ?_
    | refine E.GL.run rfl rfl rfl (E.Runs.add rfl rfl rfl (by assumption)) ?_
    | refine E.GQ.run rfl rfl rfl (E.Runs.add rfl rfl rfl (by assumption)) ?_
    | refine E.GL.run rfl rfl rfl (E.Runs.sub rfl rfl rfl (by assumption)) ?_
    | refine E.GQ.run rfl rfl rfl (E.Runs.sub rfl rfl rfl (by assumption)) ?_
    | refine E.GL.run rfl rfl rfl (E.Runs.not rfl rfl) ?_
    | refine E.GQ.run rfl rfl rfl (E.Runs.not rfl rfl) ?_
    | refine E.GL.run rfl rfl rfl (E.Runs.extract rfl rfl rfl) ?_
    | refine E.GQ.run rfl rfl rfl (E.Runs.extract rfl rfl rfl) ?_
    | refine E.GL.run rfl rfl rfl (E.Runs.len rfl rfl (by assumption)) ?_
    | refine E.GQ.run rfl rfl rfl (E.Runs.len rfl rfl (by assumption)) ?_
    | refine E.GL.skip rfl rfl rfl ?_
    | refine E.GQ.skip rfl rfl rfl ?_
    | fail)
  refine E.GL.run rfl rfl rfl (E.Runs.loads (cs := [.int .i64 H.teams, .int .i64 H.walk, .int .i64 H.early, .int .i64 H.foyer, .int .i64 H.dl, .int .i64 H.dh, .int .i64 H.cl, .int .i64 H.ch]) rfl rfl Try.underlying25 rfl info25s (blk_cells b2)) ?_
  repeat (first
    | refine E.CG.seq ?_
    | refine E.CG.block ?_
    | refine E.CG.list ?_
    | refine E.CG.quietF (by kernel_rfl) rfl (by kernel_rfl) (by kernel_rfl) ?_
    | refine E.CG.cond_t rfl ?_
    | refine E.CG.cond_f rfl ?_
    | refine E.CG.skip ?_
    | refine E.CG.exit ?_
    | refine E.CG.ret ?_
    | refine E.CG.label ?_
    | refine E.GL.done ?_
    | refine E.GQ.done fun _ => ?_
    | refine E.QG.code ?_
    | refine E.QG.pass_exit ?_
    | refine E.QG.pass_ret ?_
    | refine E.QG.block_normal ?_
    | refine E.QG.block_ret ?_
    | refine E.QG.block_here ?_
    | refine E.QG.block_out rfl ?_
    | refine E.GL.run rfl rfl rfl (E.Runs.move rfl rfl) ?_
    | refine E.GQ.run rfl rfl rfl (E.Runs.move rfl rfl) ?_
    | refine E.GL.run rfl rfl rfl (E.Runs.assign rfl rfl) ?_
    | refine E.GQ.run rfl rfl rfl (E.Runs.assign rfl rfl) ?_
    | refine E.GL.run rfl rfl rfl (E.Runs.load rfl rfl (by assumption) (by assumption)) ?_
    | refine E.GQ.run rfl rfl rfl (E.Runs.load rfl rfl (by assumption) (by assumption)) ?_
    | refine E.GL.run rfl rfl rfl (E.Runs.fieldAddr rfl rfl (by assumption) rfl (by assumption) rfl) ?_
    | refine E.GQ.run rfl rfl rfl (E.Runs.fieldAddr rfl rfl (by assumption) rfl (by assumption) rfl) ?_
    | refine E.GL.run rfl rfl rfl (E.Runs.indexAddr rfl rfl rfl (by assumption) (by assumption) (by assumption) (by assumption) rfl) ?_
    | refine E.GQ.run rfl rfl rfl (E.Runs.indexAddr rfl rfl rfl (by assumption) (by assumption) (by assumption) (by assumption) rfl) ?_
    | refine E.GL.run rfl rfl rfl (E.Runs.gtr rfl rfl rfl (by first | assumption | rfl)) ?_
    | refine E.GQ.run rfl rfl rfl (E.Runs.gtr rfl rfl rfl (by first | assumption | rfl)) ?_
    | refine E.GL.run rfl rfl rfl (E.Runs.lss rfl rfl rfl (by first | assumption | rfl)) ?_
    | refine E.GQ.run rfl rfl rfl (E.Runs.lss rfl rfl rfl (by first | assumption | rfl)) ?_
    | refine E.GL.run rfl rfl rfl (E.Runs.leq rfl rfl rfl (by first | assumption | rfl)) ?_
    | refine E.GQ.run rfl rfl rfl (E.Runs.leq rfl rfl rfl (by first | assumption | rfl)) ?_
    | refine E.GL.run rfl rfl rfl (E.Runs.geq rfl rfl rfl (by first | assumption | rfl)) ?_
    | refine E.GQ.run rfl rfl rfl (E.Runs.geq rfl rfl rfl (by first | assumption | rfl)) ?_
    | refine E.GL.run rfl rfl rfl (E.Runs.pick_t rfl rfl rfl) ?_
    | refine E.GQ.run rfl rfl rfl (E.Runs.pick_t rfl rfl rfl) ?_
    | refine E.GL.run rfl rfl rfl (E.Runs.pick_f rfl rfl rfl) ?_
    | refine E.GQ.run rfl rfl rfl (E.Runs.pick_f rfl rfl rfl) ?_
    | refine E.GL.run rfl rfl rfl (E.Runs.eql rfl rfl rfl (by first | assumption | rfl)) ?_
    | refine E.GQ.run rfl rfl rfl (E.Runs.eql rfl rfl rfl (by first | assumption | rfl)) ?_
    | refine E.GL.run rfl rfl rfl (E.Runs.neq rfl rfl rfl (by first | assumption | rfl)) ?_
    | refine E.GQ.run rfl rfl rfl (E.Runs.neq rfl rfl rfl (by first | assumption | rfl)) ?_
    | refine E.GL.run rfl rfl rfl (E.Runs.add rfl rfl rfl (by assumption)) ?_
    | refine E.GQ.run rfl rfl rfl (E.Runs.add rfl rfl rfl (by assumption)) ?_
    | refine E.GL.run rfl rfl rfl (E.Runs.sub rfl rfl rfl (by assumption)) ?_
    | refine E.GQ.run rfl rfl rfl (E.Runs.sub rfl rfl rfl (by assumption)) ?_
    | refine E.GL.run rfl rfl rfl (E.Runs.not rfl rfl) ?_
    | refine E.GQ.run rfl rfl rfl (E.Runs.not rfl rfl) ?_
    | refine E.GL.run rfl rfl rfl (E.Runs.extract rfl rfl rfl) ?_
    | refine E.GQ.run rfl rfl rfl (E.Runs.extract rfl rfl rfl) ?_
    | refine E.GL.run rfl rfl rfl (E.Runs.len rfl rfl (by assumption)) ?_
    | refine E.GQ.run rfl rfl rfl (E.Runs.len rfl rfl (by assumption)) ?_
    | refine E.GL.skip rfl rfl rfl ?_
    | refine E.GQ.skip rfl rfl rfl ?_
    | fail)
  refine E.GL.call rfl rfl rfl rfl ent13 (E.evc rfl (E.evc rfl E.evn)) ((valid_yes H l A1 c1 w2 h (Kd.C_below hr l2) hc).mono ?_)
  rintro e w3 ⟨rfl, l3⟩
  refine ⟨_, rfl, ?_⟩
  have b3 := blk_below b2 l3
  replace l3 := below_step l2 l3
  repeat (first
    | refine E.CG.seq ?_
    | refine E.CG.block ?_
    | refine E.CG.list ?_
    | refine E.CG.quietF (by kernel_rfl) rfl (by kernel_rfl) (by kernel_rfl) ?_
    | refine E.CG.cond_t rfl ?_
    | refine E.CG.cond_f rfl ?_
    | refine E.CG.skip ?_
    | refine E.CG.exit ?_
    | refine E.CG.ret ?_
    | refine E.CG.label ?_
    | refine E.GL.done ?_
    | refine E.GQ.done fun _ => ?_
    | refine E.QG.code ?_
    | refine E.QG.pass_exit ?_
    | refine E.QG.pass_ret ?_
    | refine E.QG.block_normal ?_
    | refine E.QG.block_ret ?_
    | refine E.QG.block_here ?_
    | refine E.QG.block_out rfl ?_
    | refine E.GL.run rfl rfl rfl (E.Runs.move rfl rfl) ?_
    | refine E.GQ.run rfl rfl rfl (E.Runs.move rfl rfl) ?_
    | refine E.GL.run rfl rfl rfl (E.Runs.assign rfl rfl) ?_
    | refine E.GQ.run rfl rfl rfl (E.Runs.assign rfl rfl) ?_
    | refine E.GL.run rfl rfl rfl (E.Runs.load rfl rfl (by assumption) (by assumption)) ?_
    | refine E.GQ.run rfl rfl rfl (E.Runs.load rfl rfl (by assumption) (by assumption)) ?_
    | refine E.GL.run rfl rfl rfl (E.Runs.fieldAddr rfl rfl (by assumption) rfl (by assumption) rfl) ?_
    | refine E.GQ.run rfl rfl rfl (E.Runs.fieldAddr rfl rfl (by assumption) rfl (by assumption) rfl) ?_
    | refine E.GL.run rfl rfl rfl (E.Runs.indexAddr rfl rfl rfl (by assumption) (by assumption) (by assumption) (by assumption) rfl) ?_
    | refine E.GQ.run rfl rfl rfl (E.Runs.indexAddr rfl rfl rfl (by assumption) (by assumption) (by assumption) (by assumption) rfl) ?_
    | refine E.GL.run rfl rfl rfl (E.Runs.gtr rfl rfl rfl (by first | assumption | rfl)) ?_
    | refine E.GQ.run rfl rfl rfl (E.Runs.gtr rfl rfl rfl (by first | assumption | rfl)) ?_
    | refine E.GL.run rfl rfl rfl (E.Runs.lss rfl rfl rfl (by first | assumption | rfl)) ?_
    | refine E.GQ.run rfl rfl rfl (E.Runs.lss rfl rfl rfl (by first | assumption | rfl)) ?_
    | refine E.GL.run rfl rfl rfl (E.Runs.leq rfl rfl rfl (by first | assumption | rfl)) ?_
    | refine E.GQ.run rfl rfl rfl (E.Runs.leq rfl rfl rfl (by first | assumption | rfl)) ?_
    | refine E.GL.run rfl rfl rfl (E.Runs.geq rfl rfl rfl (by first | assumption | rfl)) ?_
    | refine E.GQ.run rfl rfl rfl (E.Runs.geq rfl rfl rfl (by first | assumption | rfl)) ?_
    | refine E.GL.run rfl rfl rfl (E.Runs.pick_t rfl rfl rfl) ?_
    | refine E.GQ.run rfl rfl rfl (E.Runs.pick_t rfl rfl rfl) ?_
    | refine E.GL.run rfl rfl rfl (E.Runs.pick_f rfl rfl rfl) ?_
    | refine E.GQ.run rfl rfl rfl (E.Runs.pick_f rfl rfl rfl) ?_
    | refine E.GL.run rfl rfl rfl (E.Runs.eql rfl rfl rfl (by first | assumption | rfl)) ?_
    | refine E.GQ.run rfl rfl rfl (E.Runs.eql rfl rfl rfl (by first | assumption | rfl)) ?_
    | refine E.GL.run rfl rfl rfl (E.Runs.neq rfl rfl rfl (by first | assumption | rfl)) ?_
    | refine E.GQ.run rfl rfl rfl (E.Runs.neq rfl rfl rfl (by first | assumption | rfl)) ?_
    | refine E.GL.run rfl rfl rfl (E.Runs.add rfl rfl rfl (by assumption)) ?_
    | refine E.GQ.run rfl rfl rfl (E.Runs.add rfl rfl rfl (by assumption)) ?_
    | refine E.GL.run rfl rfl rfl (E.Runs.sub rfl rfl rfl (by assumption)) ?_
    | refine E.GQ.run rfl rfl rfl (E.Runs.sub rfl rfl rfl (by assumption)) ?_
    | refine E.GL.run rfl rfl rfl (E.Runs.not rfl rfl) ?_
    | refine E.GQ.run rfl rfl rfl (E.Runs.not rfl rfl) ?_
    | refine E.GL.run rfl rfl rfl (E.Runs.extract rfl rfl rfl) ?_
    | refine E.GQ.run rfl rfl rfl (E.Runs.extract rfl rfl rfl) ?_
    | refine E.GL.run rfl rfl rfl (E.Runs.len rfl rfl (by assumption)) ?_
    | refine E.GQ.run rfl rfl rfl (E.Runs.len rfl rfl (by assumption)) ?_
    | refine E.GL.skip rfl rfl rfl ?_
    | refine E.GQ.skip rfl rfl rfl ?_
    | fail)
  refine E.GL.run rfl rfl rfl (E.Runs.loads (cs := [.int .i64 H.teams, .int .i64 H.walk, .int .i64 H.early, .int .i64 H.foyer, .int .i64 H.dl, .int .i64 H.dh, .int .i64 H.cl, .int .i64 H.ch]) rfl rfl Try.underlying25 rfl info25s (blk_cells b3)) ?_
  repeat (first
    | refine E.CG.seq ?_
    | refine E.CG.block ?_
    | refine E.CG.list ?_
    | refine E.CG.quietF (by kernel_rfl) rfl (by kernel_rfl) (by kernel_rfl) ?_
    | refine E.CG.cond_t rfl ?_
    | refine E.CG.cond_f rfl ?_
    | refine E.CG.skip ?_
    | refine E.CG.exit ?_
    | refine E.CG.ret ?_
    | refine E.CG.label ?_
    | refine E.GL.done ?_
    | refine E.GQ.done fun _ => ?_
    | refine E.QG.code ?_
    | refine E.QG.pass_exit ?_
    | refine E.QG.pass_ret ?_
    | refine E.QG.block_normal ?_
    | refine E.QG.block_ret ?_
    | refine E.QG.block_here ?_
    | refine E.QG.block_out rfl ?_
    | refine E.GL.run rfl rfl rfl (E.Runs.move rfl rfl) ?_
    | refine E.GQ.run rfl rfl rfl (E.Runs.move rfl rfl) ?_
    | refine E.GL.run rfl rfl rfl (E.Runs.assign rfl rfl) ?_
    | refine E.GQ.run rfl rfl rfl (E.Runs.assign rfl rfl) ?_
    | refine E.GL.run rfl rfl rfl (E.Runs.load rfl rfl (by assumption) (by assumption)) ?_
    | refine E.GQ.run rfl rfl rfl (E.Runs.load rfl rfl (by assumption) (by assumption)) ?_
    | refine E.GL.run rfl rfl rfl (E.Runs.fieldAddr rfl rfl (by assumption) rfl (by assumption) rfl) ?_
    | refine E.GQ.run rfl rfl rfl (E.Runs.fieldAddr rfl rfl (by assumption) rfl (by assumption) rfl) ?_
    | refine E.GL.run rfl rfl rfl (E.Runs.indexAddr rfl rfl rfl (by assumption) (by assumption) (by assumption) (by assumption) rfl) ?_
    | refine E.GQ.run rfl rfl rfl (E.Runs.indexAddr rfl rfl rfl (by assumption) (by assumption) (by assumption) (by assumption) rfl) ?_
    | refine E.GL.run rfl rfl rfl (E.Runs.gtr rfl rfl rfl (by first | assumption | rfl)) ?_
    | refine E.GQ.run rfl rfl rfl (E.Runs.gtr rfl rfl rfl (by first | assumption | rfl)) ?_
    | refine E.GL.run rfl rfl rfl (E.Runs.lss rfl rfl rfl (by first | assumption | rfl)) ?_
    | refine E.GQ.run rfl rfl rfl (E.Runs.lss rfl rfl rfl (by first | assumption | rfl)) ?_
    | refine E.GL.run rfl rfl rfl (E.Runs.leq rfl rfl rfl (by first | assumption | rfl)) ?_
    | refine E.GQ.run rfl rfl rfl (E.Runs.leq rfl rfl rfl (by first | assumption | rfl)) ?_
    | refine E.GL.run rfl rfl rfl (E.Runs.geq rfl rfl rfl (by first | assumption | rfl)) ?_
    | refine E.GQ.run rfl rfl rfl (E.Runs.geq rfl rfl rfl (by first | assumption | rfl)) ?_
    | refine E.GL.run rfl rfl rfl (E.Runs.pick_t rfl rfl rfl) ?_
    | refine E.GQ.run rfl rfl rfl (E.Runs.pick_t rfl rfl rfl) ?_
    | refine E.GL.run rfl rfl rfl (E.Runs.pick_f rfl rfl rfl) ?_
    | refine E.GQ.run rfl rfl rfl (E.Runs.pick_f rfl rfl rfl) ?_
    | refine E.GL.run rfl rfl rfl (E.Runs.eql rfl rfl rfl (by first | assumption | rfl)) ?_
    | refine E.GQ.run rfl rfl rfl (E.Runs.eql rfl rfl rfl (by first | assumption | rfl)) ?_
    | refine E.GL.run rfl rfl rfl (E.Runs.neq rfl rfl rfl (by first | assumption | rfl)) ?_
    | refine E.GQ.run rfl rfl rfl (E.Runs.neq rfl rfl rfl (by first | assumption | rfl)) ?_
    | refine E.GL.run rfl rfl rfl (E.Runs.add rfl rfl rfl (by assumption)) ?_
    | refine E.GQ.run rfl rfl rfl (E.Runs.add rfl rfl rfl (by assumption)) ?_
    | refine E.GL.run rfl rfl rfl (E.Runs.sub rfl rfl rfl (by assumption)) ?_
    | refine E.GQ.run rfl rfl rfl (E.Runs.sub rfl rfl rfl (by assumption)) ?_
    | refine E.GL.run rfl rfl rfl (E.Runs.not rfl rfl) ?_
    | refine E.GQ.run rfl rfl rfl (E.Runs.not rfl rfl) ?_
    | refine E.GL.run rfl rfl rfl (E.Runs.extract rfl rfl rfl) ?_
    | refine E.GQ.run rfl rfl rfl (E.Runs.extract rfl rfl rfl) ?_
    | refine E.GL.run rfl rfl rfl (E.Runs.len rfl rfl (by assumption)) ?_
    | refine E.GQ.run rfl rfl rfl (E.Runs.len rfl rfl (by assumption)) ?_
    | refine E.GL.skip rfl rfl rfl ?_
    | refine E.GQ.skip rfl rfl rfl ?_
    | fail)
  refine E.GL.call rfl rfl rfl rfl ent15 (E.evc rfl (E.evc rfl E.evn)) ((times_reads H l A1 c1 w3 h (Kd.C_below hr l3) hc).mono ?_)
  rintro e w4 ⟨A4, c4, rfl, m4, l4⟩
  refine ⟨_, rfl, ?_⟩
  have b4 := blk_below b3 l4
  have r4 := Kd.C_below (Kd.C_below hr l3) l4
  replace l4 := below_step l3 l4
  clear b2 b3 l2 l3 e2
  have hlen : (!decide ((l.length : Int) = (l.length : Int))) = false := by simp
  repeat (first
    | refine E.CG.seq ?_
    | refine E.CG.block ?_
    | refine E.CG.list ?_
    | refine E.CG.quietF (by kernel_rfl) rfl (by kernel_rfl) (by kernel_rfl) ?_
    | refine E.CG.cond_t rfl ?_
    | refine E.CG.cond_f rfl ?_
    | refine E.CG.skip ?_
    | refine E.CG.exit ?_
    | refine E.CG.ret ?_
    | refine E.CG.label ?_
    | refine E.GL.done ?_
    | refine E.GQ.done fun _ => ?_
    | refine E.QG.code ?_
    | refine E.QG.pass_exit ?_
    | refine E.QG.pass_ret ?_
    | refine E.QG.block_normal ?_
    | refine E.QG.block_ret ?_
    | refine E.QG.block_here ?_
    | refine E.QG.block_out rfl ?_
    | refine E.GL.run rfl rfl rfl (E.Runs.move rfl rfl) ?_
    | refine E.GQ.run rfl rfl rfl (E.Runs.move rfl rfl) ?_
    | refine E.GL.run rfl rfl rfl (E.Runs.assign rfl rfl) ?_
    | refine E.GQ.run rfl rfl rfl (E.Runs.assign rfl rfl) ?_
    | refine E.GL.run rfl rfl rfl (E.Runs.load rfl rfl (by assumption) (by assumption)) ?_
    | refine E.GQ.run rfl rfl rfl (E.Runs.load rfl rfl (by assumption) (by assumption)) ?_
    | refine E.GL.run rfl rfl rfl (E.Runs.fieldAddr rfl rfl (by assumption) rfl (by assumption) rfl) ?_
    | refine E.GQ.run rfl rfl rfl (E.Runs.fieldAddr rfl rfl (by assumption) rfl (by assumption) rfl) ?_
    | refine E.GL.run rfl rfl rfl (E.Runs.indexAddr rfl rfl rfl (by assumption) (by assumption) (by assumption) (by assumption) rfl) ?_
    | refine E.GQ.run rfl rfl rfl (E.Runs.indexAddr rfl rfl rfl (by assumption) (by assumption) (by assumption) (by assumption) rfl) ?_
    | refine E.GL.run rfl rfl rfl (E.Runs.gtr rfl rfl rfl (by first | assumption | rfl)) ?_
    | refine E.GQ.run rfl rfl rfl (E.Runs.gtr rfl rfl rfl (by first | assumption | rfl)) ?_
    | refine E.GL.run rfl rfl rfl (E.Runs.lss rfl rfl rfl (by first | assumption | rfl)) ?_
    | refine E.GQ.run rfl rfl rfl (E.Runs.lss rfl rfl rfl (by first | assumption | rfl)) ?_
    | refine E.GL.run rfl rfl rfl (E.Runs.leq rfl rfl rfl (by first | assumption | rfl)) ?_
    | refine E.GQ.run rfl rfl rfl (E.Runs.leq rfl rfl rfl (by first | assumption | rfl)) ?_
    | refine E.GL.run rfl rfl rfl (E.Runs.geq rfl rfl rfl (by first | assumption | rfl)) ?_
    | refine E.GQ.run rfl rfl rfl (E.Runs.geq rfl rfl rfl (by first | assumption | rfl)) ?_
    | refine E.GL.run rfl rfl rfl (E.Runs.pick_t rfl rfl rfl) ?_
    | refine E.GQ.run rfl rfl rfl (E.Runs.pick_t rfl rfl rfl) ?_
    | refine E.GL.run rfl rfl rfl (E.Runs.pick_f rfl rfl rfl) ?_
    | refine E.GQ.run rfl rfl rfl (E.Runs.pick_f rfl rfl rfl) ?_
    | refine E.GL.run rfl rfl rfl (E.Runs.eql rfl rfl rfl (by first | assumption | rfl)) ?_
    | refine E.GQ.run rfl rfl rfl (E.Runs.eql rfl rfl rfl (by first | assumption | rfl)) ?_
    | refine E.GL.run rfl rfl rfl (E.Runs.neq rfl rfl rfl (by first | assumption | rfl)) ?_
    | refine E.GQ.run rfl rfl rfl (E.Runs.neq rfl rfl rfl (by first | assumption | rfl)) ?_
    | refine E.GL.run rfl rfl rfl (E.Runs.add rfl rfl rfl (by assumption)) ?_
    | refine E.GQ.run rfl rfl rfl (E.Runs.add rfl rfl rfl (by assumption)) ?_
    | refine E.GL.run rfl rfl rfl (E.Runs.sub rfl rfl rfl (by assumption)) ?_
    | refine E.GQ.run rfl rfl rfl (E.Runs.sub rfl rfl rfl (by assumption)) ?_
    | refine E.GL.run rfl rfl rfl (E.Runs.not rfl rfl) ?_
    | refine E.GQ.run rfl rfl rfl (E.Runs.not rfl rfl) ?_
    | refine E.GL.run rfl rfl rfl (E.Runs.extract rfl rfl rfl) ?_
    | refine E.GQ.run rfl rfl rfl (E.Runs.extract rfl rfl rfl) ?_
    | refine E.GL.run rfl rfl rfl (E.Runs.len rfl rfl (by assumption)) ?_
    | refine E.GQ.run rfl rfl rfl (E.Runs.len rfl rfl (by assumption)) ?_
    | refine E.GL.skip rfl rfl rfl ?_
    | refine E.GQ.skip rfl rfl rfl ?_
    | fail)
  refine E.CG.loop (γ := Nat) (fun i => [(1, .slice A1 l.length c1), (2, .pointer (some ⟨g2, 0, none⟩)), (5, .slice A4 l.length c4), (7, .int .i64 i)]) (fun i w' => i ≤ l.length ∧ Below w4.heap.size w4 w') (fun i => l.length - i) 0 (E.subc rfl (E.subc rfl (E.subc rfl (E.subc rfl E.subn)))) ⟨Nat.zero_le _, Below.refl _ _⟩ ?_
  rintro i wr ⟨hi, hw⟩
  by_cases hlt : i < l.length
  · have hb : decide ((i : Int) < (l.length : Int)) = true := decide_eq_true (by omega)
    have hil : (i : Int) < (l.length : Int) := by omega
    obtain ⟨s, hs⟩ : ∃ s, l[i]? = some s := ⟨_, List.getElem?_eq_getElem hlt⟩
    have hSI := valid_slots h s (List.mem_of_getElem? hs)
    obtain ⟨t, u, T⟩ := told h.1 (valid_slots h) hs
    obtain ⟨ad, eA, M⟩ := mom_at m4 T hlt
    obtain ⟨ae, eB, S⟩ := slot_at r4 hs
    subst eA eB
    obtain ⟨d1, d2, d3, d4, d5, d6, d7, d8, d9, v1, v2, v3, v4⟩ := one_facts h.1 hSI T (by have := h.2.1; omega)
    have q1 : decide (u.enter < t.enter) = false := decide_eq_false (Int.not_lt.mpr T.p.e)
    have q2 : decide (u.seated < t.seated) = false := decide_eq_false (Int.not_lt.mpr T.p.d)
    have q3 : decide (u.start < t.start) = false := decide_eq_false (Int.not_lt.mpr T.p.s)
    have q4 : decide (u.empty < t.empty) = false := decide_eq_false (Int.not_lt.mpr T.p.m)
    have q5 : decide (u.ready < t.ready) = false := decide_eq_false (Int.not_lt.mpr T.p.r)
    repeat (first
      | refine E.CG.seq ?_
      | refine E.CG.block ?_
      | refine E.CG.list ?_
      | refine E.CG.quietF (by kernel_rfl) rfl (by kernel_rfl) (by kernel_rfl) ?_
      | refine E.CG.cond_t rfl ?_
      | refine E.CG.cond_f rfl ?_
      | refine E.CG.skip ?_
      | refine E.CG.exit ?_
      | refine E.CG.ret ?_
      | refine E.CG.label ?_
      | refine E.GL.done ?_
      | refine E.GQ.done fun _ => ?_
      | refine E.QG.code ?_
      | refine E.QG.pass_exit ?_
      | refine E.QG.pass_ret ?_
      | refine E.QG.block_normal ?_
      | refine E.QG.block_ret ?_
      | refine E.QG.block_here ?_
      | refine E.QG.block_out rfl ?_
      | refine E.GL.run rfl rfl rfl (E.Runs.move rfl rfl) ?_
      | refine E.GQ.run rfl rfl rfl (E.Runs.move rfl rfl) ?_
      | refine E.GL.run rfl rfl rfl (E.Runs.assign rfl rfl) ?_
      | refine E.GQ.run rfl rfl rfl (E.Runs.assign rfl rfl) ?_
      | refine E.GL.run rfl rfl rfl (E.Runs.load rfl rfl (by assumption) (by assumption)) ?_
      | refine E.GQ.run rfl rfl rfl (E.Runs.load rfl rfl (by assumption) (by assumption)) ?_
      | refine E.GL.run rfl rfl rfl (E.Runs.fieldAddr rfl rfl (by assumption) rfl (by assumption) rfl) ?_
      | refine E.GQ.run rfl rfl rfl (E.Runs.fieldAddr rfl rfl (by assumption) rfl (by assumption) rfl) ?_
      | refine E.GL.run rfl rfl rfl (E.Runs.indexAddr rfl rfl rfl (by assumption) (by assumption) (by assumption) (by assumption) rfl) ?_
      | refine E.GQ.run rfl rfl rfl (E.Runs.indexAddr rfl rfl rfl (by assumption) (by assumption) (by assumption) (by assumption) rfl) ?_
      | refine E.GL.run rfl rfl rfl (E.Runs.gtr rfl rfl rfl (by first | assumption | rfl)) ?_
      | refine E.GQ.run rfl rfl rfl (E.Runs.gtr rfl rfl rfl (by first | assumption | rfl)) ?_
      | refine E.GL.run rfl rfl rfl (E.Runs.lss rfl rfl rfl (by first | assumption | rfl)) ?_
      | refine E.GQ.run rfl rfl rfl (E.Runs.lss rfl rfl rfl (by first | assumption | rfl)) ?_
      | refine E.GL.run rfl rfl rfl (E.Runs.leq rfl rfl rfl (by first | assumption | rfl)) ?_
      | refine E.GQ.run rfl rfl rfl (E.Runs.leq rfl rfl rfl (by first | assumption | rfl)) ?_
      | refine E.GL.run rfl rfl rfl (E.Runs.geq rfl rfl rfl (by first | assumption | rfl)) ?_
      | refine E.GQ.run rfl rfl rfl (E.Runs.geq rfl rfl rfl (by first | assumption | rfl)) ?_
      | refine E.GL.run rfl rfl rfl (E.Runs.pick_t rfl rfl rfl) ?_
      | refine E.GQ.run rfl rfl rfl (E.Runs.pick_t rfl rfl rfl) ?_
      | refine E.GL.run rfl rfl rfl (E.Runs.pick_f rfl rfl rfl) ?_
      | refine E.GQ.run rfl rfl rfl (E.Runs.pick_f rfl rfl rfl) ?_
      | refine E.GL.run rfl rfl rfl (E.Runs.eql rfl rfl rfl (by first | assumption | rfl)) ?_
      | refine E.GQ.run rfl rfl rfl (E.Runs.eql rfl rfl rfl (by first | assumption | rfl)) ?_
      | refine E.GL.run rfl rfl rfl (E.Runs.neq rfl rfl rfl (by first | assumption | rfl)) ?_
      | refine E.GQ.run rfl rfl rfl (E.Runs.neq rfl rfl rfl (by first | assumption | rfl)) ?_
      | refine E.GL.run rfl rfl rfl (E.Runs.add rfl rfl rfl (by assumption)) ?_
      | refine E.GQ.run rfl rfl rfl (E.Runs.add rfl rfl rfl (by assumption)) ?_
      | refine E.GL.run rfl rfl rfl (E.Runs.sub rfl rfl rfl (by assumption)) ?_
      | refine E.GQ.run rfl rfl rfl (E.Runs.sub rfl rfl rfl (by assumption)) ?_
      | refine E.GL.run rfl rfl rfl (E.Runs.not rfl rfl) ?_
      | refine E.GQ.run rfl rfl rfl (E.Runs.not rfl rfl) ?_
      | refine E.GL.run rfl rfl rfl (E.Runs.extract rfl rfl rfl) ?_
      | refine E.GQ.run rfl rfl rfl (E.Runs.extract rfl rfl rfl) ?_
      | refine E.GL.run rfl rfl rfl (E.Runs.len rfl rfl (by assumption)) ?_
      | refine E.GQ.run rfl rfl rfl (E.Runs.len rfl rfl (by assumption)) ?_
      | refine E.GL.skip rfl rfl rfl ?_
      | refine E.GQ.skip rfl rfl rfl ?_
      | fail)
    refine E.GL.run rfl rfl rfl (E.Runs.loads (cs := [.int .i64 t.enter, .int .i64 u.enter, .int .i64 t.seated, .int .i64 u.seated, .int .i64 t.start, .int .i64 u.start, .int .i64 t.empty, .int .i64 u.empty, .int .i64 t.ready, .int .i64 u.ready]) rfl rfl Try.underlying34 rfl info34s (M.below hw).cells) ?_
    refine E.GL.alloc rfl rfl rfl rfl info34z fun ga wa ea ba la => ?_
    refine E.GL.store_whole rfl rfl rfl rfl rfl ba rfl info34s (ten_one _ _ _ _ _ _ _ _ _ _) fun wb bb lb => ?_
    replace lb := new_stored la (Nat.le_of_eq ea.symm) lb
    have hwb := below_step hw lb
    have b5 := blk_below b4 hwb
    obtain ⟨h0, h1, h2, h3, h4, h5, h6, h7⟩ := house8 b5
    obtain ⟨y0, y1, y2, y3, y4, y5⟩ := S.below hwb
    obtain ⟨x0, x1, x2, x3, x4, x5, x6, x7, x8, x9⟩ := mom10 bb
    repeat (first
      | refine E.CG.seq ?_
      | refine E.CG.block ?_
      | refine E.CG.list ?_
      | refine E.CG.quietF (by kernel_rfl) rfl (by kernel_rfl) (by kernel_rfl) ?_
      | refine E.CG.cond_t rfl ?_
      | refine E.CG.cond_f rfl ?_
      | refine E.CG.skip ?_
      | refine E.CG.exit ?_
      | refine E.CG.ret ?_
      | refine E.CG.label ?_
      | refine E.GL.done ?_
      | refine E.GQ.done fun _ => ?_
      | refine E.QG.code ?_
      | refine E.QG.pass_exit ?_
      | refine E.QG.pass_ret ?_
      | refine E.QG.block_normal ?_
      | refine E.QG.block_ret ?_
      | refine E.QG.block_here ?_
      | refine E.QG.block_out rfl ?_
      | refine E.GL.run rfl rfl rfl (E.Runs.move rfl rfl) ?_
      | refine E.GQ.run rfl rfl rfl (E.Runs.move rfl rfl) ?_
      | refine E.GL.run rfl rfl rfl (E.Runs.assign rfl rfl) ?_
      | refine E.GQ.run rfl rfl rfl (E.Runs.assign rfl rfl) ?_
      | refine E.GL.run rfl rfl rfl (E.Runs.load rfl rfl (by assumption) (by assumption)) ?_
      | refine E.GQ.run rfl rfl rfl (E.Runs.load rfl rfl (by assumption) (by assumption)) ?_
      | refine E.GL.run rfl rfl rfl (E.Runs.fieldAddr rfl rfl (by assumption) rfl (by assumption) rfl) ?_
      | refine E.GQ.run rfl rfl rfl (E.Runs.fieldAddr rfl rfl (by assumption) rfl (by assumption) rfl) ?_
      | refine E.GL.run rfl rfl rfl (E.Runs.indexAddr rfl rfl rfl (by assumption) (by assumption) (by assumption) (by assumption) rfl) ?_
      | refine E.GQ.run rfl rfl rfl (E.Runs.indexAddr rfl rfl rfl (by assumption) (by assumption) (by assumption) (by assumption) rfl) ?_
      | refine E.GL.run rfl rfl rfl (E.Runs.gtr rfl rfl rfl (by first | assumption | rfl)) ?_
      | refine E.GQ.run rfl rfl rfl (E.Runs.gtr rfl rfl rfl (by first | assumption | rfl)) ?_
      | refine E.GL.run rfl rfl rfl (E.Runs.lss rfl rfl rfl (by first | assumption | rfl)) ?_
      | refine E.GQ.run rfl rfl rfl (E.Runs.lss rfl rfl rfl (by first | assumption | rfl)) ?_
      | refine E.GL.run rfl rfl rfl (E.Runs.leq rfl rfl rfl (by first | assumption | rfl)) ?_
      | refine E.GQ.run rfl rfl rfl (E.Runs.leq rfl rfl rfl (by first | assumption | rfl)) ?_
      | refine E.GL.run rfl rfl rfl (E.Runs.geq rfl rfl rfl (by first | assumption | rfl)) ?_
      | refine E.GQ.run rfl rfl rfl (E.Runs.geq rfl rfl rfl (by first | assumption | rfl)) ?_
      | refine E.GL.run rfl rfl rfl (E.Runs.pick_t rfl rfl rfl) ?_
      | refine E.GQ.run rfl rfl rfl (E.Runs.pick_t rfl rfl rfl) ?_
      | refine E.GL.run rfl rfl rfl (E.Runs.pick_f rfl rfl rfl) ?_
      | refine E.GQ.run rfl rfl rfl (E.Runs.pick_f rfl rfl rfl) ?_
      | refine E.GL.run rfl rfl rfl (E.Runs.eql rfl rfl rfl (by first | assumption | rfl)) ?_
      | refine E.GQ.run rfl rfl rfl (E.Runs.eql rfl rfl rfl (by first | assumption | rfl)) ?_
      | refine E.GL.run rfl rfl rfl (E.Runs.neq rfl rfl rfl (by first | assumption | rfl)) ?_
      | refine E.GQ.run rfl rfl rfl (E.Runs.neq rfl rfl rfl (by first | assumption | rfl)) ?_
      | refine E.GL.run rfl rfl rfl (E.Runs.add rfl rfl rfl (by assumption)) ?_
      | refine E.GQ.run rfl rfl rfl (E.Runs.add rfl rfl rfl (by assumption)) ?_
      | refine E.GL.run rfl rfl rfl (E.Runs.sub rfl rfl rfl (by assumption)) ?_
      | refine E.GQ.run rfl rfl rfl (E.Runs.sub rfl rfl rfl (by assumption)) ?_
      | refine E.GL.run rfl rfl rfl (E.Runs.not rfl rfl) ?_
      | refine E.GQ.run rfl rfl rfl (E.Runs.not rfl rfl) ?_
      | refine E.GL.run rfl rfl rfl (E.Runs.extract rfl rfl rfl) ?_
      | refine E.GQ.run rfl rfl rfl (E.Runs.extract rfl rfl rfl) ?_
      | refine E.GL.run rfl rfl rfl (E.Runs.len rfl rfl (by assumption)) ?_
      | refine E.GQ.run rfl rfl rfl (E.Runs.len rfl rfl (by assumption)) ?_
      | refine E.GL.skip rfl rfl rfl ?_
      | refine E.GQ.skip rfl rfl rfl ?_
      | fail)
    clear x0 x1 x2 x3 x4 x5 x6 x7 x8 x9 y0 y1 y2 y3 y4 y5 h0 h1 h2 h3 h4 h5 h6 h7 d1 d2 d3 d4 d5 d6 d7 d8 d9 v1 v2 v3 v4 q1 q2 q3 q4 q5 hlen hb
    have hr5 : Kd.C k36 wb (some ae) l.length l := Kd.C_below r4 hwb
    have hm5 : Kd.C k34 wb (some ad) l.length (moments H l) := Kd.C_below m4 hwb
    refine E.CG.loop (γ := Nat) (fun k => [(1, .slice (some ae) l.length c1), (2, .pointer (some ⟨g2, 0, none⟩)), (5, .slice (some ad) l.length c4), (7, .int .i64 i), (8, .pointer (some ⟨ga, 0, none⟩)), (9, .int .i64 k)]) (fun k w' => k ≤ i ∧ Below wb.heap.size wb w') (fun k => i - k) 0 (E.subc rfl (E.subc rfl (E.subc rfl (E.subc rfl (E.subc rfl (E.subc rfl E.subn)))))) ⟨Nat.zero_le _, pw_below_drewN (Below.refl _ _) _⟩ ?_
    rintro k wq ⟨hk, hq⟩
    by_cases hki : k < i
    · have hb : decide ((k : Int) < (i : Int)) = true := decide_eq_true (by omega)
      have hkl : (k : Int) < (l.length : Int) := by omega
      have hkn : k < l.length := by omega
      obtain ⟨s', hs'⟩ : ∃ s, l[k]? = some s := ⟨_, List.getElem?_eq_getElem hkn⟩
      obtain ⟨t', u', T'⟩ := told h.1 (valid_slots h) hs'
      obtain ⟨ad', eA', M'⟩ := mom_at hm5 T' hkn
      obtain ⟨ae', eB', S'⟩ := slot_at hr5 hs'
      obtain rfl : ad = ad' := Option.some.inj eA'
      obtain rfl : ae = ae' := Option.some.inj eB'
      have Si := S.below hwb
      obtain ⟨hA, hB, n1, n2, n3, n4⟩ := pair_facts h.1 (valid_slots h s' (List.mem_of_getElem? hs')) T T' hs hs' hki (by have := h.2.1; omega)
      repeat (first
        | refine E.CG.seq ?_
        | refine E.CG.block ?_
        | refine E.CG.list ?_
        | refine E.CG.quietF (by kernel_rfl) rfl (by kernel_rfl) (by kernel_rfl) ?_
        | refine E.CG.cond_t rfl ?_
        | refine E.CG.cond_f rfl ?_
        | refine E.CG.skip ?_
        | refine E.CG.exit ?_
        | refine E.CG.ret ?_
        | refine E.CG.label ?_
        | refine E.GL.done ?_
        | refine E.GQ.done fun _ => ?_
        | refine E.QG.code ?_
        | refine E.QG.pass_exit ?_
        | refine E.QG.pass_ret ?_
        | refine E.QG.block_normal ?_
        | refine E.QG.block_ret ?_
        | refine E.QG.block_here ?_
        | refine E.QG.block_out rfl ?_
        | refine E.GL.run rfl rfl rfl (E.Runs.move rfl rfl) ?_
        | refine E.GQ.run rfl rfl rfl (E.Runs.move rfl rfl) ?_
        | refine E.GL.run rfl rfl rfl (E.Runs.assign rfl rfl) ?_
        | refine E.GQ.run rfl rfl rfl (E.Runs.assign rfl rfl) ?_
        | refine E.GL.run rfl rfl rfl (E.Runs.load rfl rfl (by assumption) (by assumption)) ?_
        | refine E.GQ.run rfl rfl rfl (E.Runs.load rfl rfl (by assumption) (by assumption)) ?_
        | refine E.GL.run rfl rfl rfl (E.Runs.fieldAddr rfl rfl (by assumption) rfl (by assumption) rfl) ?_
        | refine E.GQ.run rfl rfl rfl (E.Runs.fieldAddr rfl rfl (by assumption) rfl (by assumption) rfl) ?_
        | refine E.GL.run rfl rfl rfl (E.Runs.indexAddr rfl rfl rfl (by assumption) (by assumption) (by assumption) (by assumption) rfl) ?_
        | refine E.GQ.run rfl rfl rfl (E.Runs.indexAddr rfl rfl rfl (by assumption) (by assumption) (by assumption) (by assumption) rfl) ?_
        | refine E.GL.run rfl rfl rfl (E.Runs.gtr rfl rfl rfl (by first | assumption | rfl)) ?_
        | refine E.GQ.run rfl rfl rfl (E.Runs.gtr rfl rfl rfl (by first | assumption | rfl)) ?_
        | refine E.GL.run rfl rfl rfl (E.Runs.lss rfl rfl rfl (by first | assumption | rfl)) ?_
        | refine E.GQ.run rfl rfl rfl (E.Runs.lss rfl rfl rfl (by first | assumption | rfl)) ?_
        | refine E.GL.run rfl rfl rfl (E.Runs.leq rfl rfl rfl (by first | assumption | rfl)) ?_
        | refine E.GQ.run rfl rfl rfl (E.Runs.leq rfl rfl rfl (by first | assumption | rfl)) ?_
        | refine E.GL.run rfl rfl rfl (E.Runs.geq rfl rfl rfl (by first | assumption | rfl)) ?_
        | refine E.GQ.run rfl rfl rfl (E.Runs.geq rfl rfl rfl (by first | assumption | rfl)) ?_
        | refine E.GL.run rfl rfl rfl (E.Runs.pick_t rfl rfl rfl) ?_
        | refine E.GQ.run rfl rfl rfl (E.Runs.pick_t rfl rfl rfl) ?_
        | refine E.GL.run rfl rfl rfl (E.Runs.pick_f rfl rfl rfl) ?_
        | refine E.GQ.run rfl rfl rfl (E.Runs.pick_f rfl rfl rfl) ?_
        | refine E.GL.run rfl rfl rfl (E.Runs.eql rfl rfl rfl (by first | assumption | rfl)) ?_
        | refine E.GQ.run rfl rfl rfl (E.Runs.eql rfl rfl rfl (by first | assumption | rfl)) ?_
        | refine E.GL.run rfl rfl rfl (E.Runs.neq rfl rfl rfl (by first | assumption | rfl)) ?_
        | refine E.GQ.run rfl rfl rfl (E.Runs.neq rfl rfl rfl (by first | assumption | rfl)) ?_
        | refine E.GL.run rfl rfl rfl (E.Runs.add rfl rfl rfl (by assumption)) ?_
        | refine E.GQ.run rfl rfl rfl (E.Runs.add rfl rfl rfl (by assumption)) ?_
        | refine E.GL.run rfl rfl rfl (E.Runs.sub rfl rfl rfl (by assumption)) ?_
        | refine E.GQ.run rfl rfl rfl (E.Runs.sub rfl rfl rfl (by assumption)) ?_
        | refine E.GL.run rfl rfl rfl (E.Runs.not rfl rfl) ?_
        | refine E.GQ.run rfl rfl rfl (E.Runs.not rfl rfl) ?_
        | refine E.GL.run rfl rfl rfl (E.Runs.extract rfl rfl rfl) ?_
        | refine E.GQ.run rfl rfl rfl (E.Runs.extract rfl rfl rfl) ?_
        | refine E.GL.run rfl rfl rfl (E.Runs.len rfl rfl (by assumption)) ?_
        | refine E.GQ.run rfl rfl rfl (E.Runs.len rfl rfl (by assumption)) ?_
        | refine E.GL.skip rfl rfl rfl ?_
        | refine E.GQ.skip rfl rfl rfl ?_
        | fail)
      refine E.GL.run rfl rfl rfl (E.Runs.loads (cs := [.int .i64 t'.enter, .int .i64 u'.enter, .int .i64 t'.seated, .int .i64 u'.seated, .int .i64 t'.start, .int .i64 u'.start, .int .i64 t'.empty, .int .i64 u'.empty, .int .i64 t'.ready, .int .i64 u'.ready]) rfl rfl Try.underlying34 rfl info34s (M'.below hq).cells) ?_
      refine E.GL.alloc rfl rfl rfl rfl info34z fun gc wc ec bc lc => ?_
      refine E.GL.store_whole rfl rfl rfl rfl rfl bc rfl info34s (ten_one _ _ _ _ _ _ _ _ _ _) fun wd bd ld => ?_
      replace ld := new_stored lc (Nat.le_of_eq ec.symm) ld
      have hwd := below_step hq ld
      have b6 := blk_below b5 hwd
      have bi := blk_below bb hwd
      obtain ⟨h0, h1, h2, h3, h4, h5, h6, h7⟩ := house8 b6
      obtain ⟨y0, y1, y2, y3, y4, y5⟩ := S'.below hwd
      obtain ⟨yi0, yi1, yi2, yi3, yi4, yi5⟩ := Si.below hwd
      obtain ⟨x0, x1, x2, x3, x4, x5, x6, x7, x8, x9⟩ := mom10 bi
      obtain ⟨xk0, xk1, xk2, xk3, xk4, xk5, xk6, xk7, xk8, xk9⟩ := mom10 bd
      clear x2 x3 x4 x5 x6 x7 xk0 xk1 xk2 xk3 xk4 xk5 xk6 xk7 y1 y2 y3 y4 yi1 yi2 yi3 yi4 h0 h2 h3 h4 h5
      have hkw : IntKind.i64.wrap ((k : Int) + 1) = ((k + 1 : Nat) : Int) := IntWalk.i64_in _ (by have := h.2.1; omega)
      rcases hA with a1 | ⟨a1, a2, a3⟩ <;> rcases hB with e1 | ⟨e1, e2, e3⟩ <;>
        (repeat (first
           | refine E.CG.seq ?_
           | refine E.CG.block ?_
           | refine E.CG.list ?_
           | refine E.CG.quietF (by kernel_rfl) rfl (by kernel_rfl) (by kernel_rfl) ?_
           | refine E.CG.cond_t rfl ?_
           | refine E.CG.cond_f rfl ?_
           | refine E.CG.skip ?_
           | refine E.CG.exit ?_
           | refine E.CG.ret ?_
           | refine E.CG.label ?_
           | refine E.GL.done ?_
           | refine E.GQ.done fun _ => ?_
           | refine E.QG.code ?_
           | refine E.QG.pass_exit ?_
           | refine E.QG.pass_ret ?_
           | refine E.QG.block_normal ?_
           | refine E.QG.block_ret ?_
           | refine E.QG.block_here ?_
           | refine E.QG.block_out rfl ?_
           | refine E.GL.run rfl rfl rfl (E.Runs.move rfl rfl) ?_
           | refine E.GQ.run rfl rfl rfl (E.Runs.move rfl rfl) ?_
           | refine E.GL.run rfl rfl rfl (E.Runs.assign rfl rfl) ?_
           | refine E.GQ.run rfl rfl rfl (E.Runs.assign rfl rfl) ?_
           | refine E.GL.run rfl rfl rfl (E.Runs.load rfl rfl (by assumption) (by assumption)) ?_
           | refine E.GQ.run rfl rfl rfl (E.Runs.load rfl rfl (by assumption) (by assumption)) ?_
           | refine E.GL.run rfl rfl rfl (E.Runs.fieldAddr rfl rfl (by assumption) rfl (by assumption) rfl) ?_
           | refine E.GQ.run rfl rfl rfl (E.Runs.fieldAddr rfl rfl (by assumption) rfl (by assumption) rfl) ?_
           | refine E.GL.run rfl rfl rfl (E.Runs.indexAddr rfl rfl rfl (by assumption) (by assumption) (by assumption) (by assumption) rfl) ?_
           | refine E.GQ.run rfl rfl rfl (E.Runs.indexAddr rfl rfl rfl (by assumption) (by assumption) (by assumption) (by assumption) rfl) ?_
           | refine E.GL.run rfl rfl rfl (E.Runs.gtr rfl rfl rfl (by first | assumption | rfl)) ?_
           | refine E.GQ.run rfl rfl rfl (E.Runs.gtr rfl rfl rfl (by first | assumption | rfl)) ?_
           | refine E.GL.run rfl rfl rfl (E.Runs.lss rfl rfl rfl (by first | assumption | rfl)) ?_
           | refine E.GQ.run rfl rfl rfl (E.Runs.lss rfl rfl rfl (by first | assumption | rfl)) ?_
           | refine E.GL.run rfl rfl rfl (E.Runs.leq rfl rfl rfl (by first | assumption | rfl)) ?_
           | refine E.GQ.run rfl rfl rfl (E.Runs.leq rfl rfl rfl (by first | assumption | rfl)) ?_
           | refine E.GL.run rfl rfl rfl (E.Runs.geq rfl rfl rfl (by first | assumption | rfl)) ?_
           | refine E.GQ.run rfl rfl rfl (E.Runs.geq rfl rfl rfl (by first | assumption | rfl)) ?_
           | refine E.GL.run rfl rfl rfl (E.Runs.pick_t rfl rfl rfl) ?_
           | refine E.GQ.run rfl rfl rfl (E.Runs.pick_t rfl rfl rfl) ?_
           | refine E.GL.run rfl rfl rfl (E.Runs.pick_f rfl rfl rfl) ?_
           | refine E.GQ.run rfl rfl rfl (E.Runs.pick_f rfl rfl rfl) ?_
           | refine E.GL.run rfl rfl rfl (E.Runs.eql rfl rfl rfl (by first | assumption | rfl)) ?_
           | refine E.GQ.run rfl rfl rfl (E.Runs.eql rfl rfl rfl (by first | assumption | rfl)) ?_
           | refine E.GL.run rfl rfl rfl (E.Runs.neq rfl rfl rfl (by first | assumption | rfl)) ?_
           | refine E.GQ.run rfl rfl rfl (E.Runs.neq rfl rfl rfl (by first | assumption | rfl)) ?_
           | refine E.GL.run rfl rfl rfl (E.Runs.add rfl rfl rfl (by assumption)) ?_
           | refine E.GQ.run rfl rfl rfl (E.Runs.add rfl rfl rfl (by assumption)) ?_
           | refine E.GL.run rfl rfl rfl (E.Runs.sub rfl rfl rfl (by assumption)) ?_
           | refine E.GQ.run rfl rfl rfl (E.Runs.sub rfl rfl rfl (by assumption)) ?_
           | refine E.GL.run rfl rfl rfl (E.Runs.not rfl rfl) ?_
           | refine E.GQ.run rfl rfl rfl (E.Runs.not rfl rfl) ?_
           | refine E.GL.run rfl rfl rfl (E.Runs.extract rfl rfl rfl) ?_
           | refine E.GQ.run rfl rfl rfl (E.Runs.extract rfl rfl rfl) ?_
           | refine E.GL.run rfl rfl rfl (E.Runs.len rfl rfl (by assumption)) ?_
           | refine E.GQ.run rfl rfl rfl (E.Runs.len rfl rfl (by assumption)) ?_
           | refine E.GL.skip rfl rfl rfl ?_
           | refine E.GQ.skip rfl rfl rfl ?_
           | fail)
         exact E.QG.round (k + 1) (E.subc rfl (E.subc rfl (E.subc rfl (E.subc rfl (E.subc rfl (E.subc rfl E.subn)))))) ⟨by omega, by first | exact hwd | exact pw_below_drewN hwd _ | exact pw_below_drewN (pw_below_drewN hwd _) _⟩ (by omega))
    · have hb : decide ((k : Int) < (i : Int)) = false := decide_eq_false (by omega)
      have hiw : IntKind.i64.wrap ((i : Int) + 1) = ((i + 1 : Nat) : Int) := IntWalk.i64_in _ (by have := h.2.1; omega)
      repeat (first
        | refine E.CG.seq ?_
        | refine E.CG.block ?_
        | refine E.CG.list ?_
        | refine E.CG.quietF (by kernel_rfl) rfl (by kernel_rfl) (by kernel_rfl) ?_
        | refine E.CG.cond_t rfl ?_
        | refine E.CG.cond_f rfl ?_
        | refine E.CG.skip ?_
        | refine E.CG.exit ?_
        | refine E.CG.ret ?_
        | refine E.CG.label ?_
        | refine E.GL.done ?_
        | refine E.GQ.done fun _ => ?_
        | refine E.QG.code ?_
        | refine E.QG.pass_exit ?_
        | refine E.QG.pass_ret ?_
        | refine E.QG.block_normal ?_
        | refine E.QG.block_ret ?_
        | refine E.QG.block_here ?_
        | refine E.QG.block_out rfl ?_
        | refine E.GL.run rfl rfl rfl (E.Runs.move rfl rfl) ?_
        | refine E.GQ.run rfl rfl rfl (E.Runs.move rfl rfl) ?_
        | refine E.GL.run rfl rfl rfl (E.Runs.assign rfl rfl) ?_
        | refine E.GQ.run rfl rfl rfl (E.Runs.assign rfl rfl) ?_
        | refine E.GL.run rfl rfl rfl (E.Runs.load rfl rfl (by assumption) (by assumption)) ?_
        | refine E.GQ.run rfl rfl rfl (E.Runs.load rfl rfl (by assumption) (by assumption)) ?_
        | refine E.GL.run rfl rfl rfl (E.Runs.fieldAddr rfl rfl (by assumption) rfl (by assumption) rfl) ?_
        | refine E.GQ.run rfl rfl rfl (E.Runs.fieldAddr rfl rfl (by assumption) rfl (by assumption) rfl) ?_
        | refine E.GL.run rfl rfl rfl (E.Runs.indexAddr rfl rfl rfl (by assumption) (by assumption) (by assumption) (by assumption) rfl) ?_
        | refine E.GQ.run rfl rfl rfl (E.Runs.indexAddr rfl rfl rfl (by assumption) (by assumption) (by assumption) (by assumption) rfl) ?_
        | refine E.GL.run rfl rfl rfl (E.Runs.gtr rfl rfl rfl (by first | assumption | rfl)) ?_
        | refine E.GQ.run rfl rfl rfl (E.Runs.gtr rfl rfl rfl (by first | assumption | rfl)) ?_
        | refine E.GL.run rfl rfl rfl (E.Runs.lss rfl rfl rfl (by first | assumption | rfl)) ?_
        | refine E.GQ.run rfl rfl rfl (E.Runs.lss rfl rfl rfl (by first | assumption | rfl)) ?_
        | refine E.GL.run rfl rfl rfl (E.Runs.leq rfl rfl rfl (by first | assumption | rfl)) ?_
        | refine E.GQ.run rfl rfl rfl (E.Runs.leq rfl rfl rfl (by first | assumption | rfl)) ?_
        | refine E.GL.run rfl rfl rfl (E.Runs.geq rfl rfl rfl (by first | assumption | rfl)) ?_
        | refine E.GQ.run rfl rfl rfl (E.Runs.geq rfl rfl rfl (by first | assumption | rfl)) ?_
        | refine E.GL.run rfl rfl rfl (E.Runs.pick_t rfl rfl rfl) ?_
        | refine E.GQ.run rfl rfl rfl (E.Runs.pick_t rfl rfl rfl) ?_
        | refine E.GL.run rfl rfl rfl (E.Runs.pick_f rfl rfl rfl) ?_
        | refine E.GQ.run rfl rfl rfl (E.Runs.pick_f rfl rfl rfl) ?_
        | refine E.GL.run rfl rfl rfl (E.Runs.eql rfl rfl rfl (by first | assumption | rfl)) ?_
        | refine E.GQ.run rfl rfl rfl (E.Runs.eql rfl rfl rfl (by first | assumption | rfl)) ?_
        | refine E.GL.run rfl rfl rfl (E.Runs.neq rfl rfl rfl (by first | assumption | rfl)) ?_
        | refine E.GQ.run rfl rfl rfl (E.Runs.neq rfl rfl rfl (by first | assumption | rfl)) ?_
        | refine E.GL.run rfl rfl rfl (E.Runs.add rfl rfl rfl (by assumption)) ?_
        | refine E.GQ.run rfl rfl rfl (E.Runs.add rfl rfl rfl (by assumption)) ?_
        | refine E.GL.run rfl rfl rfl (E.Runs.sub rfl rfl rfl (by assumption)) ?_
        | refine E.GQ.run rfl rfl rfl (E.Runs.sub rfl rfl rfl (by assumption)) ?_
        | refine E.GL.run rfl rfl rfl (E.Runs.not rfl rfl) ?_
        | refine E.GQ.run rfl rfl rfl (E.Runs.not rfl rfl) ?_
        | refine E.GL.run rfl rfl rfl (E.Runs.extract rfl rfl rfl) ?_
        | refine E.GQ.run rfl rfl rfl (E.Runs.extract rfl rfl rfl) ?_
        | refine E.GL.run rfl rfl rfl (E.Runs.len rfl rfl (by assumption)) ?_
        | refine E.GQ.run rfl rfl rfl (E.Runs.len rfl rfl (by assumption)) ?_
        | refine E.GL.skip rfl rfl rfl ?_
        | refine E.GQ.skip rfl rfl rfl ?_
        | fail)
      exact E.QG.round (i + 1) (E.subc rfl (E.subc rfl (E.subc rfl (E.subc rfl E.subn)))) ⟨by omega, below_step hwb hq⟩ (by omega)
  · have hb : decide ((i : Int) < (l.length : Int)) = false := decide_eq_false (by omega)
    repeat (first
      | refine E.CG.seq ?_
      | refine E.CG.block ?_
      | refine E.CG.list ?_
      | refine E.CG.quietF (by kernel_rfl) rfl (by kernel_rfl) (by kernel_rfl) ?_
      | refine E.CG.cond_t rfl ?_
      | refine E.CG.cond_f rfl ?_
      | refine E.CG.skip ?_
      | refine E.CG.exit ?_
      | refine E.CG.ret ?_
      | refine E.CG.label ?_
      | refine E.GL.done ?_
      | refine E.GQ.done fun _ => ?_
      | refine E.QG.code ?_
      | refine E.QG.pass_exit ?_
      | refine E.QG.pass_ret ?_
      | refine E.QG.block_normal ?_
      | refine E.QG.block_ret ?_
      | refine E.QG.block_here ?_
      | refine E.QG.block_out rfl ?_
      | refine E.GL.run rfl rfl rfl (E.Runs.move rfl rfl) ?_
      | refine E.GQ.run rfl rfl rfl (E.Runs.move rfl rfl) ?_
      | refine E.GL.run rfl rfl rfl (E.Runs.assign rfl rfl) ?_
      | refine E.GQ.run rfl rfl rfl (E.Runs.assign rfl rfl) ?_
      | refine E.GL.run rfl rfl rfl (E.Runs.load rfl rfl (by assumption) (by assumption)) ?_
      | refine E.GQ.run rfl rfl rfl (E.Runs.load rfl rfl (by assumption) (by assumption)) ?_
      | refine E.GL.run rfl rfl rfl (E.Runs.fieldAddr rfl rfl (by assumption) rfl (by assumption) rfl) ?_
      | refine E.GQ.run rfl rfl rfl (E.Runs.fieldAddr rfl rfl (by assumption) rfl (by assumption) rfl) ?_
      | refine E.GL.run rfl rfl rfl (E.Runs.indexAddr rfl rfl rfl (by assumption) (by assumption) (by assumption) (by assumption) rfl) ?_
      | refine E.GQ.run rfl rfl rfl (E.Runs.indexAddr rfl rfl rfl (by assumption) (by assumption) (by assumption) (by assumption) rfl) ?_
      | refine E.GL.run rfl rfl rfl (E.Runs.gtr rfl rfl rfl (by first | assumption | rfl)) ?_
      | refine E.GQ.run rfl rfl rfl (E.Runs.gtr rfl rfl rfl (by first | assumption | rfl)) ?_
      | refine E.GL.run rfl rfl rfl (E.Runs.lss rfl rfl rfl (by first | assumption | rfl)) ?_
      | refine E.GQ.run rfl rfl rfl (E.Runs.lss rfl rfl rfl (by first | assumption | rfl)) ?_
      | refine E.GL.run rfl rfl rfl (E.Runs.leq rfl rfl rfl (by first | assumption | rfl)) ?_
      | refine E.GQ.run rfl rfl rfl (E.Runs.leq rfl rfl rfl (by first | assumption | rfl)) ?_
      | refine E.GL.run rfl rfl rfl (E.Runs.geq rfl rfl rfl (by first | assumption | rfl)) ?_
      | refine E.GQ.run rfl rfl rfl (E.Runs.geq rfl rfl rfl (by first | assumption | rfl)) ?_
      | refine E.GL.run rfl rfl rfl (E.Runs.pick_t rfl rfl rfl) ?_
      | refine E.GQ.run rfl rfl rfl (E.Runs.pick_t rfl rfl rfl) ?_
      | refine E.GL.run rfl rfl rfl (E.Runs.pick_f rfl rfl rfl) ?_
      | refine E.GQ.run rfl rfl rfl (E.Runs.pick_f rfl rfl rfl) ?_
      | refine E.GL.run rfl rfl rfl (E.Runs.eql rfl rfl rfl (by first | assumption | rfl)) ?_
      | refine E.GQ.run rfl rfl rfl (E.Runs.eql rfl rfl rfl (by first | assumption | rfl)) ?_
      | refine E.GL.run rfl rfl rfl (E.Runs.neq rfl rfl rfl (by first | assumption | rfl)) ?_
      | refine E.GQ.run rfl rfl rfl (E.Runs.neq rfl rfl rfl (by first | assumption | rfl)) ?_
      | refine E.GL.run rfl rfl rfl (E.Runs.add rfl rfl rfl (by assumption)) ?_
      | refine E.GQ.run rfl rfl rfl (E.Runs.add rfl rfl rfl (by assumption)) ?_
      | refine E.GL.run rfl rfl rfl (E.Runs.sub rfl rfl rfl (by assumption)) ?_
      | refine E.GQ.run rfl rfl rfl (E.Runs.sub rfl rfl rfl (by assumption)) ?_
      | refine E.GL.run rfl rfl rfl (E.Runs.not rfl rfl) ?_
      | refine E.GQ.run rfl rfl rfl (E.Runs.not rfl rfl) ?_
      | refine E.GL.run rfl rfl rfl (E.Runs.extract rfl rfl rfl) ?_
      | refine E.GQ.run rfl rfl rfl (E.Runs.extract rfl rfl rfl) ?_
      | refine E.GL.run rfl rfl rfl (E.Runs.len rfl rfl (by assumption)) ?_
      | refine E.GQ.run rfl rfl rfl (E.Runs.len rfl rfl (by assumption)) ?_
      | refine E.GL.skip rfl rfl rfl ?_
      | refine E.GQ.skip rfl rfl rfl ?_
      | fail)
    refine E.GL.call rfl rfl rfl rfl ent14 E.evn ((works_calls wr).mono ?_)
    rintro e w5 ⟨rfl, l5⟩
    refine ⟨_, rfl, ?_⟩
    repeat (first
      | refine E.CG.seq ?_
      | refine E.CG.block ?_
      | refine E.CG.list ?_
      | refine E.CG.quietF (by kernel_rfl) rfl (by kernel_rfl) (by kernel_rfl) ?_
      | refine E.CG.cond_t rfl ?_
      | refine E.CG.cond_f rfl ?_
      | refine E.CG.skip ?_
      | refine E.CG.exit ?_
      | refine E.CG.ret ?_
      | refine E.CG.label ?_
      | refine E.GL.done ?_
      | refine E.GQ.done fun _ => ?_
      | refine E.QG.code ?_
      | refine E.QG.pass_exit ?_
      | refine E.QG.pass_ret ?_
      | refine E.QG.block_normal ?_
      | refine E.QG.block_ret ?_
      | refine E.QG.block_here ?_
      | refine E.QG.block_out rfl ?_
      | refine E.GL.run rfl rfl rfl (E.Runs.move rfl rfl) ?_
      | refine E.GQ.run rfl rfl rfl (E.Runs.move rfl rfl) ?_
      | refine E.GL.run rfl rfl rfl (E.Runs.assign rfl rfl) ?_
      | refine E.GQ.run rfl rfl rfl (E.Runs.assign rfl rfl) ?_
      | refine E.GL.run rfl rfl rfl (E.Runs.load rfl rfl (by assumption) (by assumption)) ?_
      | refine E.GQ.run rfl rfl rfl (E.Runs.load rfl rfl (by assumption) (by assumption)) ?_
      | refine E.GL.run rfl rfl rfl (E.Runs.fieldAddr rfl rfl (by assumption) rfl (by assumption) rfl) ?_
      | refine E.GQ.run rfl rfl rfl (E.Runs.fieldAddr rfl rfl (by assumption) rfl (by assumption) rfl) ?_
      | refine E.GL.run rfl rfl rfl (E.Runs.indexAddr rfl rfl rfl (by assumption) (by assumption) (by assumption) (by assumption) rfl) ?_
      | refine E.GQ.run rfl rfl rfl (E.Runs.indexAddr rfl rfl rfl (by assumption) (by assumption) (by assumption) (by assumption) rfl) ?_
      | refine E.GL.run rfl rfl rfl (E.Runs.gtr rfl rfl rfl (by first | assumption | rfl)) ?_
      | refine E.GQ.run rfl rfl rfl (E.Runs.gtr rfl rfl rfl (by first | assumption | rfl)) ?_
      | refine E.GL.run rfl rfl rfl (E.Runs.lss rfl rfl rfl (by first | assumption | rfl)) ?_
      | refine E.GQ.run rfl rfl rfl (E.Runs.lss rfl rfl rfl (by first | assumption | rfl)) ?_
      | refine E.GL.run rfl rfl rfl (E.Runs.leq rfl rfl rfl (by first | assumption | rfl)) ?_
      | refine E.GQ.run rfl rfl rfl (E.Runs.leq rfl rfl rfl (by first | assumption | rfl)) ?_
      | refine E.GL.run rfl rfl rfl (E.Runs.geq rfl rfl rfl (by first | assumption | rfl)) ?_
      | refine E.GQ.run rfl rfl rfl (E.Runs.geq rfl rfl rfl (by first | assumption | rfl)) ?_
      | refine E.GL.run rfl rfl rfl (E.Runs.pick_t rfl rfl rfl) ?_
      | refine E.GQ.run rfl rfl rfl (E.Runs.pick_t rfl rfl rfl) ?_
      | refine E.GL.run rfl rfl rfl (E.Runs.pick_f rfl rfl rfl) ?_
      | refine E.GQ.run rfl rfl rfl (E.Runs.pick_f rfl rfl rfl) ?_
      | refine E.GL.run rfl rfl rfl (E.Runs.eql rfl rfl rfl (by first | assumption | rfl)) ?_
      | refine E.GQ.run rfl rfl rfl (E.Runs.eql rfl rfl rfl (by first | assumption | rfl)) ?_
      | refine E.GL.run rfl rfl rfl (E.Runs.neq rfl rfl rfl (by first | assumption | rfl)) ?_
      | refine E.GQ.run rfl rfl rfl (E.Runs.neq rfl rfl rfl (by first | assumption | rfl)) ?_
      | refine E.GL.run rfl rfl rfl (E.Runs.add rfl rfl rfl (by assumption)) ?_
      | refine E.GQ.run rfl rfl rfl (E.Runs.add rfl rfl rfl (by assumption)) ?_
      | refine E.GL.run rfl rfl rfl (E.Runs.sub rfl rfl rfl (by assumption)) ?_
      | refine E.GQ.run rfl rfl rfl (E.Runs.sub rfl rfl rfl (by assumption)) ?_
      | refine E.GL.run rfl rfl rfl (E.Runs.not rfl rfl) ?_
      | refine E.GQ.run rfl rfl rfl (E.Runs.not rfl rfl) ?_
      | refine E.GL.run rfl rfl rfl (E.Runs.extract rfl rfl rfl) ?_
      | refine E.GQ.run rfl rfl rfl (E.Runs.extract rfl rfl rfl) ?_
      | refine E.GL.run rfl rfl rfl (E.Runs.len rfl rfl (by assumption)) ?_
      | refine E.GQ.run rfl rfl rfl (E.Runs.len rfl rfl (by assumption)) ?_
      | refine E.GL.skip rfl rfl rfl ?_
      | refine E.GQ.skip rfl rfl rfl ?_
      | fail)
    exact E.QG.result rfl rfl ⟨rfl, below_step l4 (below_step hw l5)⟩
end Go.Proofs.Ythdbkhdiaehblaa.T
