/- Texts of this claim, put together: A13, A14, E19, N10, A15, N11, A16, A17, A18, A19, A20, A21, E20. -/
import Derived.Test.YtiplichdhcmjdaaG3
namespace Go.Proofs.Ytiplichdhcmjdaa.T
open Go.RowKit Go.Proofs.YtiplichdhcmjdaaW.PrintWords Go.Proofs.YtiplichdhcmjdaaW.PrintMore
open Go.Proofs.Ytiplichdhcmjdaa.P
set_option linter.unusedVariables false
set_option linter.unusedSimpArgs false

theorem ok_b {w : World} {V : Ev} {m : Ea} {g : Nat} {C : List Hd} {G D : List (Option Nat)} {Ac Ab Aa : Option Addr} {cc cb ca : Nat} {F Fa : Nat → Bl → Option Int} (h : Op w V m g C G D Ac Ab Aa cc cb ca F Fa) : IsB V V.cs.length (F V.cs.length) := by
  obtain ⟨_, _, _, q⟩ := h.hb V.cs.length (Nat.le_refl _)
  exact q
theorem ok_a {w : World} {V : Ev} {m : Ea} {g : Nat} {C : List Hd} {G D : List (Option Nat)} {Ac Ab Aa : Option Addr} {cc cb ca : Nat} {F Fa : Nat → Bl → Option Int} (h : Op w V m g C G D Ac Ab Aa cc cb ca F Fa) : IsA V 0 (Fa 0) := by
  obtain ⟨_, _, _, q⟩ := h.ha 0 (Nat.zero_le _)
  exact q
theorem fewA_no {V : Ev} (h : ¬ VOk V) : fewA V = 0 := by unfold fewA; rw [errV_no h]; rfl
theorem fewA_none {V : Ev} (h : VOk V) (k : ∀ t, ¬ Truth V t) : fewA V = 0 := by unfold fewA; rw [errV_none h k]; rfl
theorem fewA_ok {V : Ev} (h : VOk V) {t : List Bl} (k : Truth V t) : fewA V = fewN V := by unfold fewA; rw [errV_ok h k]; rfl
theorem tA_no {V : Ev} {P : Nat → Prop} (h : ¬ VOk V) : tA V P = [] := by unfold tA; rw [errV_no h]; rfl
theorem tA_none {V : Ev} {P : Nat → Prop} (h : VOk V) (k : ∀ t, ¬ Truth V t) : tA V P = [] := by unfold tA; rw [errV_none h k]; rfl
theorem tA_ok {V : Ev} {P : Nat → Prop} (h : VOk V) {t : List Bl} (k : Truth V t) : tA V P = tL V P V.cs.length := by unfold tA; rw [errV_ok h k]; rfl
set_option maxRecDepth 100000 in
set_option maxHeartbeats 8000000 in

theorem fewest_calls (V : Ev) (m : Ea) (w : World) (hV : EvM w V m) (hs : Sz V) :
    Calls Try.prog 15 #[hv V m] w fun e w' => e = .returned (.tuple #[.int .i64 (fewA V), .int .i64 (errV V)]) ∧ Below w.heap.size w w' := by
  have hu3 := Try.underlying3
  have hu25 := Try.underlying25
  have hu28 := Try.underlying28
  refine E.enter (N := 16) Try.func15 rfl Try.ntmps15 (args := [hv V m]) (by simp) ?_
  have L := Below.refl w.heap.size w
  refine E.CG.seq ?_
  refine E.CG.list ?_
  refine E.GL.st rfl rfl rfl (E.ST.box rfl rfl fun g1 w1 e1 b1 l1 => ?_)
  have h1_L : w.heap.size ≤ g1 := by rw [e1]; exact L.size
  replace L := below_step L l1
  refine E.GL.run rfl rfl rfl (E.Runs.assign rfl rfl) ?_
  refine E.GL.run rfl rfl rfl (E.Runs.assign rfl rfl) ?_
  refine E.GL.done ?_
  refine E.QG.code ?_
  refine E.CG.seq ?_
  refine E.CG.list ?_
  refine E.GL.run rfl rfl rfl (E.Runs.loads (cs := [.slice m.A V.ps.length m.a, .slice m.B V.qs.length m.b, .slice m.C V.ts.length m.c, .slice m.D V.cs.length m.d]) rfl rfl hu25 rfl info25s (blk_cells b1)) ?_
  refine E.GL.st rfl rfl rfl (E.ST.call rfl ent49 (E.evc rfl E.evn) ((open_calls V m _ (hV.below L) hs).mono ?_))
  rintro e w8 ⟨p, Er, rfl, hO, l8⟩
  refine ⟨_, rfl, ?_⟩
  replace b1 := blk_below b1 l8
  replace L := below_step L l8
  refine E.GL.run rfl rfl rfl (E.Runs.move rfl rfl) ?_
  refine E.GL.run rfl rfl rfl (E.Runs.extract rfl rfl rfl) ?_
  refine E.GL.run rfl rfl rfl (E.Runs.extract rfl rfl rfl) ?_
  refine E.GL.run rfl rfl rfl (E.Runs.assign rfl rfl) ?_
  refine E.GL.run rfl rfl rfl (E.Runs.assign rfl rfl) ?_
  refine E.GL.done ?_
  refine E.QG.code ?_
  refine E.CG.seq ?_
  refine E.CG.seq ?_
  refine E.CG.list ?_
  refine E.GL.run rfl rfl rfl (E.Runs.move rfl rfl) ?_
  obtain ⟨hok, rfl, rfl⟩ | ⟨hok, hno, rfl, rfl⟩ | ⟨hok, rfl, g, C, G, D, Ac, Ab, Aa, cc, cb, ca, F, Fa, rfl, hF, hO⟩ := hO
  · refine E.GL.run rfl rfl rfl (E.Runs.neq rfl rfl rfl rfl) ?_
    refine E.GL.done ?_
    refine E.QG.code ?_
    refine E.CG.cond_t rfl ?_
    refine E.CG.seq ?_
    refine E.CG.list ?_
    refine E.GL.run rfl rfl rfl (E.Runs.move rfl rfl) ?_
    refine E.GL.run rfl rfl rfl (E.Runs.assign rfl rfl) ?_
    refine E.GL.run rfl rfl rfl (E.Runs.assign rfl rfl) ?_
    refine E.GL.done ?_
    refine E.QG.code ?_
    refine E.CG.ret ?_
    refine E.QG.pass_ret ?_
    exact E.QG.result2 rfl rfl rfl ⟨by rw [fewA_no hok, errV_no hok] <;> rfl, L⟩
  · refine E.GL.run rfl rfl rfl (E.Runs.neq rfl rfl rfl rfl) ?_
    refine E.GL.done ?_
    refine E.QG.code ?_
    refine E.CG.cond_t rfl ?_
    refine E.CG.seq ?_
    refine E.CG.list ?_
    refine E.GL.run rfl rfl rfl (E.Runs.move rfl rfl) ?_
    refine E.GL.run rfl rfl rfl (E.Runs.assign rfl rfl) ?_
    refine E.GL.run rfl rfl rfl (E.Runs.assign rfl rfl) ?_
    refine E.GL.done ?_
    refine E.QG.code ?_
    refine E.CG.ret ?_
    refine E.QG.pass_ret ?_
    exact E.QG.result2 rfl rfl rfl ⟨by rw [fewA_none hok hno, errV_none hok hno] <;> rfl, L⟩
  · obtain ⟨N, hN0, hN⟩ := few_some (ok_b hO) hF (ok_a hO)
    obtain ⟨t0, ht0⟩ := hN.1
    have hfN := fewN_eq hN
    refine E.GL.run rfl rfl rfl (E.Runs.neq rfl rfl rfl rfl) ?_
    refine E.GL.done ?_
    refine E.QG.code ?_
    refine E.CG.cond_f rfl ?_
    refine E.CG.skip ?_
    refine E.QG.code ?_
    refine E.CG.seq ?_
    refine E.CG.list ?_
    refine E.GL.run rfl rfl rfl (E.Runs.move rfl rfl) ?_
    refine E.GL.st rfl rfl rfl (E.ST.call rfl ent50 (E.evc rfl E.evn) ((flaws_calls V m g _ hO N hN0).mono ?_))
    rintro e w15 ⟨rfl, l15⟩
    refine ⟨_, rfl, ?_⟩
    replace b1 := blk_below b1 l15
    replace L := below_step L l15
    refine E.GL.run rfl rfl rfl (E.Runs.assign rfl rfl) ?_
    refine E.GL.run rfl rfl rfl (E.Runs.assign rfl rfl) ?_
    refine E.GL.done ?_
    refine E.QG.code ?_
    refine E.CG.ret ?_
    exact E.QG.result2 rfl rfl rfl ⟨by rw [fewA_ok hok ht0.1, hfN, errV_ok hok ht0.1], L⟩

set_option maxRecDepth 100000 in
set_option maxHeartbeats 8000000 in

theorem index_flawed (l : List S69) (A : Option Addr) (c : Nat) (w : World) (hr : Kd.C k69 w A l.length l) (hn : l.length ≤ 1000000) :
    Calls Try.prog 77 #[.slice A l.length c, .func (.func 56) #[] #[]] w fun e w' => ∃ r : Int, e = .returned (.int .i64 r) ∧ (0 ≤ r ↔ ∃ o ∈ l, 0 < o.f3) ∧ Below w.heap.size w w' := by
  have hu3 := Try.underlying3
  have hu69 := Try.underlying69
  have hu72 := Try.underlying72
  obtain ⟨z69, o69⟩ := info_some info69s (by decide)
  refine E.enter (N := 19) Try.func77 rfl Try.ntmps77 (args := [.slice A l.length c, .func (.func 56) #[] #[]]) (by simp) ?_
  have L := Below.refl w.heap.size w
  refine E.CG.seq ?_
  refine E.CG.list ?_
  refine E.GL.run rfl rfl rfl (E.Runs.assign rfl rfl) ?_
  refine E.GL.done ?_
  refine E.QG.code ?_
  refine E.CG.seq ?_
  refine E.CG.seq ?_
  refine E.CG.list ?_
  refine E.GL.run rfl rfl rfl (E.Runs.move rfl rfl) ?_
  refine E.GL.run rfl rfl rfl (E.Runs.len rfl rfl hu72) ?_
  refine E.GL.run rfl rfl rfl (E.Runs.move rfl rfl) ?_
  refine E.GL.done ?_
  refine E.QG.code ?_
  refine E.CG.block ?_
  have s2_L := L
  refine E.CG.loop (fun (i : Nat) => [(0, .slice A l.length c), (1, .func (.func 56) #[] #[]), (7, .int .i64 l.length), (8, .int .i64 i)]) (fun i w' => i ≤ l.length ∧ Below w.heap.size w w' ∧ ∀ k, k < i → ∀ o, l[k]? = some o → ¬ (0 < o.f3)) (fun i => l.length - i) 0 (E.subc rfl (E.subc rfl (E.subc rfl (E.subc rfl E.subn)))) ⟨Nat.zero_le _, L, fun k hk => by omega⟩ ?_
  rintro i w2 ⟨hi, L, hok⟩
  refine E.CG.seq ?_
  refine E.CG.list ?_
  refine E.GL.cmp rfl rfl rfl (fun _ h => (E.Runs.lss rfl rfl rfl h)) (fun h9 => ?_) (fun h9 => ?_)
  · obtain ⟨o, ho⟩ := get_ex (show i < l.length by omega)
    obtain ⟨ao, eO, XO⟩ := ch_at hr ho
    refine E.GL.done ?_
    refine E.QG.code ?_
    refine E.CG.seq ?_
    refine E.CG.cond_t rfl ?_
    refine E.CG.skip ?_
    refine E.QG.code ?_
    refine E.CG.seq ?_
    refine E.CG.block ?_
    refine E.CG.seq ?_
    refine E.CG.list ?_
    refine E.GL.run rfl rfl rfl (E.Runs.move rfl rfl) ?_
    refine E.GL.run rfl rfl rfl (E.Runs.assign rfl rfl) ?_
    refine E.GL.done ?_
    refine E.QG.code ?_
    refine E.CG.seq ?_
    refine E.CG.list ?_
    refine E.GL.run rfl rfl rfl (E.Runs.move rfl rfl) ?_
    refine E.GL.run rfl rfl rfl (E.Runs.move rfl rfl) ?_
    refine E.GL.run rfl rfl rfl (E.Runs.move rfl rfl) ?_
    refine E.GL.run rfl rfl rfl (E.Runs.indexAddrA (i := i) rfl rfl rfl hu72 z69 o69 (by omega) eO rfl) ?_
    refine E.GL.run rfl rfl rfl (E.Runs.loads (cs := [.int .i64 o.f0, .int .i64 o.f1, .int .i64 o.f2, .int .i64 o.f3]) rfl rfl hu69 rfl info69s (fun j v hv => pw_cell_below L (XO j v hv))) ?_
    by_cases h16 : 0 < o.f3
    · refine E.GL.st rfl rfl rfl (E.ST.callV (cap := []) rfl ent56 rfl (E.evc rfl E.evn) ((flawed_calls o true (iff_of_true rfl h16) _).mono ?_))
      rintro e w16 ⟨rfl, l16⟩
      refine ⟨_, rfl, ?_⟩
      replace L := below_step L l16
      refine E.GL.done ?_
      refine E.QG.code ?_
      refine E.CG.cond_t rfl ?_
      refine E.CG.seq ?_
      refine E.CG.list ?_
      refine E.GL.run rfl rfl rfl (E.Runs.move rfl rfl) ?_
      refine E.GL.run rfl rfl rfl (E.Runs.assign rfl rfl) ?_
      refine E.GL.done ?_
      refine E.QG.code ?_
      refine E.CG.ret ?_
      refine E.QG.block_ret ?_
      refine E.QG.pass_ret ?_
      refine E.QG.pass_ret ?_
      refine E.QG.block_ret ?_
      refine E.QG.pass_ret ?_
      exact E.QG.result rfl rfl ⟨_, rfl, iff_of_true (by omega) ⟨o, List.mem_of_getElem? ho, h16⟩, L⟩
    · refine E.GL.st rfl rfl rfl (E.ST.callV (cap := []) rfl ent56 rfl (E.evc rfl E.evn) ((flawed_calls o false (iff_of_false Bool.false_ne_true h16) _).mono ?_))
      rintro e w16 ⟨rfl, l16⟩
      refine ⟨_, rfl, ?_⟩
      replace L := below_step L l16
      refine E.GL.done ?_
      refine E.QG.code ?_
      refine E.CG.cond_f rfl ?_
      refine E.CG.skip ?_
      refine E.QG.block_normal ?_
      refine E.QG.code ?_
      refine E.CG.list ?_
      refine E.GL.run rfl rfl rfl (E.Runs.add rfl rfl rfl (IntWalk.i64_in _ (by omega))) ?_
      refine E.GL.run rfl rfl rfl (E.Runs.move rfl rfl) ?_
      refine E.GL.done ?_
      exact E.QG.round (i + 1) (E.subc rfl (E.subc rfl (E.subc rfl (E.subc rfl E.subn)))) ⟨by omega, L, all_more hok ho h16⟩ (by omega)
  · refine E.GL.done ?_
    refine E.QG.code ?_
    refine E.CG.seq ?_
    refine E.CG.cond_f rfl ?_
    refine E.CG.exit ?_
    refine E.QG.pass_exit ?_
    refine E.QG.pass_exit ?_
    refine E.QG.block_here ?_
    refine E.QG.code ?_
    refine E.CG.seq ?_
    refine E.CG.list ?_
    refine E.GL.run rfl rfl rfl (E.Runs.assign rfl rfl) ?_
    refine E.GL.done ?_
    refine E.QG.code ?_
    refine E.CG.ret ?_
    exact E.QG.result rfl rfl ⟨_, rfl, iff_of_false (by omega) (fun ⟨o, k1, k2⟩ => all_done hok (by omega) o k1 k2), L⟩

set_option maxRecDepth 100000 in
set_option maxHeartbeats 8000000 in

theorem contains_flawed (l : List S69) (A : Option Addr) (c : Nat) (w : World) (hr : Kd.C k69 w A l.length l) (hn : l.length ≤ 1000000) (r : Bool) (hb : r = true ↔ ∃ o ∈ l, 0 < o.f3) :
    Calls Try.prog 55 #[.slice A l.length c, .func (.func 56) #[] #[]] w fun e w' => e = .returned (.bool r) ∧ Below w.heap.size w w' := by
  have hu3 := Try.underlying3
  have hu72 := Try.underlying72
  refine E.enter (N := 9) Try.func55 rfl Try.ntmps55 (args := [.slice A l.length c, .func (.func 56) #[] #[]]) (by simp) ?_
  have L := Below.refl w.heap.size w
  refine E.CG.seq ?_
  refine E.CG.list ?_
  refine E.GL.run rfl rfl rfl (E.Runs.assign rfl rfl) ?_
  refine E.GL.done ?_
  refine E.QG.code ?_
  refine E.CG.seq ?_
  refine E.CG.list ?_
  refine E.GL.run rfl rfl rfl (E.Runs.move rfl rfl) ?_
  refine E.GL.run rfl rfl rfl (E.Runs.move rfl rfl) ?_
  refine E.GL.st rfl rfl rfl (E.ST.call rfl ent77 (E.evc rfl (E.evc rfl E.evn)) ((index_flawed l A c _ (Kd.C_below hr L) hn).mono ?_))
  rintro e w7 ⟨q, rfl, hq, l7⟩
  refine ⟨_, rfl, ?_⟩
  replace L := below_step L l7
  refine E.GL.cmp rfl rfl rfl (fun _ h => (E.Runs.geq rfl rfl rfl h)) (fun h8 => ?_) (fun h8 => ?_)
  · refine E.GL.run rfl rfl rfl (E.Runs.assign rfl rfl) ?_
    refine E.GL.done ?_
    refine E.QG.code ?_
    refine E.CG.ret ?_
    exact E.QG.result rfl rfl ⟨by rw [hb.mpr (hq.mp h8)], L⟩
  · refine E.GL.run rfl rfl rfl (E.Runs.assign rfl rfl) ?_
    refine E.GL.done ?_
    refine E.QG.code ?_
    refine E.CG.ret ?_
    exact E.QG.result rfl rfl ⟨by rw [bool_no hb (fun k => h8 (hq.mpr k))], L⟩

set_option maxRecDepth 100000 in
set_option maxHeartbeats 8000000 in

theorem clo_flawed (l : List S69) (A : Option Addr) (c : Nat) (w : World) (hr : Kd.C k69 w A l.length l) (hn : l.length ≤ 1000000) (r : Bool) (hb : r = true ↔ ∃ o ∈ l, 0 < o.f3) :
    Calls Try.prog 54 #[.slice A l.length c] w fun e w' => e = .returned (.bool r) ∧ Below w.heap.size w w' := by
  have hu3 := Try.underlying3
  have hu72 := Try.underlying72
  refine E.enter (N := 5) Try.func54 rfl Try.ntmps54 (args := [.slice A l.length c]) (by simp) ?_
  have L := Below.refl w.heap.size w
  refine E.CG.seq ?_
  refine E.CG.list ?_
  refine E.GL.run rfl rfl rfl (E.Runs.assign rfl rfl) ?_
  refine E.GL.done ?_
  refine E.QG.code ?_
  refine E.CG.seq ?_
  refine E.CG.list ?_
  refine E.GL.run rfl rfl rfl (E.Runs.move rfl rfl) ?_
  by_cases h4 : ∃ o ∈ l, 0 < o.f3
  · refine E.GL.st rfl rfl rfl (E.ST.call rfl ent55 (E.evc rfl (E.evc rfl E.evn)) ((contains_flawed l A c _ (Kd.C_below hr L) hn true (iff_of_true rfl h4)).mono ?_))
    rintro e w4 ⟨rfl, l4⟩
    refine ⟨_, rfl, ?_⟩
    replace L := below_step L l4
    refine E.GL.run rfl rfl rfl (E.Runs.assign rfl rfl) ?_
    refine E.GL.done ?_
    refine E.QG.code ?_
    refine E.CG.ret ?_
    exact E.QG.result rfl rfl ⟨by rw [hb.mpr h4] <;> rfl, L⟩
  · refine E.GL.st rfl rfl rfl (E.ST.call rfl ent55 (E.evc rfl (E.evc rfl E.evn)) ((contains_flawed l A c _ (Kd.C_below hr L) hn false (iff_of_false Bool.false_ne_true h4)).mono ?_))
    rintro e w4 ⟨rfl, l4⟩
    refine ⟨_, rfl, ?_⟩
    replace L := below_step L l4
    refine E.GL.run rfl rfl rfl (E.Runs.assign rfl rfl) ?_
    refine E.GL.done ?_
    refine E.QG.code ?_
    refine E.CG.ret ?_
    exact E.QG.result rfl rfl ⟨by rw [bool_no hb h4] <;> rfl, L⟩

set_option maxRecDepth 100000 in
set_option maxHeartbeats 8000000 in

theorem tills_flawed (V : Ev) (m : Ea) (w : World) (hV : EvM w V m) (hs : Sz V) :
    Calls Try.prog 53 #[hv V m, .func (.func 54) #[] #[]] w fun e w' => ∃ v, e = .returned (.tuple #[v, .int .i64 (errV V)]) ∧ Kd.R kI 3 w' w.heap.size (fun _ => True) v (tA V (suspP V)) ∧ Below w.heap.size w w' := by
  have hsc := hs.c
  have hu3 := Try.underlying3
  have hu22 := Try.underlying22
  have hu23 := Try.underlying23
  have hu25 := Try.underlying25
  have hu28 := Try.underlying28
  have hu72 := Try.underlying72
  obtain ⟨z23, o23⟩ := info_some info23s (by decide)
  refine E.enter (N := 35) Try.func53 rfl Try.ntmps53 (args := [hv V m, .func (.func 54) #[] #[]]) (by simp) ?_
  have L := Below.refl w.heap.size w
  refine E.CG.seq ?_
  refine E.CG.list ?_
  refine E.GL.st rfl rfl rfl (E.ST.box rfl rfl fun g2 w2 e2 b2 l2 => ?_)
  have h2_L : w.heap.size ≤ g2 := by rw [e2]; exact L.size
  replace L := below_step L l2
  refine E.GL.run rfl rfl rfl (E.Runs.assign rfl rfl) ?_
  refine E.GL.run rfl rfl rfl (E.Runs.assign rfl rfl) ?_
  refine E.GL.done ?_
  refine E.QG.code ?_
  refine E.CG.seq ?_
  refine E.CG.list ?_
  refine E.GL.run rfl rfl rfl (E.Runs.loads (cs := [.slice m.A V.ps.length m.a, .slice m.B V.qs.length m.b, .slice m.C V.ts.length m.c, .slice m.D V.cs.length m.d]) rfl rfl hu25 rfl info25s (blk_cells b2)) ?_
  refine E.GL.st rfl rfl rfl (E.ST.call rfl ent49 (E.evc rfl E.evn) ((open_calls V m _ (hV.below L) hs).mono ?_))
  rintro e w12 ⟨p, Er, rfl, hO, l12⟩
  refine ⟨_, rfl, ?_⟩
  replace b2 := blk_below b2 l12
  replace L := below_step L l12
  refine E.GL.run rfl rfl rfl (E.Runs.move rfl rfl) ?_
  refine E.GL.run rfl rfl rfl (E.Runs.extract rfl rfl rfl) ?_
  refine E.GL.run rfl rfl rfl (E.Runs.extract rfl rfl rfl) ?_
  refine E.GL.run rfl rfl rfl (E.Runs.assign rfl rfl) ?_
  refine E.GL.run rfl rfl rfl (E.Runs.assign rfl rfl) ?_
  refine E.GL.done ?_
  refine E.QG.code ?_
  refine E.CG.seq ?_
  refine E.CG.seq ?_
  refine E.CG.list ?_
  refine E.GL.run rfl rfl rfl (E.Runs.move rfl rfl) ?_
  obtain ⟨hok, rfl, rfl⟩ | ⟨hok, hno, rfl, rfl⟩ | ⟨hok, rfl, g, C, G, D, Ac, Ab, Aa, cc, cb, ca, F, Fa, rfl, hF, hO⟩ := hO
  · refine E.GL.run rfl rfl rfl (E.Runs.neq rfl rfl rfl rfl) ?_
    refine E.GL.done ?_
    refine E.QG.code ?_
    refine E.CG.cond_t rfl ?_
    refine E.CG.seq ?_
    refine E.CG.list ?_
    refine E.GL.run rfl rfl rfl (E.Runs.move rfl rfl) ?_
    refine E.GL.run rfl rfl rfl (E.Runs.assign rfl rfl) ?_
    refine E.GL.run rfl rfl rfl (E.Runs.assign rfl rfl) ?_
    refine E.GL.done ?_
    refine E.QG.code ?_
    refine E.CG.ret ?_
    refine E.QG.pass_ret ?_
    exact E.QG.result2 rfl rfl rfl ⟨_, by rw [errV_no hok] <;> rfl, by rw [tA_no hok]; exact Kd.R_nil _ _ _ _ _, L⟩
  · refine E.GL.run rfl rfl rfl (E.Runs.neq rfl rfl rfl rfl) ?_
    refine E.GL.done ?_
    refine E.QG.code ?_
    refine E.CG.cond_t rfl ?_
    refine E.CG.seq ?_
    refine E.CG.list ?_
    refine E.GL.run rfl rfl rfl (E.Runs.move rfl rfl) ?_
    refine E.GL.run rfl rfl rfl (E.Runs.assign rfl rfl) ?_
    refine E.GL.run rfl rfl rfl (E.Runs.assign rfl rfl) ?_
    refine E.GL.done ?_
    refine E.QG.code ?_
    refine E.CG.ret ?_
    refine E.QG.pass_ret ?_
    exact E.QG.result2 rfl rfl rfl ⟨_, by rw [errV_none hok hno] <;> rfl, by rw [tA_none hok hno]; exact Kd.R_nil _ _ _ _ _, L⟩
  · obtain ⟨N, hN0, hN⟩ := few_some (ok_b hO) hF (ok_a hO)
    obtain ⟨t0, ht0⟩ := hN.1
    have hfN := fewN_eq hN
    rw [← hfN] at hN hN0
    have K := Below.refl w12.heap.size w12
    have hc4 := hok.c4
    refine E.GL.run rfl rfl rfl (E.Runs.neq rfl rfl rfl rfl) ?_
    refine E.GL.done ?_
    refine E.QG.code ?_
    refine E.CG.cond_f rfl ?_
    refine E.CG.skip ?_
    refine E.QG.code ?_
    refine E.CG.seq ?_
    refine E.CG.list ?_
    refine E.GL.run rfl rfl rfl (E.Runs.assign rfl rfl) ?_
    refine E.GL.done ?_
    refine E.QG.code ?_
    refine E.CG.seq ?_
    refine E.CG.seq ?_
    refine E.CG.list ?_
    refine E.GL.run rfl rfl rfl (E.Runs.fieldAddr rfl rfl hu25 rfl (by assumption) rfl) ?_
    refine E.GL.run rfl rfl rfl (E.Runs.load1 rfl rfl hu23 rfl (by first | assumption | exact E.blkc (by assumption) rfl | exact pw_cell_below L (by assumption))) ?_
    refine E.GL.run rfl rfl rfl (E.Runs.len rfl rfl hu23) ?_
    refine E.GL.run rfl rfl rfl (E.Runs.move rfl rfl) ?_
    refine E.GL.done ?_
    refine E.QG.code ?_
    refine E.CG.block ?_
    have s6_b2 := b2
    have s6_L := L
    refine E.CG.loop2 (fun (i : Nat) (v8 : Value) => [(1, .func (.func 54) #[] #[]), (2, .pointer (some ⟨g2, 0, none⟩)), (6, .pointer (some ⟨g, 0, none⟩)), (8, v8), (20, .int .i64 V.cs.length), (21, .int .i64 i)]) (fun i v8 w' => i ≤ V.cs.length ∧ Kd.R kI 3 w' w12.heap.size (fun _ => True) v8 (tL V (suspP V) i) ∧ w'.heap[g2]? = some (.cells #[.slice m.A V.ps.length m.a, .slice m.B V.qs.length m.b, .slice m.C V.ts.length m.c, .slice m.D V.cs.length m.d] 25 (0, 0)) ∧ Below w12.heap.size w12 w') (fun i v8 => V.cs.length - i) 0 (.slice none 0 0) (E.subc rfl (E.subc rfl (E.subc rfl (E.subc rfl (E.subc rfl (E.subc rfl E.subn)))))) ⟨Nat.zero_le _, Kd.R_nil _ _ _ _ _, b2, K⟩ ?_
    rintro i v8 w6 ⟨hi, R8, b2, K⟩
    refine E.CG.seq ?_
    refine E.CG.list ?_
    refine E.GL.cmp rfl rfl rfl (fun _ h => (E.Runs.lss rfl rfl rfl h)) (fun h22 => ?_) (fun h22 => ?_)
    · refine E.GL.done ?_
      refine E.QG.code ?_
      refine E.CG.seq ?_
      refine E.CG.cond_t rfl ?_
      refine E.CG.skip ?_
      refine E.QG.code ?_
      refine E.CG.seq ?_
      refine E.CG.block ?_
      refine E.CG.seq ?_
      refine E.CG.list ?_
      refine E.GL.run rfl rfl rfl (E.Runs.move rfl rfl) ?_
      refine E.GL.run rfl rfl rfl (E.Runs.assign rfl rfl) ?_
      refine E.GL.done ?_
      refine E.QG.code ?_
      refine E.CG.seq ?_
      refine E.CG.list ?_
      refine E.GL.run rfl rfl rfl (E.Runs.move rfl rfl) ?_
      refine E.GL.run rfl rfl rfl (E.Runs.move rfl rfl) ?_
      refine E.GL.run rfl rfl rfl (E.Runs.move rfl rfl) ?_
      refine E.GL.st rfl rfl rfl (E.ST.call rfl ent76 (E.evc rfl (E.evc rfl E.evn)) ((likely_calls V m g _ (hO.below K) hok (fewN V) hN0 hN i (by omega)).mono ?_))
      rintro e w27 ⟨v27, rfl, R27, l27⟩
      refine ⟨_, rfl, ?_⟩
      replace b2 := blk_below b2 l27
      replace R8 := Kd.R_below R8 l27
      replace K := below_step K l27
      obtain ⟨A27, c27, rfl, _, hR27⟩ := Kd.R_reads R27
      have hl27 : (lkL V (fewN V) i (chs V (ct V i))).length ≤ 1000000 := by
        obtain ⟨c, hc⟩ := get_ex (show i < V.cs.length by omega)
        have hcl := chs_len hok (hok.c c (List.mem_of_getElem? hc))
        have := lkL_len V (fewN V) i (chs V (ct V i))
        rw [ct_of hc] at this
        rw [ct_of hc]
        omega
      by_cases h28 : suspP V i
      · refine E.GL.st rfl rfl rfl (E.ST.callV (cap := []) rfl ent54 rfl (E.evc rfl E.evn) ((clo_flawed (lkL V (fewN V) i (chs V (ct V i))) A27 c27 _ hR27 hl27 true (by rw [← susp_iff hok (show i < V.cs.length by omega)]; exact (iff_of_true rfl h28))).mono ?_))
        rintro e w28 ⟨rfl, l28⟩
        refine ⟨_, rfl, ?_⟩
        replace K := below_step K l28
        replace R8 := Kd.R_below R8 l28
        replace b2 := blk_below b2 l28
        refine E.GL.done ?_
        refine E.QG.code ?_
        refine E.CG.cond_t rfl ?_
        refine E.CG.list ?_
        refine E.GL.run rfl rfl rfl (E.Runs.move rfl rfl) ?_
        refine E.GL.run rfl rfl rfl (E.Runs.move rfl rfl) ?_
        refine E.GL.st rfl rfl rfl (E.ST.lit rfl (E.epc rfl E.epn) (lit22 _) ?_)
        refine E.GL.st rfl rfl rfl (E.ST.append kI w12.heap.size (w0 := w12) (s := .tmp 29) (x := .tmp 31) rfl hu22 info3 rfl (by decide) (by decide) (i : Int) rfl rfl rfl (fun _ _ => trivial) R8 K K.size (by have := tL_len V (suspP V) i; omega) fun u32 w32 r32 k32 gr32 => ?_)
        replace b2 := blk_grown b2 gr32 (Kd.R_ne R8 b2 (by decide))
        replace K := k32
        refine E.GL.run rfl rfl rfl (E.Runs.assign rfl rfl) ?_
        refine E.GL.done ?_
        refine E.QG.block_normal ?_
        refine E.QG.code ?_
        refine E.CG.list ?_
        refine E.GL.run rfl rfl rfl (E.Runs.add rfl rfl rfl (IntWalk.i64_in _ (by omega))) ?_
        refine E.GL.run rfl rfl rfl (E.Runs.move rfl rfl) ?_
        refine E.GL.done ?_
        exact E.QG.round2 (d := .slice none 0 0) (i + 1) _ (E.subc rfl (E.subc rfl (E.subc rfl (E.subc rfl (E.subc rfl (E.subc rfl E.subn)))))) (by first | exact ⟨by omega, by rw [tL_yes h28]; exact r32, b2, K⟩ | exact ⟨by omega, by rw [tL_no h28]; exact R8, b2, K⟩ | fail) (by omega)
      · refine E.GL.st rfl rfl rfl (E.ST.callV (cap := []) rfl ent54 rfl (E.evc rfl E.evn) ((clo_flawed (lkL V (fewN V) i (chs V (ct V i))) A27 c27 _ hR27 hl27 false (by rw [← susp_iff hok (show i < V.cs.length by omega)]; exact (iff_of_false Bool.false_ne_true h28))).mono ?_))
        rintro e w28 ⟨rfl, l28⟩
        refine ⟨_, rfl, ?_⟩
        replace K := below_step K l28
        replace R8 := Kd.R_below R8 l28
        replace b2 := blk_below b2 l28
        refine E.GL.done ?_
        refine E.QG.code ?_
        refine E.CG.cond_f rfl ?_
        refine E.CG.skip ?_
        refine E.QG.block_normal ?_
        refine E.QG.code ?_
        refine E.CG.list ?_
        refine E.GL.run rfl rfl rfl (E.Runs.add rfl rfl rfl (IntWalk.i64_in _ (by omega))) ?_
        refine E.GL.run rfl rfl rfl (E.Runs.move rfl rfl) ?_
        refine E.GL.done ?_
        exact E.QG.round2 (d := .slice none 0 0) (i + 1) _ (E.subc rfl (E.subc rfl (E.subc rfl (E.subc rfl (E.subc rfl (E.subc rfl E.subn)))))) (by first | exact ⟨by omega, by rw [tL_yes h28]; exact r32, b2, K⟩ | exact ⟨by omega, by rw [tL_no h28]; exact R8, b2, K⟩ | fail) (by omega)
    · refine E.GL.done ?_
      refine E.QG.code ?_
      refine E.CG.seq ?_
      refine E.CG.cond_f rfl ?_
      refine E.CG.exit ?_
      refine E.QG.pass_exit ?_
      refine E.QG.pass_exit ?_
      refine E.QG.block_here ?_
      refine E.QG.code ?_
      refine E.CG.seq ?_
      refine E.CG.list ?_
      refine E.GL.run rfl rfl rfl (E.Runs.move rfl rfl) ?_
      refine E.GL.run rfl rfl rfl (E.Runs.assign rfl rfl) ?_
      refine E.GL.run rfl rfl rfl (E.Runs.assign rfl rfl) ?_
      refine E.GL.done ?_
      refine E.QG.code ?_
      refine E.CG.ret ?_
      exact E.QG.result2 rfl rfl rfl ⟨_, by rw [errV_ok hok ht0.1], by rw [tA_ok hok ht0.1, show V.cs.length = i by omega]; exact Kd.R_lower R8 s6_L.size, below_step s6_L K⟩

set_option maxRecDepth 100000 in
set_option maxHeartbeats 8000000 in

theorem suspects_calls (V : Ev) (m : Ea) (w : World) (hV : EvM w V m) (hs : Sz V) :
    Calls Try.prog 17 #[hv V m] w fun e w' => ∃ v, e = .returned (.tuple #[v, .int .i64 (errV V)]) ∧ Kd.R kI 3 w' w.heap.size (fun _ => True) v (tA V (suspP V)) ∧ Below w.heap.size w w' := by
  have hu3 := Try.underlying3
  have hu25 := Try.underlying25
  refine E.enter (N := 8) Try.func17 rfl Try.ntmps17 (args := [hv V m]) (by simp) ?_
  have L := Below.refl w.heap.size w
  refine E.CG.seq ?_
  refine E.CG.list ?_
  refine E.GL.st rfl rfl rfl (E.ST.box rfl rfl fun g1 w1 e1 b1 l1 => ?_)
  have h1_L : w.heap.size ≤ g1 := by rw [e1]; exact L.size
  replace L := below_step L l1
  refine E.GL.run rfl rfl rfl (E.Runs.assign rfl rfl) ?_
  refine E.GL.run rfl rfl rfl (E.Runs.assign rfl rfl) ?_
  refine E.GL.done ?_
  refine E.QG.code ?_
  refine E.CG.seq ?_
  refine E.CG.list ?_
  refine E.GL.run rfl rfl rfl (E.Runs.loads (cs := [.slice m.A V.ps.length m.a, .slice m.B V.qs.length m.b, .slice m.C V.ts.length m.c, .slice m.D V.cs.length m.d]) rfl rfl hu25 rfl info25s (blk_cells b1)) ?_
  have L0 := L
  refine E.GL.st rfl rfl rfl (E.ST.call rfl ent53 (E.evc rfl (E.evc rfl E.evn)) ((tills_flawed V m _ (hV.below L) hs).mono ?_))
  rintro e w5 ⟨v, rfl, R, l5⟩
  refine ⟨_, rfl, ?_⟩
  replace b1 := blk_below b1 l5
  replace L := below_step L l5
  refine E.GL.run rfl rfl rfl (E.Runs.extract rfl rfl rfl) ?_
  refine E.GL.run rfl rfl rfl (E.Runs.extract rfl rfl rfl) ?_
  refine E.GL.run rfl rfl rfl (E.Runs.assign rfl rfl) ?_
  refine E.GL.run rfl rfl rfl (E.Runs.assign rfl rfl) ?_
  refine E.GL.done ?_
  refine E.QG.code ?_
  refine E.CG.ret ?_
  exact E.QG.result2 rfl rfl rfl ⟨_, rfl, Kd.R_lower R L0.size, L⟩

end Go.Proofs.Ytiplichdhcmjdaa.T
namespace Go.Proofs.Ytiplichdhcmjdaa.T
open Go.RowKit Go.Proofs.YtiplichdhcmjdaaW.PrintWords Go.Proofs.YtiplichdhcmjdaaW.PrintMore
open Go.Proofs.Ytiplichdhcmjdaa.P
set_option linter.unusedVariables false
set_option linter.unusedSimpArgs false

theorem open_ok {w : World} {V : Ev} {m : Ea} {p : Value} {Er : Int} (ok : VOk V) (h : OpenR w V m p Er) : ((∀ t, ¬ Truth V t) ∧ p = .pointer none ∧ Er = 3) ∨ (Er = 0 ∧ ∃ g C G D Ac Ab Aa cc cb ca F Fa, p = .pointer (some ⟨g, 0, none⟩) ∧ F V.cs.length (bl V.qs) ≠ none ∧ Op w V m g C G D Ac Ab Aa cc cb ca F Fa) := by
  rcases h with ⟨k, _⟩ | ⟨_, h⟩ | ⟨_, h⟩
  · exact absurd ok k
  · exact .inl h
  · exact .inr h
def mnL (q : Bl → Int) (x : Int) (l : List S69) : Int := l.foldl (fun a o => mn a (q o.b)) x
def mxL (q : Bl → Int) (x : Int) (l : List S69) : Int := l.foldl (fun a o => mx a (q o.b)) x
theorem mnL_step {q : Bl → Int} {x : Int} {l : List S69} {i : Nat} {o : S69} (ho : l[i]? = some o) : mnL q x (l.take (i + 1)) = mn (mnL q x (l.take i)) (q o.b) := by
  unfold mnL
  rw [List.take_add_one, ho, Option.toList_some, List.foldl_append]
  rfl
theorem mxL_step {q : Bl → Int} {x : Int} {l : List S69} {i : Nat} {o : S69} (ho : l[i]? = some o) : mxL q x (l.take (i + 1)) = mx (mxL q x (l.take i)) (q o.b) := by
  unfold mxL
  rw [List.take_add_one, ho, Option.toList_some, List.foldl_append]
  rfl
theorem mnL_is {q : Bl → Int} : ∀ (l : List S69) (x : Int), (mnL q x l = x ∨ ∃ o ∈ l, q o.b = mnL q x l) ∧ mnL q x l ≤ x ∧ ∀ o ∈ l, mnL q x l ≤ q o.b
  | [], x => ⟨.inl rfl, Int.le_refl _, fun o h => by cases h⟩
  | o :: l, x => by
    obtain ⟨h1, h2, h3⟩ := mnL_is (q := q) l (mn x (q o.b))
    have e : mnL q x (o :: l) = mnL q (mn x (q o.b)) l := rfl
    have hm : mn x (q o.b) = x ∨ mn x (q o.b) = q o.b := by unfold mn; split <;> simp
    have hle : mn x (q o.b) ≤ x ∧ mn x (q o.b) ≤ q o.b := by unfold mn; split <;> omega
    rw [e]
    refine ⟨?_, by omega, fun o' ho' => ?_⟩
    · rcases h1 with h1 | ⟨o', ho', h1⟩
      · rcases hm with hm | hm
        · exact .inl (h1.trans hm)
        · exact .inr ⟨o, List.mem_cons_self, by rw [h1, hm]⟩
      · exact .inr ⟨o', List.mem_cons_of_mem _ ho', h1⟩
    · rcases List.mem_cons.mp ho' with rfl | ho'
      · omega
      · exact h3 o' ho'
theorem mxL_is {q : Bl → Int} : ∀ (l : List S69) (x : Int), (mxL q x l = x ∨ ∃ o ∈ l, q o.b = mxL q x l) ∧ x ≤ mxL q x l ∧ ∀ o ∈ l, q o.b ≤ mxL q x l
  | [], x => ⟨.inl rfl, Int.le_refl _, fun o h => by cases h⟩
  | o :: l, x => by
    obtain ⟨h1, h2, h3⟩ := mxL_is (q := q) l (mx x (q o.b))
    have e : mxL q x (o :: l) = mxL q (mx x (q o.b)) l := rfl
    have hm : mx x (q o.b) = x ∨ mx x (q o.b) = q o.b := by unfold mx; split <;> simp
    have hle : x ≤ mx x (q o.b) ∧ q o.b ≤ mx x (q o.b) := by unfold mx; split <;> omega
    rw [e]
    refine ⟨?_, by omega, fun o' ho' => ?_⟩
    · rcases h1 with h1 | ⟨o', ho', h1⟩
      · rcases hm with hm | hm
        · exact .inl (h1.trans hm)
        · exact .inr ⟨o, List.mem_cons_self, by rw [h1, hm]⟩
      · exact .inr ⟨o', List.mem_cons_of_mem _ ho', h1⟩
    · rcases List.mem_cons.mp ho' with rfl | ho'
      · omega
      · exact h3 o' ho'
theorem errT_no {V : Ev} {till sh : Int} (h : ¬ VOk V) : errT V till sh = 100 := by unfold errT; rw [if_neg h]
theorem errT_arg {V : Ev} {till sh : Int} (h : VOk V) (k : ¬ ((0 ≤ till ∧ till ≤ (V.cs.length : Int) - 1) ∧ (0 ≤ sh ∧ sh ≤ (V.ps.length : Int) - 1))) : errT V till sh = 1 := by unfold errT; rw [if_pos h, if_neg k]
theorem errT_none {V : Ev} {till sh : Int} (h : VOk V) (k : (0 ≤ till ∧ till ≤ (V.cs.length : Int) - 1) ∧ (0 ≤ sh ∧ sh ≤ (V.ps.length : Int) - 1)) (n : ∀ t, ¬ Truth V t) : errT V till sh = 3 := by unfold errT; rw [if_pos h, if_pos k, if_neg (fun ⟨t, ht⟩ => n t ht)]
theorem errT_ok {V : Ev} {till sh : Int} (h : VOk V) (k : (0 ≤ till ∧ till ≤ (V.cs.length : Int) - 1) ∧ (0 ≤ sh ∧ sh ≤ (V.ps.length : Int) - 1)) {t : List Bl} (ht : Truth V t) : errT V till sh = 0 := by unfold errT; rw [if_pos h, if_pos k, if_pos ⟨t, ht⟩]
theorem loV_no {V : Ev} {till sh : Int} {q : Bl → Int} (h : errT V till sh ≠ 0) : loV V till sh q = 0 := by unfold loV; rw [if_neg h]
theorem hiV_no {V : Ev} {till sh : Int} {q : Bl → Int} (h : errT V till sh ≠ 0) : hiV V till sh q = 0 := by unfold hiV; rw [if_neg h]
theorem loV_ok {V : Ev} {till sh : Int} {q : Bl → Int} {m : Int} (h : errT V till sh = 0) (h1 : valP V till.toNat q m) (h2 : ∀ n, valP V till.toNat q n → m ≤ n) : loV V till sh q = m := by unfold loV; rw [if_pos h, mnI_eq h1 h2]
theorem hiV_ok {V : Ev} {till sh : Int} {q : Bl → Int} {m : Int} (h : errT V till sh = 0) (h1 : valP V till.toNat q m) (h2 : ∀ n, valP V till.toNat q n → n ≤ m) : hiV V till sh q = m := by unfold hiV; rw [if_pos h, mxI_eq h1 h2]
theorem span_ok {V : Ev} {till sh : Int} {q : Bl → Int} (ok : VOk V) (hi : till.toNat < V.cs.length) (h : errT V till sh = 0) {o0 : S69} {l : List S69} (hl : l = lkL V (fewN V) till.toNat (chs V (ct V till.toNat))) (h0 : o0 ∈ l) : loV V till sh q = mnL q (q o0.b) l ∧ hiV V till sh q = mxL q (q o0.b) l := by
  subst hl
  obtain ⟨a1, a2, a3⟩ := mnL_is (q := q) (lkL V (fewN V) till.toNat (chs V (ct V till.toNat))) (q o0.b)
  obtain ⟨b1, b2, b3⟩ := mxL_is (q := q) (lkL V (fewN V) till.toNat (chs V (ct V till.toNat))) (q o0.b)
  constructor
  · refine loV_ok h ((val_iff ok hi).mpr ?_) fun n hn => ?_
    · rcases a1 with a1 | a1
      · exact ⟨o0, h0, a1.symm⟩
      · exact a1
    · obtain ⟨o, ho, rfl⟩ := (val_iff ok hi).mp hn
      exact a3 o ho
  · refine hiV_ok h ((val_iff ok hi).mpr ?_) fun n hn => ?_
    · rcases b1 with b1 | b1
      · exact ⟨o0, h0, b1.symm⟩
      · exact b1
    · obtain ⟨o, ho, rfl⟩ := (val_iff ok hi).mp hn
      exact b3 o ho
set_option maxRecDepth 100000 in
theorem build34z (W : World) : (Instr.build 34 #[]).run Try.prog W = .ok (.agg #[.int .i64 0, .int .i64 0]) W := by
  have hu3 := Try.underlying3
  have hu34 := Try.underlying34
  go_simp
set_option maxRecDepth 100000 in
theorem build34 (a b : Int) (W : World) : (Instr.build 34 #[(0, .int .i64 a), (1, .int .i64 b)]).run Try.prog W = .ok (.agg #[.int .i64 a, .int .i64 b]) W := by
  have hu3 := Try.underlying3
  have hu34 := Try.underlying34
  go_simp
theorem info34c : (Try.prog.info? 34).map (·.size) = some (#[(.int .i64 0 : Value), .int .i64 0] : Array Value).size := by kernel_rfl
theorem four_oneS (a b c d : Int) : (#[.int .i64 a, .int .i64 b, .int .i64 c, .int .i64 d] : Array Value).all (·.oneCell') = true := by simp [Value.oneCell']
set_option maxRecDepth 100000 in
set_option maxHeartbeats 8000000 in

theorem bounds_calls (V : Ev) (m : Ea) (till sh : Int) (f : FuncId) (cap : List Value) (q : Bl → Int) (w : World) (hV : EvM w V m) (hs : Sz V) (hent : ∀ args W, (callFunc f args).run Try.prog W = .ok (.enter f args) W)
    (hof : ∀ (o : S69) (W : World), VOk V → ((0 ≤ till ∧ till ≤ (V.cs.length : Int) - 1) ∧ (0 ≤ sh ∧ sh ≤ (V.ps.length : Int) - 1)) → o ∈ chs V (ct V till.toNat) → Below w.heap.size w W → Calls Try.prog f ([Value.agg #[.int .i64 o.f0, .int .i64 o.f1, .int .i64 o.f2, .int .i64 o.f3]] ++ cap).toArray W fun e w' => e = .returned (.int .i64 (q o.b)) ∧ Below W.heap.size W w') :
    Calls Try.prog 51 #[hv V m, .int .i64 till, .int .i64 sh, .func (.func f) #[] cap.toArray] w fun e w' => e = .returned (.tuple #[.agg #[.int .i64 (loV V till sh q), .int .i64 (hiV V till sh q)], .int .i64 (errT V till sh)]) ∧ Below w.heap.size w w' := by
  have hsc := hs.c
  have hu3 := Try.underlying3
  have hu22 := Try.underlying22
  have hu23 := Try.underlying23
  have hu25 := Try.underlying25
  have hu28 := Try.underlying28
  have hu34 := Try.underlying34
  have hu69 := Try.underlying69
  have hu72 := Try.underlying72
  obtain ⟨z3, o3⟩ := info_some info3s (by decide)
  obtain ⟨z22, o22⟩ := info_some info22s (by decide)
  obtain ⟨z23, o23⟩ := info_some info23s (by decide)
  obtain ⟨z69, o69⟩ := info_some info69s (by decide)
  obtain ⟨z72, o72⟩ := info_some info72s (by decide)
  refine E.enter (N := 81) Try.func51 rfl Try.ntmps51 (args := [hv V m, .int .i64 till, .int .i64 sh, .func (.func f) #[] cap.toArray]) (by simp) ?_
  have L := Below.refl w.heap.size w
  refine E.CG.seq ?_
  refine E.CG.list ?_
  refine E.GL.st rfl rfl rfl (E.ST.box rfl rfl fun g4 w4 e4 b4 l4 => ?_)
  have h4_L : w.heap.size ≤ g4 := by rw [e4]; exact L.size
  replace L := below_step L l4
  refine E.GL.st rfl rfl rfl (E.ST.alloc rfl info34z fun g8 w8 e8 b8 l8 => ?_)
  have h8_L : w.heap.size ≤ g8 := by rw [e8]; exact L.size
  have n8_b4 : g4 ≠ g8 := by have := blk_lt b4; omega
  replace b4 := blk_below b4 l8
  replace L := below_step L l8
  refine E.GL.run rfl rfl rfl (E.Runs.assign rfl rfl) ?_
  refine E.GL.done ?_
  refine E.QG.code ?_
  refine E.CG.seq ?_
  refine E.CG.seq ?_
  refine E.CG.list ?_
  refine E.GL.run rfl rfl rfl (E.Runs.loads (cs := [.slice m.A V.ps.length m.a, .slice m.B V.qs.length m.b, .slice m.C V.ts.length m.c, .slice m.D V.cs.length m.d]) rfl rfl hu25 rfl info25s (blk_cells b4)) ?_
  refine E.GL.st rfl rfl rfl (E.ST.call rfl ent33 (E.evc rfl E.evn) ((check33 V m _ (hV.below L) hs).mono ?_))
  rintro e w17 ⟨rfl, l17⟩
  refine ⟨_, rfl, ?_⟩
  replace b4 := blk_below b4 l17
  replace b8 := blk_below b8 l17
  replace L := below_step L l17
  refine E.GL.cmpn rfl rfl rfl (fun _ h => (E.Runs.neq rfl rfl rfl h)) (fun h18 => ?_) (fun h18 => ?_)
  · refine E.GL.done ?_
    refine E.QG.code ?_
    refine E.CG.cond_t rfl ?_
    refine E.CG.seq ?_
    refine E.CG.list ?_
    refine E.GL.run rfl rfl rfl (E.Runs.build rfl E.epn build34z) ?_
    refine E.GL.store_whole rfl rfl rfl rfl rfl b8 rfl info34s (two_one _ _) fun wS2_1 c8 lS2_1 => ?_
    replace b4 := blk_grown b4 lS2_1 (E.nes (by first | assumption | exact Ne.symm (by assumption)))
    replace L := E.below_own L h8_L lS2_1
    replace b8 := c8
    clear c8
    refine E.GL.run rfl rfl rfl (E.Runs.assign rfl rfl) ?_
    refine E.GL.done ?_
    refine E.QG.code ?_
    refine E.CG.ret ?_
    refine E.QG.pass_ret ?_
    exact E.QG.result_ct rfl rfl b8 hu34 rfl info34c rfl ⟨by rw [loV_no (by rw [errT_no (fun k => h18 (chkV_yes k))]; decide), hiV_no (by rw [errT_no (fun k => h18 (chkV_yes k))]; decide), errT_no (fun k => h18 (chkV_yes k))], L⟩
  · have hok : VOk V := chkV_ok.mp (by omega)
    have hp3 := hok.n3
    refine E.GL.done ?_
    refine E.QG.code ?_
    refine E.CG.cond_f rfl ?_
    refine E.CG.skip ?_
    refine E.QG.code ?_
    refine E.CG.seq ?_
    refine E.CG.seq ?_
    refine E.CG.list ?_
    refine E.GL.run rfl rfl rfl (E.Runs.move rfl rfl) ?_
    refine E.GL.run rfl rfl rfl (E.Runs.fieldAddr rfl rfl hu25 rfl (by assumption) rfl) ?_
    refine E.GL.run rfl rfl rfl (E.Runs.load1 rfl rfl hu23 rfl (by first | assumption | exact E.blkc (by assumption) rfl | exact pw_cell_below L (by assumption))) ?_
    refine E.GL.run rfl rfl rfl (E.Runs.len rfl rfl hu23) ?_
    refine E.GL.run rfl rfl rfl (E.Runs.sub rfl rfl rfl (IntWalk.i64_in _ (by omega))) ?_
    by_cases h25 : inR till 0 ((V.cs.length : Int) - 1)
    · refine E.GL.st rfl rfl rfl (E.ST.call rfl ent67 (E.evc rfl (E.evc rfl (E.evc rfl E.evn))) ((within_o till 0 ((V.cs.length : Int) - 1) true (iff_of_true rfl h25) _).mono ?_))
      rintro e w25 ⟨rfl, l25⟩
      refine ⟨_, rfl, ?_⟩
      replace b4 := blk_below b4 l25
      replace b8 := blk_below b8 l25
      replace L := below_step L l25
      refine E.GL.run rfl rfl rfl (E.Runs.not rfl rfl) ?_
      refine E.GL.run rfl rfl rfl (E.Runs.move rfl rfl) ?_
      refine E.GL.run rfl rfl rfl (E.Runs.move rfl rfl) ?_
      refine E.GL.run rfl rfl rfl (E.Runs.fieldAddr rfl rfl hu25 rfl (by assumption) rfl) ?_
      refine E.GL.run rfl rfl rfl (E.Runs.load1 rfl rfl hu22 rfl (by first | assumption | exact E.blkc (by assumption) rfl | exact pw_cell_below L (by assumption))) ?_
      refine E.GL.run rfl rfl rfl (E.Runs.len rfl rfl hu22) ?_
      refine E.GL.run rfl rfl rfl (E.Runs.sub rfl rfl rfl (IntWalk.i64_in _ (by omega))) ?_
      by_cases h33 : inR sh 0 ((V.ps.length : Int) - 1)
      · have hT : (0 ≤ till ∧ till ≤ (V.cs.length : Int) - 1) ∧ (0 ≤ sh ∧ sh ≤ (V.ps.length : Int) - 1) := ⟨h25, h33⟩
        obtain ⟨tn, htn⟩ : ∃ n : Nat, till = n := ⟨till.toNat, by have := hT.1.1; omega⟩
        have htt : till.toNat = tn := by omega
        have hti : till.toNat < V.cs.length := by have := hT.1.2; omega
        refine E.GL.st rfl rfl rfl (E.ST.call rfl ent67 (E.evc rfl (E.evc rfl (E.evc rfl E.evn))) ((within_o sh 0 ((V.ps.length : Int) - 1) true (iff_of_true rfl h33) _).mono ?_))
        rintro e w33 ⟨rfl, l33⟩
        refine ⟨_, rfl, ?_⟩
        replace b4 := blk_below b4 l33
        replace b8 := blk_below b8 l33
        replace L := below_step L l33
        refine E.GL.run rfl rfl rfl (E.Runs.not rfl rfl) ?_
        refine E.GL.run rfl rfl rfl (E.Runs.pick_f rfl rfl rfl) ?_
        refine E.GL.done ?_
        refine E.QG.code ?_
        refine E.CG.cond_f rfl ?_
        refine E.CG.skip ?_
        refine E.QG.code ?_
        refine E.CG.seq ?_
        refine E.CG.list ?_
        refine E.GL.run rfl rfl rfl (E.Runs.loads (cs := [.slice m.A V.ps.length m.a, .slice m.B V.qs.length m.b, .slice m.C V.ts.length m.c, .slice m.D V.cs.length m.d]) rfl rfl hu25 rfl info25s (blk_cells b4)) ?_
        refine E.GL.st rfl rfl rfl (E.ST.call rfl ent49 (E.evc rfl E.evn) ((open_calls V m _ (hV.below L) hs).mono ?_))
        rintro e w39 ⟨p, Er, rfl, hO, l39⟩
        refine ⟨_, rfl, ?_⟩
        replace b4 := blk_below b4 l39
        replace b8 := blk_below b8 l39
        replace L := below_step L l39
        refine E.GL.run rfl rfl rfl (E.Runs.move rfl rfl) ?_
        refine E.GL.run rfl rfl rfl (E.Runs.extract rfl rfl rfl) ?_
        refine E.GL.run rfl rfl rfl (E.Runs.extract rfl rfl rfl) ?_
        refine E.GL.run rfl rfl rfl (E.Runs.assign rfl rfl) ?_
        refine E.GL.run rfl rfl rfl (E.Runs.assign rfl rfl) ?_
        refine E.GL.done ?_
        refine E.QG.code ?_
        refine E.CG.seq ?_
        refine E.CG.seq ?_
        refine E.CG.list ?_
        refine E.GL.run rfl rfl rfl (E.Runs.move rfl rfl) ?_
        obtain ⟨hno, rfl, rfl⟩ | ⟨rfl, g, C, G, D, Ac, Ab, Aa, cc, cb, ca, F, Fa, rfl, hF, hO⟩ := open_ok hok hO
        · refine E.GL.run rfl rfl rfl (E.Runs.neq rfl rfl rfl rfl) ?_
          refine E.GL.done ?_
          refine E.QG.code ?_
          refine E.CG.cond_t rfl ?_
          refine E.CG.seq ?_
          refine E.CG.list ?_
          refine E.GL.run rfl rfl rfl (E.Runs.build rfl E.epn build34z) ?_
          refine E.GL.run rfl rfl rfl (E.Runs.move rfl rfl) ?_
          refine E.GL.store_whole rfl rfl rfl rfl rfl b8 rfl info34s (two_one _ _) fun wS7_2 c8 lS7_2 => ?_
          replace b4 := blk_grown b4 lS7_2 (E.nes (by first | assumption | exact Ne.symm (by assumption)))
          replace L := E.below_own L h8_L lS7_2
          replace b8 := c8
          clear c8
          refine E.GL.run rfl rfl rfl (E.Runs.assign rfl rfl) ?_
          refine E.GL.done ?_
          refine E.QG.code ?_
          refine E.CG.ret ?_
          refine E.QG.pass_ret ?_
          exact E.QG.result_ct rfl rfl b8 hu34 rfl info34c rfl ⟨by rw [loV_no (by rw [errT_none hok hT hno]; decide), hiV_no (by rw [errT_none hok hT hno]; decide), errT_none hok hT hno] <;> rfl, L⟩
        · obtain ⟨N, hN0, hN⟩ := few_some (ok_b hO) hF (ok_a hO)
          obtain ⟨t0, ht0⟩ := hN.1
          have hfN := fewN_eq hN
          rw [← hfN] at hN hN0
          refine E.GL.run rfl rfl rfl (E.Runs.neq rfl rfl rfl rfl) ?_
          refine E.GL.done ?_
          refine E.QG.code ?_
          refine E.CG.cond_f rfl ?_
          refine E.CG.skip ?_
          refine E.QG.code ?_
          refine E.CG.seq ?_
          refine E.CG.list ?_
          refine E.GL.run rfl rfl rfl (E.Runs.move rfl rfl) ?_
          refine E.GL.run rfl rfl rfl (E.Runs.move rfl rfl) ?_
          refine E.GL.st rfl rfl rfl (E.ST.call rfl ent76 (E.evc rfl (E.evc (congrArg (fun t => some (Value.int .i64 t)) (show till = (till.toNat : Int) by omega)) E.evn)) ((likely_calls V m g _ hO hok (fewN V) hN0 hN till.toNat hti).mono ?_))
          rintro e w48 ⟨v48, rfl, R48, l48⟩
          refine ⟨_, rfl, ?_⟩
          replace b4 := blk_below b4 l48
          replace b8 := blk_below b8 l48
          replace L := below_step L l48
          have K := Below.refl w48.heap.size w48
          refine E.GL.run rfl rfl rfl (E.Runs.assign rfl rfl) ?_
          refine E.GL.done ?_
          refine E.QG.code ?_
          refine E.CG.seq ?_
          obtain ⟨A48, c48, rfl, _, hR48⟩ := Kd.R_reads R48
          have hlen : 0 < (lkL V (fewN V) till.toNat (chs V (ct V till.toNat))).length := lkL_pos hok hti ht0.1
          obtain ⟨o0, ho0⟩ := get_ex hlen
          obtain ⟨ao0, eO0, XO0⟩ := ch_at hR48 ho0
          have hm0 := List.mem_of_getElem? ho0
          have hl48 : (lkL V (fewN V) till.toNat (chs V (ct V till.toNat))).length ≤ 1000000 := by
            obtain ⟨c, hc⟩ := get_ex hti
            have hcl := chs_len hok (hok.c c (List.mem_of_getElem? hc))
            have := lkL_len V (fewN V) till.toNat (chs V (ct V till.toNat))
            rw [ct_of hc] at this
            rw [ct_of hc]
            omega
          refine E.CG.cut1 (fun (g13 : Nat) => [(3, .func (.func f) #[] cap.toArray), (4, .pointer (some ⟨g4, 0, none⟩)), (8, .pointer (some ⟨g8, 0, none⟩)), (12, .slice A48 (lkL V (fewN V) till.toNat (chs V (ct V till.toNat))).length c48), (13, .pointer (some ⟨g13, 0, none⟩))]) (fun g13 w' => w'.heap[g8]? = some (.cells #[.int .i64 0, .int .i64 0] 34 (0, 0)) ∧ w'.heap[g13]? = some (.cells #[.int .i64 (q o0.b), .int .i64 (q o0.b)] 34 (0, 0)) ∧ g8 ≠ g13 ∧ w48.heap.size ≤ g13 ∧ Below w48.heap.size w48 w') ?_ ?_
          · refine E.CG.heldH (none) (by kernel_rfl) fun v9 lD hh => ?_
            replace b4 := blk_below b4 lD
            replace b8 := blk_below b8 lD
            replace L := below_step L lD
            replace K := below_step K lD
            clear lD
            have s_b4 := b4
            have s_b8 := b8
            have s_L := L
            have s_K := K
            refine E.GH.take (i := 0) rfl (by kernel_rfl) (by kernel_rfl) (by kernel_rfl) E.calm_cut1 rfl rfl rfl (fun w' hS => (E.Runs.move rfl rfl)) ?_
            refine E.GH.take (i := 1) rfl (by kernel_rfl) (by kernel_rfl) (by kernel_rfl) E.calm_cut1 rfl rfl rfl (fun w' hS => (E.Runs.move rfl rfl)) ?_
            refine E.GH.take (i := 2) rfl (by kernel_rfl) (by kernel_rfl) (by kernel_rfl) E.calm_cut1 rfl rfl rfl (fun w' hS => (E.Runs.indexAddrA (i := 0) rfl rfl rfl hu72 z69 o69 (by omega) eO0 rfl)) ?_
            refine E.GH.take (i := 3) rfl (by kernel_rfl) (by kernel_rfl) (by kernel_rfl) E.calm_cut1 rfl rfl rfl (fun w' hS => (E.Runs.loads (cs := [.int .i64 o0.f0, .int .i64 o0.f1, .int .i64 o0.f2, .int .i64 o0.f3]) rfl rfl hu69 rfl info69s (fun j v hv => pw_cell_below (below_step s_K (E.belowG hS)) (XO0 j v hv)))) ?_
            refine E.GH.take (i := 5) rfl (by kernel_rfl) (by kernel_rfl) (by kernel_rfl) E.calm_cut1 rfl rfl rfl (fun w' hS => (E.Runs.move rfl rfl)) ?_
            refine E.GH.take (i := 6) rfl (by kernel_rfl) (by kernel_rfl) (by kernel_rfl) E.calm_cut1 rfl rfl rfl (fun w' hS => (E.Runs.move rfl rfl)) ?_
            refine E.GH.take (i := 7) rfl (by kernel_rfl) (by kernel_rfl) (by kernel_rfl) E.calm_cut1 rfl rfl rfl (fun w' hS => (E.Runs.indexAddrA (i := 0) rfl rfl rfl hu72 z69 o69 (by omega) eO0 rfl)) ?_
            refine E.GH.take (i := 8) rfl (by kernel_rfl) (by kernel_rfl) (by kernel_rfl) E.calm_cut1 rfl rfl rfl (fun w' hS => (E.Runs.loads (cs := [.int .i64 o0.f0, .int .i64 o0.f1, .int .i64 o0.f2, .int .i64 o0.f3]) rfl rfl hu69 rfl info69s (fun j v hv => pw_cell_below (below_step s_K (E.belowG hS)) (XO0 j v hv)))) ?_
            refine E.GH.all (rs := [4, 11]) (by kernel_rfl) (by simp) (E.GHs.cons rfl ?_ (E.GHs.cons rfl ?_ E.GHs.nil))
            · refine E.GO.st rfl rfl rfl (E.ST.callV (cap := cap) rfl hent rfl (E.evc rfl E.evn) ((hof o0 _ hok hT (lkL_mem.mp hm0).1 L).mono ?_))
              rintro e w53 ⟨rfl, l53⟩
              refine ⟨_, rfl, hh.trans (E.gbB l53), ?_⟩
              replace hh := hh.trans (E.gbB l53)
              replace b4 := blk_below b4 l53
              replace b8 := blk_below b8 l53
              replace L := below_step L l53
              replace K := below_step K l53
              refine E.GH.all (rs := [9, 11]) (by kernel_rfl) (by simp) (E.GHs.cons rfl ?_ (E.GHs.cons rfl ?_ E.GHs.nil))
              · refine E.GO.st rfl rfl rfl (E.ST.callV (cap := cap) rfl hent rfl (E.evc rfl E.evn) ((hof o0 _ hok hT (lkL_mem.mp hm0).1 L).mono ?_))
                rintro e w58 ⟨rfl, l58⟩
                refine ⟨_, rfl, hh.trans (E.gbB l58), ?_⟩
                replace hh := hh.trans (E.gbB l58)
                replace b4 := blk_below b4 l58
                replace b8 := blk_below b8 l58
                replace L := below_step L l58
                replace K := below_step K l58
                refine E.GH.take (i := 10) rfl (by kernel_rfl) (by kernel_rfl) (by kernel_rfl) E.calm_cut1 rfl rfl rfl (fun w' hS => (E.Runs.build rfl (E.epc rfl (E.epc rfl E.epn)) (build34 _ _))) ?_
                refine E.GH.one (i := 11) (by kernel_rfl) rfl ?_
                refine E.GO.st rfl rfl rfl (E.ST.alloc rfl info34z fun g13 w13 e13 b13 l13 => ⟨hh.trans (E.gbB l13), ?_⟩)
                have hh0 := hh
                replace hh := hh.trans (E.gbB l13)
                have h13_hh : v9.heap.size ≤ g13 := by rw [e13]; exact hh0.size
                have h13_L : w.heap.size ≤ g13 := by rw [e13]; exact L.size
                have h13_K : w48.heap.size ≤ g13 := by rw [e13]; exact K.size
                have n13_b4 : g4 ≠ g13 := by have := blk_lt b4; omega
                have n13_b8 : g8 ≠ g13 := by have := blk_lt b8; omega
                clear hh0
                replace b4 := blk_below b4 l13
                replace b8 := blk_below b8 l13
                replace L := below_step L l13
                replace K := below_step K l13
                refine E.GH.one (i := 12) (by kernel_rfl) rfl ?_
                refine E.GO.sn rfl rfl (E.ST.storeS (off := 0) (cells := [.int .i64 (q o0.b), .int .i64 (q o0.b)]) rfl rfl rfl b13 rfl info34s (two_one _ _) rfl fun wS9_12 c13 lS9_12 => ⟨E.gb_own hh h13_hh lS9_12, ?_⟩)
                replace hh := E.gb_own hh h13_hh lS9_12
                replace b4 := blk_grown b4 lS9_12 (E.nes (by first | assumption | exact Ne.symm (by assumption)))
                replace b8 := blk_grown b8 lS9_12 (E.nes (by first | assumption | exact Ne.symm (by assumption)))
                replace L := E.below_own L h13_L lS9_12
                replace K := E.below_own K h13_K lS9_12
                replace b13 := c13
                clear c13
                refine E.GH.done (by kernel_rfl) ?_
                exact E.QG.meet1 _ (E.subc rfl (E.subc rfl (E.subc rfl (E.subc rfl (E.subc rfl (E.subn)))))) ⟨b8, b13, n13_b8, h13_K, K⟩
              · refine E.GO.st rfl rfl rfl (E.ST.alloc rfl info34z fun g13 w13 e13 b13 l13 => ⟨hh.trans (E.gbB l13), ?_⟩)
                have hh0 := hh
                replace hh := hh.trans (E.gbB l13)
                have h13_hh : v9.heap.size ≤ g13 := by rw [e13]; exact hh0.size
                have h13_L : w.heap.size ≤ g13 := by rw [e13]; exact L.size
                have h13_K : w48.heap.size ≤ g13 := by rw [e13]; exact K.size
                have n13_b4 : g4 ≠ g13 := by have := blk_lt b4; omega
                have n13_b8 : g8 ≠ g13 := by have := blk_lt b8; omega
                clear hh0
                replace b4 := blk_below b4 l13
                replace b8 := blk_below b8 l13
                replace L := below_step L l13
                replace K := below_step K l13
                refine E.GH.one (i := 9) (by kernel_rfl) rfl ?_
                refine E.GO.st rfl rfl rfl (E.ST.callV (cap := cap) rfl hent rfl (E.evc rfl E.evn) ((hof o0 _ hok hT (lkL_mem.mp hm0).1 L).mono ?_))
                rintro e w58 ⟨rfl, l58⟩
                refine ⟨_, rfl, hh.trans (E.gbB l58), ?_⟩
                replace hh := hh.trans (E.gbB l58)
                replace b4 := blk_below b4 l58
                replace b8 := blk_below b8 l58
                replace b13 := blk_below b13 l58
                replace L := below_step L l58
                replace K := below_step K l58
                refine E.GH.take (i := 10) rfl (by kernel_rfl) (by kernel_rfl) (by kernel_rfl) E.calm_cut1 rfl rfl rfl (fun w' hS => (E.Runs.build rfl (E.epc rfl (E.epc rfl E.epn)) (build34 _ _))) ?_
                refine E.GH.one (i := 12) (by kernel_rfl) rfl ?_
                refine E.GO.sn rfl rfl (E.ST.storeS (off := 0) (cells := [.int .i64 (q o0.b), .int .i64 (q o0.b)]) rfl rfl rfl b13 rfl info34s (two_one _ _) rfl fun wS9_12 c13 lS9_12 => ⟨E.gb_own hh h13_hh lS9_12, ?_⟩)
                replace hh := E.gb_own hh h13_hh lS9_12
                replace b4 := blk_grown b4 lS9_12 (E.nes (by first | assumption | exact Ne.symm (by assumption)))
                replace b8 := blk_grown b8 lS9_12 (E.nes (by first | assumption | exact Ne.symm (by assumption)))
                replace L := E.below_own L h13_L lS9_12
                replace K := E.below_own K h13_K lS9_12
                replace b13 := c13
                clear c13
                refine E.GH.done (by kernel_rfl) ?_
                exact E.QG.meet1 _ (E.subc rfl (E.subc rfl (E.subc rfl (E.subc rfl (E.subc rfl (E.subn)))))) ⟨b8, b13, n13_b8, h13_K, K⟩
            · refine E.GO.st rfl rfl rfl (E.ST.alloc rfl info34z fun g13 w13 e13 b13 l13 => ⟨hh.trans (E.gbB l13), ?_⟩)
              have hh0 := hh
              replace hh := hh.trans (E.gbB l13)
              have h13_hh : v9.heap.size ≤ g13 := by rw [e13]; exact hh0.size
              have h13_L : w.heap.size ≤ g13 := by rw [e13]; exact L.size
              have h13_K : w48.heap.size ≤ g13 := by rw [e13]; exact K.size
              have n13_b4 : g4 ≠ g13 := by have := blk_lt b4; omega
              have n13_b8 : g8 ≠ g13 := by have := blk_lt b8; omega
              clear hh0
              replace b4 := blk_below b4 l13
              replace b8 := blk_below b8 l13
              replace L := below_step L l13
              replace K := below_step K l13
              refine E.GH.one (i := 4) (by kernel_rfl) rfl ?_
              refine E.GO.st rfl rfl rfl (E.ST.callV (cap := cap) rfl hent rfl (E.evc rfl E.evn) ((hof o0 _ hok hT (lkL_mem.mp hm0).1 L).mono ?_))
              rintro e w53 ⟨rfl, l53⟩
              refine ⟨_, rfl, hh.trans (E.gbB l53), ?_⟩
              replace hh := hh.trans (E.gbB l53)
              replace b4 := blk_below b4 l53
              replace b8 := blk_below b8 l53
              replace b13 := blk_below b13 l53
              replace L := below_step L l53
              replace K := below_step K l53
              refine E.GH.one (i := 9) (by kernel_rfl) rfl ?_
              refine E.GO.st rfl rfl rfl (E.ST.callV (cap := cap) rfl hent rfl (E.evc rfl E.evn) ((hof o0 _ hok hT (lkL_mem.mp hm0).1 L).mono ?_))
              rintro e w58 ⟨rfl, l58⟩
              refine ⟨_, rfl, hh.trans (E.gbB l58), ?_⟩
              replace hh := hh.trans (E.gbB l58)
              replace b4 := blk_below b4 l58
              replace b8 := blk_below b8 l58
              replace b13 := blk_below b13 l58
              replace L := below_step L l58
              replace K := below_step K l58
              refine E.GH.take (i := 10) rfl (by kernel_rfl) (by kernel_rfl) (by kernel_rfl) E.calm_cut1 rfl rfl rfl (fun w' hS => (E.Runs.build rfl (E.epc rfl (E.epc rfl E.epn)) (build34 _ _))) ?_
              refine E.GH.one (i := 12) (by kernel_rfl) rfl ?_
              refine E.GO.sn rfl rfl (E.ST.storeS (off := 0) (cells := [.int .i64 (q o0.b), .int .i64 (q o0.b)]) rfl rfl rfl b13 rfl info34s (two_one _ _) rfl fun wS9_12 c13 lS9_12 => ⟨E.gb_own hh h13_hh lS9_12, ?_⟩)
              replace hh := E.gb_own hh h13_hh lS9_12
              replace b4 := blk_grown b4 lS9_12 (E.nes (by first | assumption | exact Ne.symm (by assumption)))
              replace b8 := blk_grown b8 lS9_12 (E.nes (by first | assumption | exact Ne.symm (by assumption)))
              replace L := E.below_own L h13_L lS9_12
              replace K := E.below_own K h13_K lS9_12
              replace b13 := c13
              clear c13
              refine E.GH.done (by kernel_rfl) ?_
              exact E.QG.meet1 _ (E.subc rfl (E.subc rfl (E.subc rfl (E.subc rfl (E.subc rfl (E.subn)))))) ⟨b8, b13, n13_b8, h13_K, K⟩
          clear b4
          intro g13 w9 ⟨b8, b13, n13_b8, h13_K, K⟩
          refine E.QG.code ?_
          refine E.CG.seq ?_
          refine E.CG.seq ?_
          refine E.CG.list ?_
          refine E.GL.run rfl rfl rfl (E.Runs.move rfl rfl) ?_
          refine E.GL.run rfl rfl rfl (E.Runs.len rfl rfl hu72) ?_
          refine E.GL.run rfl rfl rfl (E.Runs.move rfl rfl) ?_
          refine E.GL.done ?_
          refine E.QG.code ?_
          refine E.CG.block ?_
          have s11_b8 := b8
          have s11_b13 := b13
          have s11_K := K
          refine E.CG.loop (fun (i : Nat) => [(3, .func (.func f) #[] cap.toArray), (8, .pointer (some ⟨g8, 0, none⟩)), (13, .pointer (some ⟨g13, 0, none⟩)), (60, .slice A48 (lkL V (fewN V) till.toNat (chs V (ct V till.toNat))).length c48), (61, .int .i64 (lkL V (fewN V) till.toNat (chs V (ct V till.toNat))).length), (62, .int .i64 i)]) (fun i w' => i ≤ (lkL V (fewN V) till.toNat (chs V (ct V till.toNat))).length ∧ w'.heap[g8]? = some (.cells #[.int .i64 0, .int .i64 0] 34 (0, 0)) ∧ w'.heap[g13]? = some (.cells #[.int .i64 (mnL q (q o0.b) ((lkL V (fewN V) till.toNat (chs V (ct V till.toNat))).take i)), .int .i64 (mxL q (q o0.b) ((lkL V (fewN V) till.toNat (chs V (ct V till.toNat))).take i))] 34 (0, 0)) ∧ Below w48.heap.size w48 w') (fun i => (lkL V (fewN V) till.toNat (chs V (ct V till.toNat))).length - i) 0 (E.subc rfl (E.subc rfl (E.subc rfl (E.subc rfl (E.subc rfl (E.subc rfl E.subn)))))) ⟨Nat.zero_le _, b8, b13, K⟩ ?_
          rintro i w11 ⟨hi, b8, b13, K⟩
          refine E.CG.seq ?_
          refine E.CG.list ?_
          refine E.GL.cmp rfl rfl rfl (fun _ h => (E.Runs.lss rfl rfl rfl h)) (fun h63 => ?_) (fun h63 => ?_)
          · obtain ⟨o, ho⟩ := get_ex (show i < (lkL V (fewN V) till.toNat (chs V (ct V till.toNat))).length by omega)
            obtain ⟨ao, eO, XO⟩ := ch_at hR48 ho
            have hom := List.mem_of_getElem? ho
            refine E.GL.done ?_
            refine E.QG.code ?_
            refine E.CG.seq ?_
            refine E.CG.cond_t rfl ?_
            refine E.CG.skip ?_
            refine E.QG.code ?_
            refine E.CG.seq ?_
            refine E.CG.block ?_
            refine E.CG.seq ?_
            refine E.CG.list ?_
            refine E.GL.run rfl rfl rfl (E.Runs.indexAddrA (i := i) rfl rfl rfl hu72 z69 o69 (by omega) eO rfl) ?_
            refine E.GL.run rfl rfl rfl (E.Runs.loads (cs := [.int .i64 o.f0, .int .i64 o.f1, .int .i64 o.f2, .int .i64 o.f3]) rfl rfl hu69 rfl info69s (fun j v hv => pw_cell_below K (XO j v hv))) ?_
            refine E.GL.st rfl rfl rfl (E.ST.alloc rfl info69z fun g15 w15 e15 b15 l15 => ?_)
            have h15_K : w48.heap.size ≤ g15 := by rw [e15]; exact K.size
            have n15_b8 : g8 ≠ g15 := by have := blk_lt b8; omega
            have n15_b13 : g13 ≠ g15 := by have := blk_lt b13; omega
            replace b8 := blk_below b8 l15
            replace b13 := blk_below b13 l15
            replace K := below_step K l15
            refine E.GL.store_whole rfl rfl rfl rfl rfl b15 rfl info69s (four_oneS _ _ _ _) fun wS12_3 c15 lS12_3 => ?_
            replace b8 := blk_grown b8 lS12_3 (E.nes (by first | assumption | exact Ne.symm (by assumption)))
            replace b13 := blk_grown b13 lS12_3 (E.nes (by first | assumption | exact Ne.symm (by assumption)))
            replace K := E.below_own K h15_K lS12_3
            replace b15 := c15
            clear c15
            refine E.GL.done ?_
            refine E.QG.code ?_
            refine E.CG.heldJ 13 (fun v W => v.grownBy W (none)) (fun _ _ => True) (by kernel_rfl) (by kernel_rfl) (fun v => World.grownBy.refl _ _) fun v13 lD => ?_
            replace b8 := blk_below b8 lD
            replace b13 := blk_below b13 lD
            replace b15 := blk_below b15 lD
            replace K := below_step K lD
            have lD13 := lD
            clear lD
            have s_b8 := b8
            have s_b13 := b13
            have s_b15 := b15
            have s_K := K
            have hh : v13.grownBy v13 (none) := World.grownBy.refl _ _
            refine E.GJ.take1 (i := 0) rfl (by kernel_rfl) (by kernel_rfl) (by kernel_rfl) (by kernel_rfl) rfl (by kernel_rfl) (by kernel_rfl) (by intro c a d v w h; first | (cases d <;> exact h) | exact nomatch (show _ ∧ _ from h).1) rfl rfl rfl (fun w' hS => (E.Runs.fieldAddr rfl rfl hu34 rfl (by assumption) rfl)) ?_
            refine E.GJ.take1 (i := 1) rfl (by kernel_rfl) (by kernel_rfl) (by kernel_rfl) (by kernel_rfl) rfl (by kernel_rfl) (by kernel_rfl) (by intro c a d v w h; first | (cases d <;> exact h) | exact nomatch (show _ ∧ _ from h).1) rfl rfl rfl (fun w' hS => (E.Runs.load rfl rfl hu3 (by first | exact E.keeps hS (E.blkc (by assumption) rfl) (by first | exact E.nen | exact E.nes (by assumption) | exact E.nes (Ne.symm (by assumption))) | exact pw_cell_below (below_step s_K (E.belowG hS)) (by assumption)))) ?_
            refine E.GJ.take1 (i := 2) rfl (by kernel_rfl) (by kernel_rfl) (by kernel_rfl) (by kernel_rfl) rfl (by kernel_rfl) (by kernel_rfl) (by intro c a d v w h; first | (cases d <;> exact h) | exact nomatch (show _ ∧ _ from h).1) rfl rfl rfl (fun w' hS => (E.Runs.move rfl rfl)) ?_
            refine E.GJ.take1 (i := 3) rfl (by kernel_rfl) (by kernel_rfl) (by kernel_rfl) (by kernel_rfl) rfl (by kernel_rfl) (by kernel_rfl) (by intro c a d v w h; first | (cases d <;> exact h) | exact nomatch (show _ ∧ _ from h).1) rfl rfl rfl (fun w' hS => (E.Runs.loads (cs := [.int .i64 o.f0, .int .i64 o.f1, .int .i64 o.f2, .int .i64 o.f3]) rfl rfl hu69 rfl info69s (blk_cells (blk_grown s_b15 hS E.nen)))) ?_
            refine E.GJ.take1 (i := 6) rfl (by kernel_rfl) (by kernel_rfl) (by kernel_rfl) (by kernel_rfl) rfl (by kernel_rfl) (by kernel_rfl) (by intro c a d v w h; first | (cases d <;> exact h) | exact nomatch (show _ ∧ _ from h).1) rfl rfl rfl (fun w' hS => (E.Runs.fieldAddr rfl rfl hu34 rfl (by assumption) rfl)) ?_
            refine E.GJ.take1 (i := 7) rfl (by kernel_rfl) (by kernel_rfl) (by kernel_rfl) (by kernel_rfl) rfl (by kernel_rfl) (by kernel_rfl) (by intro c a d v w h; first | (cases d <;> exact h) | exact nomatch (show _ ∧ _ from h).1) rfl rfl rfl (fun w' hS => (E.Runs.load rfl rfl hu3 (by first | exact E.keeps hS (E.blkc (by assumption) rfl) (by first | exact E.nen | exact E.nes (by assumption) | exact E.nes (Ne.symm (by assumption))) | exact pw_cell_below (below_step s_K (E.belowG hS)) (by assumption)))) ?_
            refine E.GJ.take1 (i := 8) rfl (by kernel_rfl) (by kernel_rfl) (by kernel_rfl) (by kernel_rfl) rfl (by kernel_rfl) (by kernel_rfl) (by intro c a d v w h; first | (cases d <;> exact h) | exact nomatch (show _ ∧ _ from h).1) rfl rfl rfl (fun w' hS => (E.Runs.move rfl rfl)) ?_
            refine E.GJ.take1 (i := 9) rfl (by kernel_rfl) (by kernel_rfl) (by kernel_rfl) (by kernel_rfl) rfl (by kernel_rfl) (by kernel_rfl) (by intro c a d v w h; first | (cases d <;> exact h) | exact nomatch (show _ ∧ _ from h).1) rfl rfl rfl (fun w' hS => (E.Runs.loads (cs := [.int .i64 o.f0, .int .i64 o.f1, .int .i64 o.f2, .int .i64 o.f3]) rfl rfl hu69 rfl info69s (blk_cells (blk_grown s_b15 hS E.nen)))) ?_
            refine E.GJ.one (i := 4) (by kernel_rfl) (E.OJ.st rfl rfl rfl rfl (E.ST.callV (cap := cap) rfl hent rfl (E.evc rfl E.evn) ((hof o _ hok hT (lkL_mem.mp hom).1 (below_step L K)).mono ?_)))
            rintro e w70 ⟨rfl, l70⟩
            refine ⟨_, rfl, (E.SJ.before (by kernel_rfl)).mpr (hh.trans (E.gbB l70)), ?_⟩
            replace hh := hh.trans (E.gbB l70)
            replace b8 := blk_below b8 l70
            replace b13 := blk_below b13 l70
            replace b15 := blk_below b15 l70
            replace K := below_step K l70
            refine E.GJ.take1 (i := 5) rfl (by kernel_rfl) (by kernel_rfl) (by kernel_rfl) (by kernel_rfl) rfl (by kernel_rfl) (by kernel_rfl) (by intro c a d v w h; first | (cases d <;> exact h) | exact nomatch (show _ ∧ _ from h).1) rfl rfl rfl (fun w' hS => (E.Runs.min rfl rfl rfl rfl)) ?_
            refine E.GJ.one (i := 10) (by kernel_rfl) (E.OJ.st rfl rfl rfl rfl (E.ST.callV (cap := cap) rfl hent rfl (E.evc rfl E.evn) ((hof o _ hok hT (lkL_mem.mp hom).1 (below_step L K)).mono ?_)))
            rintro e w76 ⟨rfl, l76⟩
            refine ⟨_, rfl, (E.SJ.before (by kernel_rfl)).mpr (hh.trans (E.gbB l76)), ?_⟩
            replace hh := hh.trans (E.gbB l76)
            replace b8 := blk_below b8 l76
            replace b13 := blk_below b13 l76
            replace b15 := blk_below b15 l76
            replace K := below_step K l76
            refine E.GJ.take1 (i := 11) rfl (by kernel_rfl) (by kernel_rfl) (by kernel_rfl) (by kernel_rfl) rfl (by kernel_rfl) (by kernel_rfl) (by intro c a d v w h; first | (cases d <;> exact h) | exact nomatch (show _ ∧ _ from h).1) rfl rfl rfl (fun w' hS => (E.Runs.max rfl rfl rfl rfl)) ?_
            refine E.GJ.take1 (i := 12) rfl (by kernel_rfl) (by kernel_rfl) (by kernel_rfl) (by kernel_rfl) rfl (by kernel_rfl) (by kernel_rfl) (by intro c a d v w h; first | (cases d <;> exact h) | exact nomatch (show _ ∧ _ from h).1) rfl rfl rfl (fun w' hS => (E.Runs.build rfl (E.epc rfl (E.epc rfl E.epn)) (build34 _ _))) ?_
            refine E.GJ.one (i := 13) (by kernel_rfl) (E.OJ.sn rfl rfl rfl (E.ST.storeS (off := 0) (cells := [.int .i64 (mn (mnL q (q o0.b) ((lkL V (fewN V) till.toNat (chs V (ct V till.toNat))).take i)) (q o.b)), .int .i64 (mx (mxL q (q o0.b) ((lkL V (fewN V) till.toNat (chs V (ct V till.toNat))).take i)) (q o.b))]) rfl rfl rfl b13 rfl info34s (two_one _ _) rfl fun wJ c13 lJ => ⟨(E.SJ.behind (by kernel_rfl)).mpr trivial, ?_⟩))
            replace b8 := blk_grown b8 lJ (E.nes (by first | assumption | exact Ne.symm (by assumption)))
            replace b15 := blk_grown b15 lJ (E.nes (by first | assumption | exact Ne.symm (by assumption)))
            replace K := E.below_own K h13_K lJ
            replace b13 := c13
            clear c13
            refine E.GJ.done (by kernel_rfl) ?_
            refine E.QG.block_normal ?_
            refine E.QG.code ?_
            refine E.CG.list ?_
            refine E.GL.run rfl rfl rfl (E.Runs.add rfl rfl rfl (IntWalk.i64_in _ (by omega))) ?_
            refine E.GL.run rfl rfl rfl (E.Runs.move rfl rfl) ?_
            refine E.GL.done ?_
            exact E.QG.round (i + 1) (E.subc rfl (E.subc rfl (E.subc rfl (E.subc rfl (E.subc rfl (E.subc rfl E.subn)))))) ⟨by omega, b8, by rw [mnL_step ho, mxL_step ho]; exact b13, K⟩ (by omega)
          · obtain rfl : i = (lkL V (fewN V) till.toNat (chs V (ct V till.toNat))).length := by omega
            refine E.GL.done ?_
            refine E.QG.code ?_
            refine E.CG.seq ?_
            refine E.CG.cond_f rfl ?_
            refine E.CG.exit ?_
            refine E.QG.pass_exit ?_
            refine E.QG.pass_exit ?_
            refine E.QG.block_here ?_
            refine E.QG.code ?_
            refine E.CG.seq ?_
            refine E.CG.list ?_
            refine E.GL.run rfl rfl rfl (E.Runs.loads (cs := [.int .i64 (mnL q (q o0.b) ((lkL V (fewN V) till.toNat (chs V (ct V till.toNat))).take (lkL V (fewN V) till.toNat (chs V (ct V till.toNat))).length)), .int .i64 (mxL q (q o0.b) ((lkL V (fewN V) till.toNat (chs V (ct V till.toNat))).take (lkL V (fewN V) till.toNat (chs V (ct V till.toNat))).length))]) rfl rfl hu34 rfl info34s (blk_cells b13)) ?_
            refine E.GL.store_whole rfl rfl rfl rfl rfl b8 rfl info34s (two_one _ _) fun wS15_1 c8 lS15_1 => ?_
            replace b13 := blk_grown b13 lS15_1 (E.nes (by first | assumption | exact Ne.symm (by assumption)))
            replace b8 := c8
            clear c8
            refine E.GL.run rfl rfl rfl (E.Runs.assign rfl rfl) ?_
            refine E.GL.done ?_
            refine E.QG.code ?_
            refine E.CG.ret ?_
            exact E.QG.result_ct rfl rfl b8 hu34 rfl info34c rfl ⟨by rw [List.take_length, (span_ok (q := q) hok hti (errT_ok hok hT ht0.1) rfl hm0).1, (span_ok (q := q) hok hti (errT_ok hok hT ht0.1) rfl hm0).2, errT_ok hok hT ht0.1], E.below_own (below_step L K) h8_L lS15_1⟩
      · refine E.GL.st rfl rfl rfl (E.ST.call rfl ent67 (E.evc rfl (E.evc rfl (E.evc rfl E.evn))) ((within_o sh 0 ((V.ps.length : Int) - 1) false (iff_of_false Bool.false_ne_true h33) _).mono ?_))
        rintro e w33 ⟨rfl, l33⟩
        refine ⟨_, rfl, ?_⟩
        replace b4 := blk_below b4 l33
        replace b8 := blk_below b8 l33
        replace L := below_step L l33
        refine E.GL.run rfl rfl rfl (E.Runs.not rfl rfl) ?_
        refine E.GL.run rfl rfl rfl (E.Runs.pick_f rfl rfl rfl) ?_
        refine E.GL.done ?_
        refine E.QG.code ?_
        refine E.CG.cond_t rfl ?_
        refine E.CG.seq ?_
        refine E.CG.list ?_
        refine E.GL.run rfl rfl rfl (E.Runs.build rfl E.epn build34z) ?_
        refine E.GL.store_whole rfl rfl rfl rfl rfl b8 rfl info34s (two_one _ _) fun wS4_1 c8 lS4_1 => ?_
        replace b4 := blk_grown b4 lS4_1 (E.nes (by first | assumption | exact Ne.symm (by assumption)))
        replace L := E.below_own L h8_L lS4_1
        replace b8 := c8
        clear c8
        refine E.GL.run rfl rfl rfl (E.Runs.assign rfl rfl) ?_
        refine E.GL.done ?_
        refine E.QG.code ?_
        refine E.CG.ret ?_
        refine E.QG.pass_ret ?_
        exact E.QG.result_ct rfl rfl b8 hu34 rfl info34c rfl ⟨by rw [loV_no (by rw [errT_arg hok (fun k => h33 k.2)]; decide), hiV_no (by rw [errT_arg hok (fun k => h33 k.2)]; decide), errT_arg hok (fun k => h33 k.2)], L⟩
    · refine E.GL.st rfl rfl rfl (E.ST.call rfl ent67 (E.evc rfl (E.evc rfl (E.evc rfl E.evn))) ((within_o till 0 ((V.cs.length : Int) - 1) false (iff_of_false Bool.false_ne_true h25) _).mono ?_))
      rintro e w25 ⟨rfl, l25⟩
      refine ⟨_, rfl, ?_⟩
      replace b4 := blk_below b4 l25
      replace b8 := blk_below b8 l25
      replace L := below_step L l25
      refine E.GL.run rfl rfl rfl (E.Runs.not rfl rfl) ?_
      refine E.GL.run rfl rfl rfl (E.Runs.move rfl rfl) ?_
      refine E.GL.skip rfl rfl rfl ?_
      refine E.GL.skip rfl rfl rfl ?_
      refine E.GL.skip rfl rfl rfl ?_
      refine E.GL.skip rfl rfl rfl ?_
      refine E.GL.skip rfl rfl rfl ?_
      refine E.GL.skip rfl rfl rfl ?_
      refine E.GL.skip rfl rfl rfl ?_
      refine E.GL.run rfl rfl rfl (E.Runs.pick_t rfl rfl rfl) ?_
      refine E.GL.done ?_
      refine E.QG.code ?_
      refine E.CG.cond_t rfl ?_
      refine E.CG.seq ?_
      refine E.CG.list ?_
      refine E.GL.run rfl rfl rfl (E.Runs.build rfl E.epn build34z) ?_
      refine E.GL.store_whole rfl rfl rfl rfl rfl b8 rfl info34s (two_one _ _) fun wS4_1 c8 lS4_1 => ?_
      replace b4 := blk_grown b4 lS4_1 (E.nes (by first | assumption | exact Ne.symm (by assumption)))
      replace L := E.below_own L h8_L lS4_1
      replace b8 := c8
      clear c8
      refine E.GL.run rfl rfl rfl (E.Runs.assign rfl rfl) ?_
      refine E.GL.done ?_
      refine E.QG.code ?_
      refine E.CG.ret ?_
      refine E.QG.pass_ret ?_
      exact E.QG.result_ct rfl rfl b8 hu34 rfl info34c rfl ⟨by rw [loV_no (by rw [errT_arg hok (fun k => h25 k.1)]; decide), hiV_no (by rw [errT_arg hok (fun k => h25 k.1)]; decide), errT_arg hok (fun k => h25 k.1)], L⟩

theorem chs_small {V : Ev} (ok : VOk V) {i : Nat} (hi : i < V.cs.length) {o : S69} (ho : o ∈ chs V (ct V i)) : SmallB o.b 20 := by
  obtain ⟨c, hc⟩ := get_ex hi
  have hct := ct_of hc
  have hcok := ok.c c (List.mem_of_getElem? hc)
  rw [← hct] at hcok
  obtain ⟨b, hb, rfl⟩ := (mem_chs ok.n1 ok.n3 hcok.2.2.2.2.2.2.2.1).mp ho
  exact way_small hb hcok.2.2.2.2.2.2.2.2
set_option maxRecDepth 100000 in
set_option maxHeartbeats 8000000 in

theorem clo52 (o : S69) (s : Int) (g : Nat) (w : World) (hs : 0 ≤ s ∧ s ≤ 2) (bg : w.heap[g]? = some (.cells #[.int .i64 s] 3 (0, 0))) :
    Calls Try.prog 52 #[.agg #[.int .i64 o.f0, .int .i64 o.f1, .int .i64 o.f2, .int .i64 o.f3], .pointer (some ⟨g, 0, none⟩)] w fun e w' => e = .returned (.int .i64 (o.b.get s.toNat)) ∧ Below w.heap.size w w' := by
  have hu3 := Try.underlying3
  have hu59 := Try.underlying59
  have hu69 := Try.underlying69
  obtain ⟨z3, o3⟩ := info_some info3s (by decide)
  obtain ⟨z59, o59⟩ := info_some info59s (by decide)
  refine E.enter (N := 8) Try.func52 rfl Try.ntmps52 (args := [.agg #[.int .i64 o.f0, .int .i64 o.f1, .int .i64 o.f2, .int .i64 o.f3], .pointer (some ⟨g, 0, none⟩)]) (by simp) ?_
  have L := Below.refl w.heap.size w
  refine E.CG.seq ?_
  refine E.CG.list ?_
  refine E.GL.st rfl rfl rfl (E.ST.box rfl rfl fun g2 w2 e2 b2 l2 => ?_)
  have h2_L : w.heap.size ≤ g2 := by rw [e2]; exact L.size
  have n2_bg : g ≠ g2 := by have := blk_lt bg; omega
  replace bg := blk_below bg l2
  replace L := below_step L l2
  refine E.GL.run rfl rfl rfl (E.Runs.assign rfl rfl) ?_
  refine E.GL.done ?_
  refine E.QG.code ?_
  refine E.CG.seq ?_
  refine E.CG.list ?_
  refine E.GL.run rfl rfl rfl (E.Runs.load rfl rfl hu3 (by first | assumption | exact E.blkc (by assumption) rfl | exact pw_cell_below L (by assumption))) ?_
  refine E.GL.run rfl rfl rfl (E.Runs.fieldAddr rfl rfl hu69 rfl (by assumption) rfl) ?_
  refine E.GL.run rfl rfl rfl (E.Runs.indexArr rfl rfl rfl hu59 z3 o3 (by omega) (by omega) (show Go.Addr.add (⟨g2, 0, none⟩ : Addr) (s.toNat * 1) = (⟨g2, s.toNat, none⟩ : Addr) from by rw [Go.Addr.add_mid]; simp)) ?_
  refine E.GL.run rfl rfl rfl (E.Runs.load rfl rfl hu3 (show w2.cell? ⟨g2, s.toNat, none⟩ = some (Value.int .i64 (o.b.get s.toNat)) from by have := mid69 b2 s.toNat _ (bc_get o.b (show s.toNat < 3 by omega)); rw [Go.Addr.add_mid] at this; simpa using this)) ?_
  refine E.GL.run rfl rfl rfl (E.Runs.assign rfl rfl) ?_
  refine E.GL.done ?_
  refine E.QG.code ?_
  refine E.CG.ret ?_
  exact E.QG.result rfl rfl ⟨rfl, L⟩

set_option maxRecDepth 100000 in
set_option maxHeartbeats 8000000 in

theorem really_calls (V : Ev) (m : Ea) (till sh : Int) (w : World) (hV : EvM w V m) (hs : Sz V) :
    Calls Try.prog 16 #[hv V m, .int .i64 till, .int .i64 sh] w fun e w' => e = .returned (.tuple #[.agg #[.int .i64 (loV V till sh (fun b => b.get sh.toNat)), .int .i64 (hiV V till sh (fun b => b.get sh.toNat))], .int .i64 (errT V till sh)]) ∧ Below w.heap.size w w' := by
  have hu3 := Try.underlying3
  have hu25 := Try.underlying25
  have hu34 := Try.underlying34
  refine E.enter (N := 15) Try.func16 rfl Try.ntmps16 (args := [hv V m, .int .i64 till, .int .i64 sh]) (by simp) ?_
  have L := Below.refl w.heap.size w
  refine E.CG.seq ?_
  refine E.CG.list ?_
  refine E.GL.st rfl rfl rfl (E.ST.box rfl rfl fun g3 w3 e3 b3 l3 => ?_)
  have h3_L : w.heap.size ≤ g3 := by rw [e3]; exact L.size
  replace L := below_step L l3
  refine E.GL.st rfl rfl rfl (E.ST.boxZ rfl rfl rfl fun g5 w5 e5 b5 l5 => ?_)
  have h5_L : w.heap.size ≤ g5 := by rw [e5]; exact L.size
  have n5_b3 : g3 ≠ g5 := by have := blk_lt b3; omega
  replace b3 := blk_below b3 l5
  replace L := below_step L l5
  refine E.GL.st rfl rfl rfl (E.ST.alloc rfl info34z fun g6 w6 e6 b6 l6 => ?_)
  have h6_L : w.heap.size ≤ g6 := by rw [e6]; exact L.size
  have n6_b3 : g3 ≠ g6 := by have := blk_lt b3; omega
  have n6_b5 : g5 ≠ g6 := by have := blk_lt b5; omega
  replace b3 := blk_below b3 l6
  replace b5 := blk_below b5 l6
  replace L := below_step L l6
  refine E.GL.run rfl rfl rfl (E.Runs.assign rfl rfl) ?_
  refine E.GL.done ?_
  refine E.QG.code ?_
  refine E.CG.seq ?_
  refine E.CG.list ?_
  refine E.GL.run rfl rfl rfl (E.Runs.loads (cs := [.slice m.A V.ps.length m.a, .slice m.B V.qs.length m.b, .slice m.C V.ts.length m.c, .slice m.D V.cs.length m.d]) rfl rfl hu25 rfl info25s (blk_cells b3)) ?_
  refine E.GL.run rfl rfl rfl (E.Runs.move rfl rfl) ?_
  refine E.GL.run rfl rfl rfl (E.Runs.load rfl rfl hu3 (by first | assumption | exact E.blkc (by assumption) rfl | exact pw_cell_below L (by assumption))) ?_
  refine E.GL.run rfl rfl rfl (E.Runs.makeFunc rfl (E.evc rfl E.evn)) ?_
  refine E.GL.st rfl rfl rfl (E.ST.call rfl ent51 (E.evc rfl (E.evc rfl (E.evc rfl (E.evc rfl E.evn)))) ((bounds_calls V m till sh 52 [.pointer (some ⟨g5, 0, none⟩)] (fun b => b.get sh.toNat) _ (hV.below L) hs ent52 (fun o W ok hT ho l => clo52 o sh g5 W ⟨hT.2.1, by have := ok.n3; have := hT.2.2; omega⟩ (blk_below b5 l))).mono ?_))
  rintro e w12 ⟨rfl, l12⟩
  refine ⟨_, rfl, ?_⟩
  replace b3 := blk_below b3 l12
  replace b5 := blk_below b5 l12
  replace b6 := blk_below b6 l12
  replace L := below_step L l12
  refine E.GL.run rfl rfl rfl (E.Runs.extract rfl rfl rfl) ?_
  refine E.GL.run rfl rfl rfl (E.Runs.extract rfl rfl rfl) ?_
  refine E.GL.store_whole rfl rfl rfl rfl rfl b6 rfl info34s (two_one _ _) fun wS1_7 c6 lS1_7 => ?_
  replace b3 := blk_grown b3 lS1_7 (E.nes (by first | assumption | exact Ne.symm (by assumption)))
  replace b5 := blk_grown b5 lS1_7 (E.nes (by first | assumption | exact Ne.symm (by assumption)))
  replace L := E.below_own L h6_L lS1_7
  replace b6 := c6
  clear c6
  refine E.GL.run rfl rfl rfl (E.Runs.assign rfl rfl) ?_
  refine E.GL.done ?_
  refine E.QG.code ?_
  refine E.CG.ret ?_
  exact E.QG.result_ct rfl rfl b6 hu34 rfl info34c rfl ⟨rfl, L⟩

end Go.Proofs.Ytiplichdhcmjdaa.T
namespace Go.Proofs.Ytiplichdhcmjdaa.E
open Go.RowKit Go.Proofs.YtiplichdhcmjdaaW.PrintWords Go.Proofs.YtiplichdhcmjdaaW.PrintMore
open Go.Proofs.Ytiplichdhcmjdaa.T
set_option linter.unusedVariables false
set_option linter.unusedSimpArgs false
section
variable {P : Program} {w w' : World} {N : Nat} {env : Env} {o : Oper} {Q : Exit → Act → World → Prop} {K : Value → World → Prop}
/-- append(v, x), x a row of our own: behind the making of the variadic's slice. -/
theorem ST.appendR {α : Type} (d : Kd α) {w0 : World} (base : Nat) {W : World} {s x : Operand} {t e : TypeId} {z : Value} {bytes : Nat}
    (ho : o.op = .call { callee := .builtin .append, args := #[s, x], argTypes := #[t, t] })
    (ht : P.underlying t = some (.slice e)) (hinfo : (P.info? e).map (fun i => (i.zero, i.size, i.bytes)) = some (some z, d.sz, bytes)) (hz : z.cells.size = d.sz) (hs0 : 0 < d.sz) (hb0 : 0 < bytes)
    {v : Value} {xs : List α} (p : α) {cs : List Value} (hs : Ev env s v) (hx : Ev env x (.slice (some ⟨W.heap.size, 0, none⟩) 1 1)) (hp : d.M W base (fun k => some k ≠ v.ownBlock) p cs)
    (HO : d.R e W base (fun _ => True) v xs) (HB : Below base w0 W) (hbase : base ≤ W.heap.size) (hl : (xs.length + 1) * bytes ≤ 140737488355328)
    (h : ∀ v1 w1, d.R e w1 base (fun _ => True) v1 (xs ++ [p]) → Below base w0 w1 → W.grownBy w1 v.ownBlock → (v1.ownBlock = v.ownBlock ∨ ∃ k, v1.ownBlock = some k ∧ W.heap.size ≤ k) → K v1 w1) : ST P Q N env (W.alloc (.cells cs.toArray e)) o K := by
  intro a ha Kc hK
  have h0 : Region.wanted { o with guard := none } (yielded #[] a.tmps) = true := rfl
  have := Kd.R_append_step (P := P) (ops := #[]) (o := { o with guard := none }) (a := a) (Q := Q) (Kc := Kc) d base h0 s x t e z bytes ho ht hinfo hz hs0 hb0 v xs p cs (fun _ => True) (fun k => some k ≠ v.ownBlock) (ha.eval hs) (ha.eval hx) hp (fun _ hk => ⟨trivial, hk⟩) (fun _ _ => trivial) HO HB hbase hl (fun v1 w1 h1 h2 h3 h4 => hK _ _ (h v1 w1 h1 h2 h3 h4))
  rw [if_pos h0] at this
  exact this
/-- The first elements of an array as a slice. -/
theorem Runs.sliceArrTo {t e : TypeId} {x y : Operand} {p : Addr} {n m : Nat} {k : IntKind} (ho : o.op = .slice t x none (some y) none) (hx : Ev env x (.pointer (some p))) (hy : Ev env y (.int k m)) (hu : P.underlying t = some (.array n e)) (hz : Sized P e) (hm : m ≤ n) (hn : n ≠ 0) : Runs P N env o w (.slice (some (p.add 0)) m n) := fun a w' ha hw => by
  obtain ⟨inf, h1, h2⟩ := hz
  have e1 := ha.eval hx
  have e2 := ha.eval hy
  generalize a.eval = ρ at e1 e2 ⊢
  unfold execOp; rw [ho]
  simp [go_sem, e1, e2, Instr.sliceAt, Instr.sliceBounds, run_underlying hu, run_sizeOf w' h1, Sem.run_bind, Instr.sureAddr, asIntOf, hn, hm]
end
/-- A block of another type has been written. -/
theorem R_over {α : Type} {d : Kd α} {e base g t : Nat} {w w1 : World} {v : Value} {xs : List α} {cs : Array Value} (h : d.R e w base (fun _ => True) v xs) (hb : w.heap[g]? = some (.cells cs t (0, 0))) (ht : ∀ q, q ∈ e :: d.E → q ≠ t) (hg : w.grownBy w1 (some g)) : d.R e w1 base (fun _ => True) v xs :=
  Kd.R_mono (Kd.R_grown (Kd.R_types h hb ht) hg (fun k hk q => hk.2 (Option.some.inj q))) (fun _ _ => trivial)
/-- Another row has been written, whose elements are of another type. -/
theorem R_over' {α β : Type} {d : Kd α} {d' : Kd β} {e e' base base' : Nat} {w w1 : World} {v u : Value} {xs : List α} {ys : List β} (h : d.R e w base (fun _ => True) v xs) (hu : d'.R e' w base' (fun _ => True) u ys) (ht : ∀ q, q ∈ e :: d.E → q ≠ e') (hg : w.grownBy w1 u.ownBlock) : d.R e w1 base (fun _ => True) v xs := by
  cases hu' : u.ownBlock with
  | none => rw [hu'] at hg; exact Kd.R_below h (belowG hg)
  | some g =>
    obtain ⟨_, _, ho, _⟩ := hu
    obtain ⟨cs, hc⟩ := own_typed ho g hu'
    rw [hu'] at hg
    exact R_over h hc ht hg
/-- An own row as an element, none of its blocks another row's. -/
theorem M_row' {α β : Type} {d : Kd α} {d' : Kd β} {e e' base base' : Nat} {w : World} {v u : Value} {xs : List α} {ys : List β} (h : d.R e w base (fun _ => True) v xs) (hu : d'.R e' w base' (fun _ => True) u ys) (ht : ∀ q, q ∈ e :: d.E → q ≠ e') : (Kd.slice e d).M w base (fun k => some k ≠ u.ownBlock) xs [v] := by
  refine ⟨v, rfl, ?_⟩
  cases hu' : u.ownBlock with
  | none => exact Kd.R_mono h (fun _ _ e => by cases e)
  | some g =>
    obtain ⟨_, _, ho, _⟩ := hu
    obtain ⟨cs, hc⟩ := own_typed ho g hu'
    exact Kd.R_mono (Kd.R_types h hc ht) (fun k hk q => hk.2 (Option.some.inj q))
end Go.Proofs.Ytiplichdhcmjdaa.E
namespace Go.Proofs.Ytiplichdhcmjdaa.T
open Go.RowKit Go.Proofs.YtiplichdhcmjdaaW.PrintWords Go.Proofs.YtiplichdhcmjdaaW.PrintMore
open Go.Proofs.Ytiplichdhcmjdaa.P
set_option linter.unusedVariables false
set_option linter.unusedSimpArgs false
/-- The first tickets of a bill. -/
def tb (n : Nat) (b : Bl) : List Int := [b.f0, b.f1, b.f2].take n
theorem tb_len {n : Nat} (h : n ≤ 3) (b : Bl) : (tb n b).length = n := by unfold tb; rw [List.length_take]; show min n 3 = n; omega
theorem tb_bl {n : Nat} {r : Int} {b : Bl} (h1 : 1 ≤ n) (h3 : n ≤ 3) (hw : Way n r b) : bl (tb n b) = b := by
  obtain ⟨_, _, _, q1, q2, _⟩ := hw
  have hc : n = 1 ∨ n = 2 ∨ n = 3 := by omega
  rcases hc with rfl | rfl | rfl
  · exact Bl.ext' rfl (q1 (by omega)).symm (q2 (by omega)).symm
  · exact Bl.ext' rfl rfl (q2 (by omega)).symm
  · rfl
theorem tb_at {n : Nat} {b : Bl} {s : Nat} (hs : s < n) (h3 : n ≤ 3) : (tb n b)[s]? = some (b.get s) := by
  unfold tb
  rw [List.getElem?_take_of_lt hs]
  have : s = 0 ∨ s = 1 ∨ s = 2 := by omega
  rcases this with rfl | rfl | rfl <;> rfl
theorem bl_tb {l : List Int} (h : l.length ≤ 3) : tb l.length (bl l) = l := by
  rcases l with _ | ⟨a, _ | ⟨b, _ | ⟨c, _ | ⟨d, l⟩⟩⟩⟩
  · rfl
  · rfl
  · rfl
  · rfl
  · simp at h
theorem C_arr {w : World} {g : Nat} {o : S69} {n : Nat} (hn : n ≤ 3) (hb : w.heap[g]? = some (.cells #[.int .i64 o.f0, .int .i64 o.f1, .int .i64 o.f2, .int .i64 o.f3] 69 (0, 0))) : Kd.C kI w (some ⟨g, 0, none⟩) n (tb n o.b) := by
  refine ⟨tb_len hn _, by omega, fun _ => ⟨_, rfl, ?_⟩⟩
  intro j p hj
  have hjl := (List.getElem?_eq_some_iff.1 hj).1
  rw [tb_len hn] at hjl
  rw [tb_at hjl hn] at hj
  refine ⟨[.int .i64 p], rfl, rfl, fun i u hu => ?_⟩
  have hi : i = 0 := by have := (List.getElem?_eq_some_iff.1 hu).1; simpa using this
  subst hi
  obtain rfl : Value.int .i64 p = u := by simpa using hu
  rw [Addr.add_mid, Nat.zero_add, blk_cell hb]
  obtain rfl := Option.some.inj hj
  have : j = 0 ∨ j = 1 ∨ j = 2 := by omega
  rcases this with rfl | rfl | rfl <;> rfl
theorem sumT_small {V : Ev} : ∀ {t : List Bl} {i : Nat}, Ws V i t → (∀ j, j < t.length → rl (ct V (i + j)) ≤ 20) → SmallB (sumT t) (20 * t.length)
  | [], i, _, _ => by
    intro j hj
    unfold sumT Bl.z Bl.get
    by_cases h0 : j = 0
    · simp [h0]
    · by_cases h1 : j = 1 <;> simp [h0, h1]
  | b :: t, i, h, k => by
    have h1 := sumT_small (t := t) (i := i + 1) h.2 (fun j hj => by have := k (j + 1) (by simpa using hj); rwa [show i + (j + 1) = i + 1 + j by omega] at this)
    have h0 : SmallB b 20 := by
      obtain ⟨a0, a1, a2, _, _, a5⟩ := h.1
      have hr := k 0 (by simp)
      rw [Nat.add_zero] at hr
      unfold Bl.sum at a5
      intro j hj
      have hj' : j = 0 ∨ j = 1 ∨ j = 2 := by omega
      rcases hj' with rfl | rfl | rfl
      · exact ⟨a0, show b.f0 ≤ 20 by omega⟩
      · exact ⟨a1, show b.f1 ≤ 20 by omega⟩
      · exact ⟨a2, show b.f2 ≤ 20 by omega⟩
    intro j hj
    have := h1 j hj
    have := h0 j hj
    have e : (b.add (sumT t)).get j = b.get j + (sumT t).get j := by
      have hj' : j = 0 ∨ j = 1 ∨ j = 2 := by omega
      rcases hj' with rfl | rfl | rfl <;> rfl
    rw [sumT, e, List.length_cons]
    push_cast
    omega
theorem rl_20 {V : Ev} (ok : VOk V) {i : Nat} (hi : i < V.cs.length) : rl (ct V i) ≤ 20 := by
  obtain ⟨c, hc⟩ := get_ex hi
  rw [ct_of hc]
  exact (ok.c c (List.mem_of_getElem? hc)).2.2.2.2.2.2.2.2
theorem rl_0 {V : Ev} (ok : VOk V) {i : Nat} (hi : i < V.cs.length) : 0 ≤ rl (ct V i) := by
  obtain ⟨c, hc⟩ := get_ex hi
  rw [ct_of hc]
  exact (ok.c c (List.mem_of_getElem? hc)).2.2.2.2.2.2.2.1
/-- A choice that goes on. -/
def Gd (fa : Bl → Option Int) (s : Bl) (r : Int) (o : S69) : Prop := ∃ r', fa (s.add o.b) = some r' ∧ o.f3 + r' = r
theorem exp_next {V : Ev} (ok : VOk V) {t : List Bl} (ht : t.length < V.cs.length) (hw : Ws V 0 t) {f fa : Bl → Option Int} (hf : IsA V t.length f) (hfa : IsA V (t.length + 1) fa) {r : Int} (hr : f (sumT t) = some r) : ∃ o ∈ chs V (ct V t.length), Gd fa (sumT t) r o := by
  have hM := hf (sumT t) ⟨t, rfl, hw, rfl⟩
  rw [hr] at hM
  obtain ⟨⟨u, u1, u2, u3, u4⟩, hmin⟩ := hM
  rcases u with _ | ⟨b, u⟩
  · simp at u1; omega
  have hreach : ∃ s, s.length = t.length + 1 ∧ Ws V 0 s ∧ sumT s = (sumT t).add b := ⟨t ++ [b], by simp, (Ws_append V t [b] 0).mpr ⟨hw, ⟨by rw [Nat.zero_add]; exact u2.1, trivial⟩⟩, by rw [sumT_append, sumT, sumT, Bl.add_z]⟩
  have hA := hfa ((sumT t).add b) hreach
  obtain ⟨r', h1, h2, u', a1, a2, a3, a4⟩ := hA.is ⟨u, by simp at u1; omega, u2.2, by rw [Bl.add_assoc]; exact u3, rfl⟩
  refine ⟨mkC V (ct V t.length) b, (mem_chs ok.n1 ok.n3 (rl_0 ok ht)).mpr ⟨b, u2.1, rfl⟩, r', by rw [mkC_b]; exact h1, ?_⟩
  rw [mkC_f]
  have hle := hmin (fl V (ct V t.length) b + r') ⟨b :: u', by simp; omega, ⟨u2.1, a2⟩, by rw [sumT, ← Bl.add_assoc]; exact a3, by rw [flT, a4]⟩
  rw [flT] at u4
  omega
theorem exp_step {V : Ev} (ok : VOk V) {t : List Bl} (ht : t.length < V.cs.length) (hw : Ws V 0 t) {r N : Int} (hN : flT V 0 t + r = N) {o : S69} (ho : o ∈ chs V (ct V t.length)) {r' : Int} (h : o.f3 + r' = r) : Ws V 0 (t ++ [o.b]) ∧ sumT (t ++ [o.b]) = (sumT t).add o.b ∧ flT V 0 (t ++ [o.b]) + r' = N := by
  obtain ⟨b, hb, rfl⟩ := (mem_chs ok.n1 ok.n3 (rl_0 ok ht)).mp ho
  rw [mkC_b]
  rw [mkC_f] at h
  refine ⟨(Ws_append V t [b] 0).mpr ⟨hw, ⟨by rw [Nat.zero_add]; exact hb, trivial⟩⟩, by rw [sumT_append, sumT, sumT, Bl.add_z], ?_⟩
  rw [flT_append, flT, flT, Nat.zero_add]
  omega
theorem exp_end {V : Ev} {t : List Bl} (ht : t.length = V.cs.length) (hw : Ws V 0 t) {f : Bl → Option Int} (hf : IsA V V.cs.length f) {r N : Int} (hr : f (sumT t) = some r) (hN : flT V 0 t + r = N) : Truth V t ∧ flT V 0 t = N := by
  have hM := hf (sumT t) ⟨t, ht, hw, rfl⟩
  rw [hr] at hM
  obtain ⟨⟨u, u1, u2, u3, u4⟩, _⟩ := hM
  rw [List.eq_nil_of_length_eq_zero (show u.length = 0 by omega)] at u3 u4
  rw [sumT, Bl.add_z] at u3
  unfold flT at u4
  exact ⟨⟨ht, hw, u3⟩, by omega⟩
/-- Rows of numbers, a row of our own. -/
abbrev kR : Kd (List Int) := Kd.slice 3 kI
structure RR (b : Nat) (w : World) (v : Value) (ts : List (List Int)) : Prop where
  r : Kd.R kR 22 w b (fun _ => True) v ts
theorem RR.below {b : Nat} {w w' : World} {v : Value} {ts : List (List Int)} (h : RR b w v ts) (l : Below w.heap.size w w') : RR b w' v ts := ⟨Kd.R_below h.r l⟩
theorem RR.grown {b : Nat} {w w' : World} {v : Value} {ts : List (List Int)} {g : Nat} (h : RR b w v ts) (hg : w.grownBy w' (some g)) (p : ∃ cs t, w.heap[g]? = some (.cells cs t (0, 0)) ∧ 22 ≠ t ∧ 3 ≠ t) : RR b w' v ts := by
  obtain ⟨cs, t, hb, h1, h2⟩ := p
  refine ⟨E.R_over h.r hb (fun q hq => ?_) hg⟩
  rcases List.mem_cons.mp hq with rfl | hq
  · exact h1
  · rcases List.mem_cons.mp hq with rfl | hq
    · exact h2
    · cases hq
end Go.Proofs.Ytiplichdhcmjdaa.T
namespace Go.Proofs.Ytiplichdhcmjdaa.T
open Go.RowKit Go.Proofs.YtiplichdhcmjdaaW.PrintWords Go.Proofs.YtiplichdhcmjdaaW.PrintMore
open Go.Proofs.Ytiplichdhcmjdaa.P
set_option linter.unusedVariables false
set_option linter.unusedSimpArgs false

set_option maxRecDepth 100000 in
theorem eqNil22 (A : Option Addr) (n c : Nat) (W : World) : (Op.equal 22 (.slice A n c) (.slice none 0 0)).run Try.prog W = .ok A.isNone W := by
  have hu22 := Try.underlying22
  unfold Op.equal Op.maxDepth
  rw [show (10000 : Nat) = 9999 + 1 from rfl]
  cases A <;> (unfold Op.equalIn; go_simp)
set_option maxRecDepth 100000 in
theorem lit22n (W : World) : (Instr.buildSlice 22 0 #[]).run Try.prog W = .ok (.slice (some ⟨W.heap.size, 0, none⟩) 0 0) (W.alloc (.cells #[] 3)) := by
  have hu22 := Try.underlying22
  go_simp
set_option maxRecDepth 100000 in
theorem lit42 (A : Option Addr) (n c : Nat) (W : World) : (Instr.buildSlice 42 1 #[(0, .slice A n c)]).run Try.prog W = .ok (.slice (some ⟨W.heap.size, 0, none⟩) 1 1) (W.alloc (.cells #[.slice A n c] 22 (0, 0))) := by
  have hu42 := Try.underlying42
  have hu22 := Try.underlying22
  go_simp
theorem C_none {α : Type} {d : Kd α} {w : World} {xs : List α} (h : Kd.C d w none xs.length xs) : xs = [] := by
  cases xs with
  | nil => rfl
  | cons a l =>
    obtain ⟨ad, c, e, _⟩ := Kd.C_get h a 0 (by omega) (by simp only [List.length_cons]; omega)
    cases e
theorem made22 {W : World} {base : Nat} : ∀ (x : Int) cs, kI.K W x cs → kI.M W base (fun _ => False) x cs := fun x cs h => h
theorem info22b : (Try.prog.info? 22).map (fun i => (i.zero, i.size, i.bytes)) = some (some (.slice none 0 0), 1, 24) := by kernel_rfl
set_option maxRecDepth 100000 in
set_option maxHeartbeats 8000000 in

theorem clone72 (l : List Int) (A : Option Addr) (n c : Nat) (w : World) (hr : Kd.C kI w A n l) (hn : n ≤ 1000000) :
    Calls Try.prog 72 #[.slice A n c] w fun e w' => ∃ v, e = .returned v ∧ Kd.R kI 3 w' w.heap.size (fun _ => True) v l ∧ Below w.heap.size w w' := by
  have hu22 := Try.underlying22
  have hln : l.length = n := Kd.C_len hr
  refine E.enter (N := 8) Try.func72 rfl Try.ntmps72 (args := [.slice A n c]) (by simp) ?_
  have L := Below.refl w.heap.size w
  refine E.CG.seq ?_
  refine E.CG.list ?_
  refine E.GL.run rfl rfl rfl (E.Runs.assign rfl rfl) ?_
  refine E.GL.done ?_
  refine E.QG.code ?_
  refine E.CG.seq ?_
  refine E.CG.seq ?_
  refine E.CG.list ?_
  refine E.GL.run rfl rfl rfl (E.Runs.move rfl rfl) ?_
  rcases A with _ | ad
  · refine E.GL.run rfl rfl rfl (E.Runs.eqlv rfl rfl rfl rfl (fun _ _ _ => rfl) (eqNil22 _ _ _)) ?_
    refine E.GL.done ?_
    refine E.QG.code ?_
    refine E.CG.cond_t rfl ?_
    refine E.CG.seq ?_
    refine E.CG.list ?_
    refine E.GL.run rfl rfl rfl (E.Runs.assign rfl rfl) ?_
    refine E.GL.done ?_
    refine E.QG.code ?_
    refine E.CG.ret ?_
    refine E.QG.pass_ret ?_
    have hl : l = [] := C_none (hln ▸ hr)
    subst hl
    exact E.QG.result rfl rfl ⟨_, rfl, Kd.R_nil _ _ _ _ _, L⟩
  · refine E.GL.run rfl rfl rfl (E.Runs.eqlv rfl rfl rfl rfl (fun _ _ _ => rfl) (eqNil22 _ _ _)) ?_
    refine E.GL.done ?_
    refine E.QG.code ?_
    refine E.CG.cond_f rfl ?_
    refine E.CG.skip ?_
    refine E.QG.code ?_
    refine E.CG.seq ?_
    refine E.CG.list ?_
    refine E.GL.st rfl rfl rfl (E.ST.litAt kI w.heap.size (w0 := w) (ys := ([] : List Int)) (inner := []) rfl rfl E.epn lit22n (Reps.none _ _) L L.size (by simp) fun u5 w5 r5 k5 l5 n5 => ?_)
    replace L := k5
    refine E.GL.run rfl rfl rfl (E.Runs.move rfl rfl) ?_
    refine E.GL.st rfl rfl rfl (E.ST.appendRows kI w.heap.size (w0 := w) (s := .tmp 5) (x := .tmp 6) rfl hu22 info3 rfl (by decide) (by decide) rfl rfl r5 (Kd.C_below hr L) made22 L L.size (by simp only [List.length_nil]; omega) fun u7 w7 r7 k7 g7 => ?_)
    replace L := k7
    refine E.GL.run rfl rfl rfl (E.Runs.assign rfl rfl) ?_
    refine E.GL.done ?_
    refine E.QG.code ?_
    refine E.CG.ret ?_
    exact E.QG.result rfl rfl ⟨_, rfl, by simpa using r7, L⟩

set_option maxRecDepth 100000 in
set_option maxHeartbeats 8000000 in

theorem explain_calls (V : Ev) (m : Ea) (w : World) (hV : EvM w V m) (hs : Sz V) :
    Calls Try.prog 39 #[hv V m] w fun e w' => ∃ v ts, e = .returned (.tuple #[v, .int .i64 (errV V)]) ∧ Kd.R kR 22 w' w.heap.size (fun _ => True) v ts ∧ ((errV V ≠ 0 ∧ ts = []) ∨ (errV V = 0 ∧ ∃ t, Lkly V t ∧ ts = t.map (tb V.ps.length))) ∧ Below w.heap.size w w' := by
  have hsc := hs.c
  have hu3 := Try.underlying3
  have hu22 := Try.underlying22
  have hu25 := Try.underlying25
  have hu28 := Try.underlying28
  have hu42 := Try.underlying42
  have hu59 := Try.underlying59
  have hu69 := Try.underlying69
  have hu72 := Try.underlying72
  have hu86 := Try.underlying86
  have hu87 := Try.underlying87
  have hu89 := Try.underlying89
  have hu91 := Try.underlying91
  obtain ⟨z91, o91⟩ := info_some info91s (by decide)
  obtain ⟨z3, o3⟩ := info_some info3s (by decide)
  obtain ⟨z22, o22⟩ := info_some info22s (by decide)
  obtain ⟨z25, o25⟩ := info_some info25s (by decide)
  obtain ⟨z59, o59⟩ := info_some info59s (by decide)
  obtain ⟨z69, o69⟩ := info_some info69s (by decide)
  obtain ⟨z72, o72⟩ := info_some info72s (by decide)
  obtain ⟨z86, o86⟩ := info_some info86s (by decide)
  obtain ⟨z87, o87⟩ := info_some info87s (by decide)
  refine E.enter (N := 87) Try.func39 rfl Try.ntmps39 (args := [hv V m]) (by simp) ?_
  have L := Below.refl w.heap.size w
  refine E.CG.seq ?_
  refine E.CG.list ?_
  refine E.GL.st rfl rfl rfl (E.ST.box rfl rfl fun g1 w1 e1 b1 l1 => ?_)
  have h1_L : w.heap.size ≤ g1 := by rw [e1]; exact L.size
  replace L := below_step L l1
  refine E.GL.run rfl rfl rfl (E.Runs.assign rfl rfl) ?_
  refine E.GL.run rfl rfl rfl (E.Runs.assign rfl rfl) ?_
  refine E.GL.done ?_
  refine E.QG.code ?_
  refine E.CG.seq ?_
  refine E.CG.list ?_
  refine E.GL.run rfl rfl rfl (E.Runs.loads (cs := [.slice m.A V.ps.length m.a, .slice m.B V.qs.length m.b, .slice m.C V.ts.length m.c, .slice m.D V.cs.length m.d]) rfl rfl hu25 rfl info25s (blk_cells b1)) ?_
  refine E.GL.st rfl rfl rfl (E.ST.call rfl ent49 (E.evc rfl E.evn) ((open_calls V m _ (hV.below L) hs).mono ?_))
  rintro e w16 ⟨p, Er, rfl, hO, l16⟩
  refine ⟨_, rfl, ?_⟩
  replace b1 := blk_below b1 l16
  replace L := below_step L l16
  refine E.GL.run rfl rfl rfl (E.Runs.move rfl rfl) ?_
  refine E.GL.run rfl rfl rfl (E.Runs.extract rfl rfl rfl) ?_
  refine E.GL.run rfl rfl rfl (E.Runs.extract rfl rfl rfl) ?_
  refine E.GL.run rfl rfl rfl (E.Runs.assign rfl rfl) ?_
  refine E.GL.run rfl rfl rfl (E.Runs.assign rfl rfl) ?_
  refine E.GL.done ?_
  refine E.QG.code ?_
  refine E.CG.seq ?_
  refine E.CG.seq ?_
  refine E.CG.list ?_
  refine E.GL.run rfl rfl rfl (E.Runs.move rfl rfl) ?_
  obtain ⟨hok, rfl, rfl⟩ | ⟨hok, hno, rfl, rfl⟩ | ⟨hok, rfl, g, C, G, D, Ac, Ab, Aa, cc, cb, ca, F, Fa, rfl, hF, hO⟩ := hO
  · refine E.GL.run rfl rfl rfl (E.Runs.neq rfl rfl rfl rfl) ?_
    refine E.GL.done ?_
    refine E.QG.code ?_
    refine E.CG.cond_t rfl ?_
    refine E.CG.seq ?_
    refine E.CG.list ?_
    refine E.GL.run rfl rfl rfl (E.Runs.move rfl rfl) ?_
    refine E.GL.run rfl rfl rfl (E.Runs.assign rfl rfl) ?_
    refine E.GL.run rfl rfl rfl (E.Runs.assign rfl rfl) ?_
    refine E.GL.done ?_
    refine E.QG.code ?_
    refine E.CG.ret ?_
    refine E.QG.pass_ret ?_
    exact E.QG.result2 rfl rfl rfl ⟨_, [], by rw [errV_no hok] <;> rfl, Kd.R_nil _ _ _ _ _, .inl ⟨by rw [errV_no hok]; decide, rfl⟩, L⟩
  · refine E.GL.run rfl rfl rfl (E.Runs.neq rfl rfl rfl rfl) ?_
    refine E.GL.done ?_
    refine E.QG.code ?_
    refine E.CG.cond_t rfl ?_
    refine E.CG.seq ?_
    refine E.CG.list ?_
    refine E.GL.run rfl rfl rfl (E.Runs.move rfl rfl) ?_
    refine E.GL.run rfl rfl rfl (E.Runs.assign rfl rfl) ?_
    refine E.GL.run rfl rfl rfl (E.Runs.assign rfl rfl) ?_
    refine E.GL.done ?_
    refine E.QG.code ?_
    refine E.CG.ret ?_
    refine E.QG.pass_ret ?_
    exact E.QG.result2 rfl rfl rfl ⟨_, [], by rw [errV_none hok hno] <;> rfl, Kd.R_nil _ _ _ _ _, .inl ⟨by rw [errV_none hok hno]; decide, rfl⟩, L⟩
  · obtain ⟨N, hN0, hN⟩ := few_some (ok_b hO) hF (ok_a hO)
    obtain ⟨t0, ht0⟩ := hN.1
    have hfN := fewN_eq hN
    rw [← hfN] at hN hN0
    have hc4 := hok.c4
    have hp3 := hok.n3
    have hp1 := hok.n1
    have hla := hO.la
    have hlb := hO.lb
    have hlc := hO.lc
    have K := Below.refl w16.heap.size w16
    have L16 := L
    have hb1 := b1
    refine E.GL.run rfl rfl rfl (E.Runs.neq rfl rfl rfl rfl) ?_
    refine E.GL.done ?_
    refine E.QG.code ?_
    refine E.CG.cond_f rfl ?_
    refine E.CG.skip ?_
    refine E.QG.code ?_
    refine E.CG.seq ?_
    refine E.CG.list ?_
    refine E.GL.run rfl rfl rfl (E.Runs.assign rfl rfl) ?_
    refine E.GL.done ?_
    refine E.QG.code ?_
    refine E.CG.seq ?_
    refine E.CG.list ?_
    refine E.GL.st rfl rfl rfl (E.ST.alloc rfl info59z fun g7 w7 e7 b7 l7 => ?_)
    have h7_L : w.heap.size ≤ g7 := by rw [e7]; exact L.size
    have h7_K : w16.heap.size ≤ g7 := by rw [e7]; exact K.size
    have n7_b1 : g1 ≠ g7 := by have := blk_lt b1; omega
    replace b1 := blk_below b1 l7
    replace L := below_step L l7
    replace K := below_step K l7
    refine E.GL.done ?_
    refine E.QG.code ?_
    refine E.CG.seq ?_
    refine E.CG.seq ?_
    refine E.CG.list ?_
    refine E.GL.run rfl rfl rfl (E.Runs.move rfl rfl) ?_
    refine E.GL.run rfl rfl rfl (E.Runs.nilCheck rfl rfl) ?_
    refine E.GL.run rfl rfl rfl (E.Runs.fieldAddr rfl rfl hu89 rfl (by assumption) rfl) ?_
    refine E.GL.run rfl rfl rfl (E.Runs.load1 rfl rfl hu86 rfl (E.blkc (blk_below hO.b4 K) rfl)) ?_
    refine E.GL.run rfl rfl rfl (E.Runs.len rfl rfl hu86) ?_
    refine E.GL.run rfl rfl rfl (E.Runs.move rfl rfl) ?_
    refine E.GL.done ?_
    refine E.QG.code ?_
    refine E.CG.block ?_
    have hrr : RR w16.heap.size w7 (.slice none 0 0) (([] : List Bl).map (tb V.ps.length)) := ⟨Kd.R_nil _ _ _ _ _⟩
    have s7_b1 := b1
    have s7_b7 := b7
    have s7_L := L
    have s7_K := K
    refine E.CG.loop2 (fun (t : List Bl) (v6 : Value) => [(1, .pointer (some ⟨g1, 0, none⟩)), (4, .pointer (some ⟨g, 0, none⟩)), (6, v6), (7, .pointer (some ⟨g7, 0, none⟩)), (25, .slice Ac C.length cc), (26, .int .i64 C.length), (27, .int .i64 (t.length : Int))]) (fun t v6 w' => t.length ≤ V.cs.length ∧ Ws V 0 t ∧ (∃ r, Fa t.length (sumT t) = some r ∧ flT V 0 t + r = fewN V) ∧ RR w16.heap.size w' v6 (t.map (tb V.ps.length)) ∧ w'.heap[g1]? = some (.cells #[.slice m.A V.ps.length m.a, .slice m.B V.qs.length m.b, .slice m.C V.ts.length m.c, .slice m.D V.cs.length m.d] 25 (0, 0)) ∧ w'.heap[g7]? = some (.cells #[.int .i64 (sumT t).f0, .int .i64 (sumT t).f1, .int .i64 (sumT t).f2] 59 (0, 0)) ∧ Below w16.heap.size w16 w') (fun t v6 => V.cs.length - t.length) [] (.slice none 0 0) (E.subc rfl (E.subc rfl (E.subc rfl (E.subc rfl (E.subc rfl (E.subc rfl (E.subc rfl E.subn))))))) ⟨Nat.zero_le _, trivial, ⟨_, hN0, by show 0 + _ = _; omega⟩, hrr, b1, b7, K⟩ ?_
    rintro t v6 w7 ⟨hti0, hWs, ⟨r, hr, hrN⟩, RRv, b1, b7, K⟩
    refine E.CG.seq ?_
    refine E.CG.list ?_
    refine E.GL.cmp rfl rfl rfl (fun _ h => (E.Runs.lss rfl rfl rfl h)) (fun h28 => ?_) (fun h28 => ?_)
    · have hti : t.length < V.cs.length := by omega
      obtain ⟨hd, hhd⟩ := get_ex (show t.length < C.length by omega)
      obtain ⟨hdn, hdr⟩ := hO.hc _ hd hhd
      obtain ⟨adC, eAC, XC⟩ := sc_at hO.rc hhd
      obtain ⟨ga, hga, mqa, hIA⟩ := hO.ha t.length (by omega)
      obtain ⟨adA, eAA, XA⟩ := sc_at hO.ra hga
      obtain ⟨gq, hgq, mq, hIA1⟩ := hO.ha (t.length + 1) (by omega)
      obtain ⟨adQ, eAQ, XQ⟩ := sc_at hO.ra hgq
      obtain ⟨hr0r, hr8⟩ := isA_small hIA ⟨t, rfl, hWs, rfl⟩ hr
      have hst : SmallB (sumT t) 80 := (sumT_small hWs (fun j hj => by rw [Nat.zero_add]; exact rl_20 hok (by omega))).up (by omega)
      obtain ⟨c, hc⟩ := get_ex hti
      have hct := ct_of hc
      have hcok := hok.c c (List.mem_of_getElem? hc)
      have hcl := chs_len hok hcok
      rw [← hct] at hcl hcok
      refine E.GL.done ?_
      refine E.QG.code ?_
      refine E.CG.seq ?_
      refine E.CG.cond_t rfl ?_
      refine E.CG.skip ?_
      refine E.QG.code ?_
      refine E.CG.seq ?_
      refine E.CG.block ?_
      refine E.CG.seq ?_
      refine E.CG.list ?_
      refine E.GL.run rfl rfl rfl (E.Runs.move rfl rfl) ?_
      refine E.GL.run rfl rfl rfl (E.Runs.indexAddrA (i := t.length) rfl rfl rfl hu86 z72 o72 (by omega) eAC rfl) ?_
      refine E.GL.run rfl rfl rfl (E.Runs.load1 rfl rfl hu72 rfl (show _ = some (Value.slice hd.A hd.n hd.c) from pw_cell_below K XC)) ?_
      refine E.GL.run rfl rfl rfl (E.Runs.assign rfl rfl) ?_
      refine E.GL.run rfl rfl rfl (E.Runs.assign rfl rfl) ?_
      refine E.GL.done ?_
      refine E.QG.code ?_
      refine E.CG.seq ?_
      refine E.CG.list ?_
      refine E.GL.run rfl rfl rfl (E.Runs.move rfl rfl) ?_
      refine E.GL.run rfl rfl rfl (E.Runs.len rfl rfl hu72) ?_
      refine E.GL.run rfl rfl rfl (E.Runs.move rfl rfl) ?_
      refine E.GL.done ?_
      refine E.QG.code ?_
      refine E.CG.block ?_
      have s10_b1 := b1
      have s10_b7 := b7
      have s10_K := K
      refine E.CG.loop (fun (j : Nat) => [(1, .pointer (some ⟨g1, 0, none⟩)), (4, .pointer (some ⟨g, 0, none⟩)), (6, v6), (7, .pointer (some ⟨g7, 0, none⟩)), (25, .slice Ac C.length cc), (26, .int .i64 C.length), (27, .int .i64 (t.length : Int)), (8, .int .i64 (t.length : Int)), (32, .slice hd.A hd.n hd.c), (33, .int .i64 hd.n), (34, .int .i64 j)]) (fun j w' => j ≤ hd.n ∧ (∀ k, k < j → ∀ o, (chs V (ct V t.length))[k]? = some o → ¬ Gd (Fa (t.length + 1)) (sumT t) r o) ∧ RR w16.heap.size w' v6 (t.map (tb V.ps.length)) ∧ w'.heap[g1]? = some (.cells #[.slice m.A V.ps.length m.a, .slice m.B V.qs.length m.b, .slice m.C V.ts.length m.c, .slice m.D V.cs.length m.d] 25 (0, 0)) ∧ w'.heap[g7]? = some (.cells #[.int .i64 (sumT t).f0, .int .i64 (sumT t).f1, .int .i64 (sumT t).f2] 59 (0, 0)) ∧ Below w16.heap.size w16 w') (fun j => hd.n - j) 0 (E.subc rfl (E.subc rfl (E.subc rfl (E.subc rfl (E.subc rfl (E.subc rfl (E.subc rfl (E.subc rfl (E.subc rfl (E.subc rfl (E.subc rfl E.subn))))))))))) ⟨Nat.zero_le _, fun k hk => by omega, RRv, b1, b7, K⟩ ?_
      rintro j w10 ⟨hj, hbad, RRv, b1, b7, K⟩
      refine E.CG.seq ?_
      refine E.CG.list ?_
      refine E.GL.cmp rfl rfl rfl (fun _ h => (E.Runs.lss rfl rfl rfl h)) (fun h35 => ?_) (fun h35 => ?_)
      · obtain ⟨o, ho⟩ := get_ex (show j < (chs V (ct V t.length)).length by omega)
        obtain ⟨ao, eO, XO⟩ := ch_at hdr ho
        have hom := List.mem_of_getElem? ho
        have hso := chs_small hok hti hom
        obtain ⟨wb, hwb, hob⟩ := (mem_chs hok.n1 hok.n3 hcok.2.2.2.2.2.2.2.1).mp hom
        have hof := fl_01 V (ct V t.length) wb
        have hof3 : o.f3 = fl V (ct V t.length) wb := by rw [hob]; rfl
        have hobb : o.b = wb := by rw [hob]; rfl
        refine E.GL.done ?_
        refine E.QG.code ?_
        refine E.CG.seq ?_
        refine E.CG.cond_t rfl ?_
        refine E.CG.skip ?_
        refine E.QG.code ?_
        refine E.CG.seq ?_
        refine E.CG.block ?_
        refine E.CG.seq ?_
        refine E.CG.list ?_
        refine E.GL.run rfl rfl rfl (E.Runs.indexAddrA (i := j) rfl rfl rfl hu72 z69 o69 (by omega) eO rfl) ?_
        refine E.GL.run rfl rfl rfl (E.Runs.loads (cs := [.int .i64 o.f0, .int .i64 o.f1, .int .i64 o.f2, .int .i64 o.f3]) rfl rfl hu69 rfl info69s (fun j v hv => pw_cell_below K (XO j v hv))) ?_
        refine E.GL.st rfl rfl rfl (E.ST.alloc rfl info69z fun g11 w11 e11 b11 l11 => ?_)
        have h11_K : w16.heap.size ≤ g11 := by rw [e11]; exact K.size
        have n11_b1 : g1 ≠ g11 := by have := blk_lt b1; omega
        have n11_b7 : g7 ≠ g11 := by have := blk_lt b7; omega
        replace b1 := blk_below b1 l11
        replace b7 := blk_below b7 l11
        replace RRv := RRv.below l11
        replace K := below_step K l11
        refine E.GL.store_whole rfl rfl rfl rfl rfl b11 rfl info69s (four_oneS _ _ _ _) fun wS11_3 c11 lS11_3 => ?_
        replace b1 := blk_grown b1 lS11_3 (E.nes (by first | assumption | exact Ne.symm (by assumption)))
        replace b7 := blk_grown b7 lS11_3 (E.nes (by first | assumption | exact Ne.symm (by assumption)))
        replace RRv := RRv.grown lS11_3 (by first | exact ⟨_, _, b7, by decide, by decide⟩ | exact ⟨_, _, b11, by decide, by decide⟩ | exact ⟨_, _, b1, by decide, by decide⟩)
        replace K := E.below_own K h11_K lS11_3
        replace b11 := c11
        clear c11
        refine E.GL.done ?_
        refine E.QG.code ?_
        refine E.CG.seq ?_
        refine E.CG.heldH (none) (by kernel_rfl) fun v12 lD hh => ?_
        replace b1 := blk_below b1 lD
        replace b7 := blk_below b7 lD
        replace b11 := blk_below b11 lD
        replace RRv := RRv.below lD
        replace K := below_step K lD
        clear lD
        have s_b1 := b1
        have s_b7 := b7
        have s_b11 := b11
        have s_K := K
        have s_RRv := RRv
        refine E.GH.take (i := 0) rfl (by kernel_rfl) (by kernel_rfl) (by kernel_rfl) (by intro c a d v w h; first | (cases d <;> exact h) | exact nomatch (show _ ∧ _ from h).1) rfl rfl rfl (fun w' hS => (E.Runs.move rfl rfl)) ?_
        refine E.GH.take (i := 1) rfl (by kernel_rfl) (by kernel_rfl) (by kernel_rfl) (by intro c a d v w h; first | (cases d <;> exact h) | exact nomatch (show _ ∧ _ from h).1) rfl rfl rfl (fun w' hS => (E.Runs.nilCheck rfl rfl)) ?_
        refine E.GH.take (i := 2) rfl (by kernel_rfl) (by kernel_rfl) (by kernel_rfl) (by intro c a d v w h; first | (cases d <;> exact h) | exact nomatch (show _ ∧ _ from h).1) rfl rfl rfl (fun w' hS => (E.Runs.fieldAddr rfl rfl hu89 rfl (by assumption) rfl)) ?_
        refine E.GH.take (i := 3) rfl (by kernel_rfl) (by kernel_rfl) (by kernel_rfl) (by intro c a d v w h; first | (cases d <;> exact h) | exact nomatch (show _ ∧ _ from h).1) rfl rfl rfl (fun w' hS => (E.Runs.load1 rfl rfl hu87 rfl (E.blkc (blk_below hO.b4 (below_step s_K (E.belowG hS))) rfl))) ?_
        refine E.GH.take (i := 4) rfl (by kernel_rfl) (by kernel_rfl) (by kernel_rfl) (by intro c a d v w h; first | (cases d <;> exact h) | exact nomatch (show _ ∧ _ from h).1) rfl rfl rfl (fun w' hS => (E.Runs.move rfl rfl)) ?_
        refine E.GH.take (i := 5) rfl (by kernel_rfl) (by kernel_rfl) (by kernel_rfl) (by intro c a d v w h; first | (cases d <;> exact h) | exact nomatch (show _ ∧ _ from h).1) rfl rfl rfl (fun w' hS => (E.Runs.add rfl rfl rfl (IntWalk.i64_in _ (by omega)))) ?_
        refine E.GH.take (i := 6) rfl (by kernel_rfl) (by kernel_rfl) (by kernel_rfl) (by intro c a d v w h; first | (cases d <;> exact h) | exact nomatch (show _ ∧ _ from h).1) rfl rfl rfl (fun w' hS => (E.Runs.indexAddrA (i := t.length + 1) rfl rfl (by push_cast; rfl) hu87 z91 o91 (by omega) eAQ rfl)) ?_
        refine E.GH.take (i := 7) rfl (by kernel_rfl) (by kernel_rfl) (by kernel_rfl) (by intro c a d v w h; first | (cases d <;> exact h) | exact nomatch (show _ ∧ _ from h).1) rfl rfl rfl (fun w' hS => (E.Runs.load1 rfl rfl hu91 rfl (pw_cell_below (below_step s_K (E.belowG hS)) XQ))) ?_
        refine E.GH.take (i := 8) rfl (by kernel_rfl) (by kernel_rfl) (by kernel_rfl) (by intro c a d v w h; first | (cases d <;> exact h) | exact nomatch (show _ ∧ _ from h).1) rfl rfl rfl (fun w' hS => (E.Runs.loads (cs := [.int .i64 (sumT t).f0, .int .i64 (sumT t).f1, .int .i64 (sumT t).f2]) rfl rfl hu59 rfl info59s (blk_cells (blk_grown s_b7 hS E.nen)))) ?_
        refine E.GH.take (i := 9) rfl (by kernel_rfl) (by kernel_rfl) (by kernel_rfl) (by intro c a d v w h; first | (cases d <;> exact h) | exact nomatch (show _ ∧ _ from h).1) rfl rfl rfl (fun w' hS => (E.Runs.fieldAddr rfl rfl hu69 rfl (by assumption) rfl)) ?_
        refine E.GH.take (i := 10) rfl (by kernel_rfl) (by kernel_rfl) (by kernel_rfl) (by intro c a d v w h; first | (cases d <;> exact h) | exact nomatch (show _ ∧ _ from h).1) rfl rfl rfl (fun w' hS => (E.Runs.loads (cs := [.int .i64 o.b.f0, .int .i64 o.b.f1, .int .i64 o.b.f2]) rfl rfl hu59 rfl info59s (mid69 (blk_grown s_b11 hS E.nen)))) ?_
        by_cases h50 : Fa (t.length + 1) ((sumT t).add o.b) = none
        · refine E.GH.one (i := 11) (by kernel_rfl) rfl ?_
          refine E.GO.st rfl rfl rfl (E.ST.call rfl ent48 (E.evc rfl (E.evc rfl E.evn)) ((plus_calls (sumT t) o.b _ (hst.up (by decide)) (hso.up (by decide))).mono ?_))
          rintro e w50 ⟨rfl, l50⟩
          refine ⟨_, rfl, hh.trans (E.gbB l50), ?_⟩
          replace hh := hh.trans (E.gbB l50)
          replace b1 := blk_below b1 l50
          replace b7 := blk_below b7 l50
          replace b11 := blk_below b11 l50
          replace RRv := RRv.below l50
          replace K := below_step K l50
          refine E.GH.take (i := 12) rfl (by kernel_rfl) (by kernel_rfl) (by kernel_rfl) (by intro c a d v w h; first | (cases d <;> exact h) | exact nomatch (show _ ∧ _ from h).1) rfl rfl rfl (fun w' hS => (E.Runs.lookupF rfl rfl kBT rfl hu91 zero3I (mq.below (below_step s_K (E.belowG hS))) (show _ = Value.tuple #[.int .i64 0, .bool false] from by simp [h50]))) ?_
          refine E.GH.take (i := 13) rfl (by kernel_rfl) (by kernel_rfl) (by kernel_rfl) (by intro c a d v w h; first | (cases d <;> exact h) | exact nomatch (show _ ∧ _ from h).1) rfl rfl rfl (fun w' hS => (E.Runs.move rfl rfl)) ?_
          refine E.GH.take (i := 14) rfl (by kernel_rfl) (by kernel_rfl) (by kernel_rfl) (by intro c a d v w h; first | (cases d <;> exact h) | exact nomatch (show _ ∧ _ from h).1) rfl rfl rfl (fun w' hS => (E.Runs.extract rfl rfl rfl)) ?_
          refine E.GH.take (i := 15) rfl (by kernel_rfl) (by kernel_rfl) (by kernel_rfl) (by intro c a d v w h; first | (cases d <;> exact h) | exact nomatch (show _ ∧ _ from h).1) rfl rfl rfl (fun w' hS => (E.Runs.extract rfl rfl rfl)) ?_
          refine E.GH.take (i := 16) rfl (by kernel_rfl) (by kernel_rfl) (by kernel_rfl) (by intro c a d v w h; first | (cases d <;> exact h) | exact nomatch (show _ ∧ _ from h).1) rfl rfl rfl (fun w' hS => (E.Runs.assign rfl rfl)) ?_
          refine E.GH.take (i := 17) rfl (by kernel_rfl) (by kernel_rfl) (by kernel_rfl) (by intro c a d v w h; first | (cases d <;> exact h) | exact nomatch (show _ ∧ _ from h).1) rfl rfl rfl (fun w' hS => (E.Runs.assign rfl rfl)) ?_
          refine E.GH.done (by kernel_rfl) ?_
          refine E.QG.code ?_
          refine E.CG.seq ?_
          refine E.CG.quietF (by kernel_rfl) rfl (by kernel_rfl) (by kernel_rfl) ?_
          refine E.GQ.run rfl rfl rfl (E.Runs.move rfl rfl) ?_
          refine E.GQ.run rfl rfl rfl (E.Runs.move rfl rfl) ?_
          refine E.GQ.skip rfl rfl rfl ?_
          refine E.GQ.skip rfl rfl rfl ?_
          refine E.GQ.skip rfl rfl rfl ?_
          refine E.GQ.skip rfl rfl rfl ?_
          refine E.GQ.skip rfl rfl rfl ?_
          refine E.GQ.skip rfl rfl rfl ?_
          refine E.GQ.skip rfl rfl rfl ?_
          refine E.GQ.skip rfl rfl rfl ?_
          refine E.GQ.skip rfl rfl rfl ?_
          refine E.GQ.skip rfl rfl rfl ?_
          refine E.GQ.skip rfl rfl rfl ?_
          refine E.GQ.skip rfl rfl rfl ?_
          refine E.GQ.skip rfl rfl rfl ?_
          refine E.GQ.skip rfl rfl rfl ?_
          refine E.GQ.run rfl rfl rfl (E.Runs.pick_f rfl rfl rfl) ?_
          refine E.GQ.doneB fun v13 lD => ?_
          replace b1 := blk_below b1 lD
          replace b7 := blk_below b7 lD
          replace b11 := blk_below b11 lD
          replace RRv := RRv.below lD
          replace K := below_step K lD
          have lD13 := lD
          clear lD
          refine E.QG.code ?_
          refine E.CG.cond_f rfl ?_
          refine E.CG.skip ?_
          refine E.QG.block_normal ?_
          refine E.QG.code ?_
          refine E.CG.list ?_
          refine E.GL.run rfl rfl rfl (E.Runs.add rfl rfl rfl (IntWalk.i64_in _ (by omega))) ?_
          refine E.GL.run rfl rfl rfl (E.Runs.move rfl rfl) ?_
          refine E.GL.done ?_
          exact E.QG.round (j + 1) (E.subc rfl (E.subc rfl (E.subc rfl (E.subc rfl (E.subc rfl (E.subc rfl (E.subc rfl (E.subc rfl (E.subc rfl (E.subc rfl (E.subc rfl E.subn))))))))))) ⟨by omega, all_more hbad ho (fun ⟨r', q1, q2⟩ => by first | (rw [h50] at q1; cases q1) | (rw [hr0] at q1; cases q1; omega)), RRv, b1, b7, K⟩ (by omega)
        · obtain ⟨r0, hr0⟩ := Option.ne_none_iff_exists'.mp h50
          obtain ⟨hr1, hr2⟩ := isA_small hIA1 ⟨t ++ [o.b], by simp, (Ws_append V t [o.b] 0).mpr ⟨hWs, ⟨by rw [Nat.zero_add, hobb]; exact hwb, trivial⟩⟩, by rw [sumT_append, sumT, sumT, Bl.add_z]⟩ hr0
          refine E.GH.one (i := 11) (by kernel_rfl) rfl ?_
          refine E.GO.st rfl rfl rfl (E.ST.call rfl ent48 (E.evc rfl (E.evc rfl E.evn)) ((plus_calls (sumT t) o.b _ (hst.up (by decide)) (hso.up (by decide))).mono ?_))
          rintro e w50 ⟨rfl, l50⟩
          refine ⟨_, rfl, hh.trans (E.gbB l50), ?_⟩
          replace hh := hh.trans (E.gbB l50)
          replace b1 := blk_below b1 l50
          replace b7 := blk_below b7 l50
          replace b11 := blk_below b11 l50
          replace RRv := RRv.below l50
          replace K := below_step K l50
          refine E.GH.take (i := 12) rfl (by kernel_rfl) (by kernel_rfl) (by kernel_rfl) (by intro c a d v w h; first | (cases d <;> exact h) | exact nomatch (show _ ∧ _ from h).1) rfl rfl rfl (fun w' hS => (E.Runs.lookupF rfl rfl kBT rfl hu91 zero3I (mq.below (below_step s_K (E.belowG hS))) (show _ = Value.tuple #[.int .i64 r0, .bool true] from by simp [hr0]))) ?_
          refine E.GH.take (i := 13) rfl (by kernel_rfl) (by kernel_rfl) (by kernel_rfl) (by intro c a d v w h; first | (cases d <;> exact h) | exact nomatch (show _ ∧ _ from h).1) rfl rfl rfl (fun w' hS => (E.Runs.move rfl rfl)) ?_
          refine E.GH.take (i := 14) rfl (by kernel_rfl) (by kernel_rfl) (by kernel_rfl) (by intro c a d v w h; first | (cases d <;> exact h) | exact nomatch (show _ ∧ _ from h).1) rfl rfl rfl (fun w' hS => (E.Runs.extract rfl rfl rfl)) ?_
          refine E.GH.take (i := 15) rfl (by kernel_rfl) (by kernel_rfl) (by kernel_rfl) (by intro c a d v w h; first | (cases d <;> exact h) | exact nomatch (show _ ∧ _ from h).1) rfl rfl rfl (fun w' hS => (E.Runs.extract rfl rfl rfl)) ?_
          refine E.GH.take (i := 16) rfl (by kernel_rfl) (by kernel_rfl) (by kernel_rfl) (by intro c a d v w h; first | (cases d <;> exact h) | exact nomatch (show _ ∧ _ from h).1) rfl rfl rfl (fun w' hS => (E.Runs.assign rfl rfl)) ?_
          refine E.GH.take (i := 17) rfl (by kernel_rfl) (by kernel_rfl) (by kernel_rfl) (by intro c a d v w h; first | (cases d <;> exact h) | exact nomatch (show _ ∧ _ from h).1) rfl rfl rfl (fun w' hS => (E.Runs.assign rfl rfl)) ?_
          refine E.GH.done (by kernel_rfl) ?_
          refine E.QG.code ?_
          refine E.CG.seq ?_
          refine E.CG.quietF (by kernel_rfl) rfl (by kernel_rfl) (by kernel_rfl) ?_
          refine E.GQ.run rfl rfl rfl (E.Runs.move rfl rfl) ?_
          refine E.GQ.run rfl rfl rfl (E.Runs.move rfl rfl) ?_
          refine E.GQ.run rfl rfl rfl (E.Runs.fieldAddr rfl rfl hu69 rfl (by assumption) rfl) ?_
          refine E.GQ.run rfl rfl rfl (E.Runs.load rfl rfl hu3 (E.blkc b11 rfl)) ?_
          refine E.GQ.run rfl rfl rfl (E.Runs.move rfl rfl) ?_
          refine E.GQ.run rfl rfl rfl (E.Runs.add rfl rfl rfl (IntWalk.i64_in _ (by omega))) ?_
          refine E.GQ.run rfl rfl rfl (E.Runs.move rfl rfl) ?_
          refine E.GQ.run rfl rfl rfl (E.Runs.nilCheck rfl rfl) ?_
          refine E.GQ.run rfl rfl rfl (E.Runs.fieldAddr rfl rfl hu89 rfl (by assumption) rfl) ?_
          refine E.GQ.run rfl rfl rfl (E.Runs.load1 rfl rfl hu87 rfl (E.blkc (blk_below hO.b4 K) rfl)) ?_
          refine E.GQ.run rfl rfl rfl (E.Runs.move rfl rfl) ?_
          refine E.GQ.run rfl rfl rfl (E.Runs.indexAddrA (i := t.length) rfl rfl rfl hu87 z91 o91 (by omega) eAA rfl) ?_
          refine E.GQ.run rfl rfl rfl (E.Runs.load1 rfl rfl hu91 rfl (pw_cell_below K XA)) ?_
          refine E.GQ.run rfl rfl rfl (E.Runs.loads (cs := [.int .i64 (sumT t).f0, .int .i64 (sumT t).f1, .int .i64 (sumT t).f2]) rfl rfl hu59 rfl info59s (blk_cells b7)) ?_
          refine E.GQ.run rfl rfl rfl (E.Runs.lookupF rfl rfl kBT rfl hu91 zero3I (mqa.below K) (show _ = Value.int .i64 r from by simp [hr])) ?_
          refine E.GQ.cmp rfl rfl rfl (fun _ h => (E.Runs.eql rfl rfl rfl h)) (fun h69 => ?_) (fun h69 => ?_)
          · refine E.GQ.run rfl rfl rfl (E.Runs.pick_t rfl rfl rfl) ?_
            refine E.GQ.doneB fun v13 lD => ?_
            replace b1 := blk_below b1 lD
            replace b7 := blk_below b7 lD
            replace b11 := blk_below b11 lD
            replace RRv := RRv.below lD
            replace K := below_step K lD
            have lD13 := lD
            clear lD
            refine E.QG.code ?_
            refine E.CG.cond_t rfl ?_
            refine E.CG.seq ?_
            refine E.CG.list ?_
            refine E.GL.run rfl rfl rfl (E.Runs.move rfl rfl) ?_
            refine E.GL.run rfl rfl rfl (E.Runs.fieldAddr rfl rfl hu69 rfl (by assumption) rfl) ?_
            refine E.GL.run rfl rfl rfl (E.Runs.fieldAddr rfl rfl hu25 rfl (by assumption) rfl) ?_
            refine E.GL.run rfl rfl rfl (E.Runs.load1 rfl rfl hu22 rfl (by first | assumption | exact E.blkc (by assumption) rfl | exact pw_cell_below K (by assumption))) ?_
            refine E.GL.run rfl rfl rfl (E.Runs.len rfl rfl hu22) ?_
            refine E.GL.run rfl rfl rfl (E.Runs.sliceArrTo rfl rfl rfl hu59 z3 hp3 (by decide)) ?_
            have K16 := K.size
            refine E.GL.st rfl rfl rfl (E.ST.call rfl ent72 (E.evc rfl E.evn) ((clone72 (tb V.ps.length o.b) _ V.ps.length 3 _ (C_arr hp3 b11) (by omega)).mono ?_))
            rintro e w77 ⟨v77, rfl, R77, l77⟩
            refine ⟨_, rfl, ?_⟩
            replace b1 := blk_below b1 l77
            replace b7 := blk_below b7 l77
            replace b11 := blk_below b11 l77
            replace RRv := RRv.below l77
            replace K := below_step K l77
            obtain ⟨A77, c77, rfl⟩ := Kd.R_slice R77
            refine E.GL.st rfl rfl rfl (E.ST.lit rfl (E.epc rfl E.epn) (lit42 _ _ _) ?_)
            refine E.GL.st rfl rfl rfl (E.ST.appendR kR w16.heap.size (w0 := w16) (s := .tmp 71) (x := .tmp 78) rfl hu42 info22b rfl (by decide) (by decide) (tb V.ps.length o.b) rfl rfl (E.M_row' (Kd.R_lower R77 K16) RRv.r (by decide)) RRv.r K K.size (by rw [List.length_map]; omega) fun u79 w79 r79 k79 gr79 _ => ?_)
            replace b1 := blk_grown b1 gr79 (Kd.R_ne RRv.r b1 (by decide))
            replace b7 := blk_grown b7 gr79 (Kd.R_ne RRv.r b7 (by decide))
            replace b11 := blk_grown b11 gr79 (Kd.R_ne RRv.r b11 (by decide))
            replace K := k79
            have RRn : RR w16.heap.size w79 u79 ((t ++ [o.b]).map (tb V.ps.length)) := ⟨by rw [List.map_append]; exact r79⟩
            clear RRv
            refine E.GL.run rfl rfl rfl (E.Runs.assign rfl rfl) ?_
            refine E.GL.done ?_
            refine E.QG.code ?_
            refine E.CG.seq ?_
            refine E.CG.list ?_
            refine E.GL.run rfl rfl rfl (E.Runs.loads (cs := [.int .i64 (sumT t).f0, .int .i64 (sumT t).f1, .int .i64 (sumT t).f2]) rfl rfl hu59 rfl info59s (blk_cells b7)) ?_
            refine E.GL.run rfl rfl rfl (E.Runs.fieldAddr rfl rfl hu69 rfl (by assumption) rfl) ?_
            refine E.GL.run rfl rfl rfl (E.Runs.loads (cs := [.int .i64 o.b.f0, .int .i64 o.b.f1, .int .i64 o.b.f2]) rfl rfl hu59 rfl info59s (mid69 b11)) ?_
            refine E.GL.st rfl rfl rfl (E.ST.call rfl ent48 (E.evc rfl (E.evc rfl E.evn)) ((plus_calls (sumT t) o.b _ (hst.up (by decide)) (hso.up (by decide))).mono ?_))
            rintro e w83 ⟨rfl, l83⟩
            refine ⟨_, rfl, ?_⟩
            replace b1 := blk_below b1 l83
            replace b7 := blk_below b7 l83
            replace b11 := blk_below b11 l83
            replace RRn := RRn.below l83
            replace K := below_step K l83
            refine E.GL.store_whole rfl rfl rfl rfl rfl b7 rfl info59s (three_one _ _ _) fun wS15_4 c7 lS15_4 => ?_
            replace b1 := blk_grown b1 lS15_4 (E.nes (by first | assumption | exact Ne.symm (by assumption)))
            replace b11 := blk_grown b11 lS15_4 (E.nes (by first | assumption | exact Ne.symm (by assumption)))
            replace RRn := RRn.grown lS15_4 (by first | exact ⟨_, _, b7, by decide, by decide⟩ | exact ⟨_, _, b11, by decide, by decide⟩ | exact ⟨_, _, b1, by decide, by decide⟩)
            replace K := E.below_own K h7_K lS15_4
            replace b7 := c7
            clear c7
            refine E.GL.done ?_
            refine E.QG.code ?_
            refine E.CG.exit ?_
            refine E.QG.block_out rfl ?_
            refine E.QG.pass_exit ?_
            refine E.QG.pass_exit ?_
            refine E.QG.block_here ?_
            refine E.QG.block_normal ?_
            refine E.QG.code ?_
            refine E.CG.list ?_
            refine E.GL.run rfl rfl rfl (E.Runs.add rfl rfl rfl (IntWalk.i64_in _ (by omega))) ?_
            refine E.GL.run rfl rfl rfl (E.Runs.move rfl rfl) ?_
            refine E.GL.done ?_
            exact E.QG.round2 (d := .slice none 0 0) (t ++ [o.b]) _ (E.subc rfl (E.subc rfl (E.subc rfl (E.subc rfl (E.subc rfl (E.subc rfl (E.subc (congrArg (fun n => some (Value.int .i64 n)) (show ((t.length : Int) + 1) = ((t ++ [o.b]).length : Int) by simp)) E.subn))))))) ⟨by rw [List.length_append]; simp; omega, (exp_step hok hti hWs hrN hom h69).1, ⟨r0, by rw [List.length_append, (exp_step hok hti hWs hrN hom h69).2.1]; exact hr0, (exp_step hok hti hWs hrN hom h69).2.2⟩, RRn, b1, by rw [(exp_step hok hti hWs hrN hom h69).2.1]; exact b7, K⟩ (by rw [List.length_append]; simp; omega)
          · refine E.GQ.run rfl rfl rfl (E.Runs.pick_t rfl rfl rfl) ?_
            refine E.GQ.doneB fun v13 lD => ?_
            replace b1 := blk_below b1 lD
            replace b7 := blk_below b7 lD
            replace b11 := blk_below b11 lD
            replace RRv := RRv.below lD
            replace K := below_step K lD
            have lD13 := lD
            clear lD
            refine E.QG.code ?_
            refine E.CG.cond_f rfl ?_
            refine E.CG.skip ?_
            refine E.QG.block_normal ?_
            refine E.QG.code ?_
            refine E.CG.list ?_
            refine E.GL.run rfl rfl rfl (E.Runs.add rfl rfl rfl (IntWalk.i64_in _ (by omega))) ?_
            refine E.GL.run rfl rfl rfl (E.Runs.move rfl rfl) ?_
            refine E.GL.done ?_
            exact E.QG.round (j + 1) (E.subc rfl (E.subc rfl (E.subc rfl (E.subc rfl (E.subc rfl (E.subc rfl (E.subc rfl (E.subc rfl (E.subc rfl (E.subc rfl (E.subc rfl E.subn))))))))))) ⟨by omega, all_more hbad ho (fun ⟨r', q1, q2⟩ => by first | (rw [h50] at q1; cases q1) | (rw [hr0] at q1; cases q1; omega)), RRv, b1, b7, K⟩ (by omega)
      · obtain ⟨o, ho, hgd⟩ := exp_next hok hti hWs hIA hIA1 hr; exact absurd hgd (all_done hbad (by omega) o ho)
    · have hte : t.length = V.cs.length := by omega
      refine E.GL.done ?_
      refine E.QG.code ?_
      refine E.CG.seq ?_
      refine E.CG.cond_f rfl ?_
      refine E.CG.exit ?_
      refine E.QG.pass_exit ?_
      refine E.QG.pass_exit ?_
      refine E.QG.block_here ?_
      refine E.QG.code ?_
      refine E.CG.seq ?_
      refine E.CG.list ?_
      refine E.GL.run rfl rfl rfl (E.Runs.move rfl rfl) ?_
      refine E.GL.run rfl rfl rfl (E.Runs.assign rfl rfl) ?_
      refine E.GL.run rfl rfl rfl (E.Runs.assign rfl rfl) ?_
      refine E.GL.done ?_
      refine E.QG.code ?_
      refine E.CG.ret ?_
      obtain ⟨gz, _, _, hIz⟩ := hO.ha V.cs.length (Nat.le_refl _)
      rw [hte] at hr
      have htr := exp_end hte hWs hIz hr hrN
      exact E.QG.result2 rfl rfl rfl ⟨_, _, by rw [errV_ok hok ht0.1], Kd.R_lower RRv.r L16.size, .inr ⟨errV_ok hok ht0.1, t, htr, rfl⟩, below_step L16 K⟩

end Go.Proofs.Ytiplichdhcmjdaa.T
namespace Go.Proofs.Ytiplichdhcmjdaa.T
open Go.RowKit Go.Proofs.YtiplichdhcmjdaaW.PrintWords Go.Proofs.YtiplichdhcmjdaaW.PrintMore
open Go.Proofs.Ytiplichdhcmjdaa.P
set_option linter.unusedVariables false
set_option linter.unusedSimpArgs false
/-- A row in which the first numbers are told anew. -/
def mx2 (n : Nat) (a b : Bl) (s : Nat) : List Int := (List.range n).map (fun j => if j < s then b.get j else a.get j)
theorem tb_rng {n : Nat} (h : n ≤ 3) (b : Bl) : (List.range n).map (fun j => b.get j) = tb n b := by
  have hc : n = 0 ∨ n = 1 ∨ n = 2 ∨ n = 3 := by omega
  rcases hc with rfl | rfl | rfl | rfl <;> rfl
theorem mx2_first {n : Nat} (h : n ≤ 3) (a b : Bl) : mx2 n a b 0 = tb n a := by rw [← tb_rng h]; simp [mx2]
theorem mx2_last {n s : Nat} (h : n ≤ 3) (hs : n ≤ s) (a b : Bl) : mx2 n a b s = tb n b := by
  rw [← tb_rng h]
  unfold mx2
  refine List.map_congr_left fun j hj => ?_
  rw [if_pos (by have := List.mem_range.mp hj; omega)]
theorem mx2_at {n s : Nat} (h : s < n) (a b : Bl) : (mx2 n a b s)[s]? = some (a.get s) := by
  unfold mx2
  simp [h]
theorem mx2_set {n s : Nat} (h : s < n) (a b : Bl) : (mx2 n a b s).set s (b.get s) = mx2 n a b (s + 1) := by
  refine List.ext_getElem? fun j => ?_
  by_cases e : j = s
  · subst e
    rw [List.getElem?_set_self (by simp [mx2, h])]
    unfold mx2
    simp [h]
  · rw [List.getElem?_set_ne (Ne.symm e)]
    unfold mx2
    by_cases hj : j < n
    · simp only [List.getElem?_map, List.getElem?_range hj, Option.map_some]
      by_cases q : j < s
      · rw [if_pos q, if_pos (by omega)]
      · rw [if_neg q, if_neg (by omega)]
    · rw [List.getElem?_eq_none (by simp; omega), List.getElem?_eq_none (by simp; omega)]
def Bl.sub (a b : Bl) : Bl := ⟨a.f0 - b.f0, a.f1 - b.f1, a.f2 - b.f2⟩
/-- Nothing behind the shows that there are. -/
def Fin (n : Nat) (b : Bl) : Prop := (n ≤ 1 → b.f1 = 0) ∧ (n ≤ 2 → b.f2 = 0)
theorem Fin.bl_tb {n : Nat} {b : Bl} (h1 : 1 ≤ n) (h3 : n ≤ 3) (h : Fin n b) : bl (tb n b) = b := by
  have hc : n = 1 ∨ n = 2 ∨ n = 3 := by omega
  rcases hc with rfl | rfl | rfl
  · exact Bl.ext' rfl (h.1 (by omega)).symm (h.2 (by omega)).symm
  · exact Bl.ext' rfl rfl (h.2 (by omega)).symm
  · rfl
theorem fin_bl {l : List Int} {n : Nat} (h : l.length = n) : Fin n (bl l) := by
  subst h
  refine ⟨fun h => ?_, fun h => ?_⟩
  · show l.getD 1 0 = 0
    exact getD_past (by omega)
  · show l.getD 2 0 = 0
    exact getD_past (by omega)
theorem tb_bl' {l : List Int} {n : Nat} (h : l.length = n) (h3 : n ≤ 3) : tb n (bl l) = l := by subst h; exact bl_tb h3
/-- A row that a till can have sold. -/
def OkRow (V : Ev) (k : Nat) (l : List Int) : Prop := l.length = V.ps.length ∧ AllR l 0 20 ∧ sumL l = rl (ct V k)
def IsT (V : Ev) (ts : List (List Int)) : Prop := ts.length = V.cs.length ∧ (∀ k l, ts[k]? = some l → OkRow V k l) ∧ sumT (ts.map bl) = bl V.qs
theorem okRow_iff {V : Ev} (ok : VOk V) {k : Nat} (hk : k < V.cs.length) {l : List Int} : OkRow V k l ↔ ∃ b, Way V.ps.length (rl (ct V k)) b ∧ l = tb V.ps.length b := by
  have h1 := ok.n1
  have h3 := ok.n3
  constructor
  · rintro ⟨q1, q2, q3⟩
    refine ⟨bl l, ⟨?_, ?_, ?_, (fin_bl q1).1, (fin_bl q1).2, ?_⟩, (tb_bl' q1 h3).symm⟩
    · exact (small_bl q2 (by decide) 0 (by decide)).1
    · exact (small_bl q2 (by decide) 1 (by decide)).1
    · exact (small_bl q2 (by decide) 2 (by decide)).1
    · rw [← sumL_bl (by omega)]; exact q3
  · rintro ⟨b, hb, rfl⟩
    have hs := way_small hb (rl_20 ok hk)
    refine ⟨tb_len h3 b, fun x hx => ?_, ?_⟩
    · obtain ⟨j, hj⟩ := List.mem_iff_getElem?.mp hx
      have hjl := (List.getElem?_eq_some_iff.1 hj).1
      rw [tb_len h3] at hjl
      rw [tb_at hjl h3] at hj
      obtain rfl := Option.some.inj hj
      exact hs j (by omega)
    · rw [sumL_bl (by rw [tb_len h3]; exact h3), tb_bl h1 h3 hb]
      exact hb.2.2.2.2.2
theorem isT_of {V : Ev} (ok : VOk V) {t : List Bl} (h : Truth V t) : IsT V (t.map (tb V.ps.length)) := by
  have hm : (t.map (tb V.ps.length)).map bl = t := by
    rw [List.map_map]
    refine List.ext_getElem? fun j => ?_
    rw [List.getElem?_map]
    cases hj : t[j]? with
    | none => rfl
    | some b =>
      have hw := Ws_get h.2.1 hj
      exact congrArg some (tb_bl ok.n1 ok.n3 hw)
  refine ⟨by rw [List.length_map]; exact h.1, fun k l hk => ?_, by rw [hm]; exact h.2.2⟩
  rw [List.getElem?_map] at hk
  obtain ⟨b, hb, rfl⟩ := Option.map_eq_some_iff.1 hk
  have hlt := (List.getElem?_eq_some_iff.1 hb).1
  rw [h.1] at hlt
  have hw := Ws_get h.2.1 hb
  rw [Nat.zero_add] at hw
  exact (okRow_iff ok hlt).mpr ⟨b, hw, rfl⟩
/-- The ways to split. -/
def splL : List Int → Nat → List (List Int)
  | [], k => if k = 0 then [[]] else []
  | x :: l, k => (List.range (min k x.toNat + 1)).flatMap (fun (j : Nat) => (splL l (k - j)).map (fun r => (j : Int) :: r))
theorem sum_nn : ∀ {l : List Int}, (∀ i, 0 ≤ l.getD i 0) → 0 ≤ l.sum
  | [], _ => by simp
  | a :: l, h => by
    have h0 : 0 ≤ a := h 0
    have h1 := sum_nn (l := l) (fun i => h (i + 1))
    rw [List.sum_cons]
    omega
theorem mem_splL : ∀ {left : List Int} {k : Nat} {l : List Int}, (∀ x ∈ left, 0 ≤ x) → (l ∈ splL left k ↔ l.length = left.length ∧ (∀ i, 0 ≤ l.getD i 0 ∧ l.getD i 0 ≤ left.getD i 0) ∧ l.sum = k)
  | [], k, l, _ => by
    unfold splL
    constructor
    · intro h
      split at h
      · next hk => rw [List.mem_singleton] at h; subst h; exact ⟨rfl, fun i => by simp, by simp [hk]⟩
      · cases h
    · rintro ⟨h1, _, h3⟩
      obtain rfl := List.eq_nil_of_length_eq_zero h1
      rw [if_pos (by simp at h3; omega)]
      exact List.mem_singleton.mpr rfl
  | x :: left, k, l, hx => by
    have hx0 := hx x List.mem_cons_self
    have ih : ∀ {k : Nat} {l : List Int}, l ∈ splL left k ↔ _ := mem_splL (left := left) (fun y hy => hx y (List.mem_cons_of_mem _ hy))
    unfold splL
    rw [List.mem_flatMap]
    constructor
    · rintro ⟨j, hj, h⟩
      rw [List.mem_range] at hj
      obtain ⟨r, hr, rfl⟩ := List.mem_map.mp h
      obtain ⟨a, b, c⟩ := ih.mp hr
      refine ⟨by simp [a], fun i => ?_, by rw [List.sum_cons, c]; omega⟩
      cases i with
      | zero => show 0 ≤ (j : Int) ∧ (j : Int) ≤ x; omega
      | succ i => exact b i
    · rintro ⟨h1, h2, h3⟩
      rcases l with _ | ⟨a, r⟩
      · simp at h1
      have ha : 0 ≤ a ∧ a ≤ x := h2 0
      have hr := sum_nn (l := r) (fun i => (h2 (i + 1)).1)
      rw [List.sum_cons] at h3
      refine ⟨a.toNat, List.mem_range.mpr (by omega), List.mem_map.mpr ⟨r, ih.mpr ⟨by simpa using h1, fun i => h2 (i + 1), by omega⟩, by rw [Int.toNat_of_nonneg ha.1]⟩⟩
theorem flen {α β : Type} {f : α → List β} {c : Nat} : ∀ {l : List α}, (∀ x ∈ l, (f x).length ≤ c) → (l.flatMap f).length ≤ l.length * c
  | [], _ => by simp
  | a :: l, h => by
    have h0 := h a List.mem_cons_self
    have h1 := flen (l := l) (fun x hx => h x (List.mem_cons_of_mem _ hx))
    rw [List.flatMap_cons, List.length_append, List.length_cons, Nat.add_mul]
    omega
theorem splL_len0 (k : Nat) : (splL [] k).length ≤ 1 := by unfold splL; split <;> simp
theorem splL_len1 (x : Int) (k : Nat) : (splL [x] k).length ≤ 1 := by
  show ((List.range (min k x.toNat + 1)).flatMap (fun (j : Nat) => (splL [] (k - j)).map (fun r => (j : Int) :: r))).length ≤ 1
  rw [List.range_succ, List.flatMap_append, List.flatMap_eq_nil_iff.mpr (fun j hj => by
    have := List.mem_range.mp hj
    unfold splL
    rw [if_neg (by omega)]
    rfl)]
  rw [List.nil_append, List.flatMap_cons, List.flatMap_nil, List.append_nil, List.length_map]
  exact splL_len0 _
theorem splL_mono {x : Int} {l : List Int} {k c : Nat} (h : ∀ j, j ≤ k → (splL l j).length ≤ c) : (splL (x :: l) k).length ≤ (k + 1) * c := by
  show ((List.range (min k x.toNat + 1)).flatMap (fun (j : Nat) => (splL l (k - j)).map (fun r => (j : Int) :: r))).length ≤ _
  refine Nat.le_trans (flen (c := c) fun j _ => by rw [List.length_map]; exact h _ (by omega)) ?_
  rw [List.length_range]
  exact Nat.mul_le_mul_right _ (by omega)
theorem splL_len {l : List Int} {k : Nat} (h3 : l.length ≤ 3) (hk : k ≤ 20) : (splL l k).length ≤ 441 := by
  rcases l with _ | ⟨a, _ | ⟨b, _ | ⟨c, _ | ⟨d, l⟩⟩⟩⟩
  · have := splL_len0 k; omega
  · have := splL_len1 a k; omega
  · have := splL_mono (x := a) (l := [b]) (k := k) (c := 1) (fun j _ => splL_len1 b j); omega
  · have := splL_mono (x := a) (l := [b, c]) (k := k) (c := 21) (fun j hj => by have := splL_mono (x := b) (l := [c]) (k := j) (c := 1) (fun i _ => splL_len1 c i); omega); omega
  · simp at h3
/-- The truths of the tills from i on, with at most so many flaws. -/
def trL (V : Ev) : Nat → Nat → Int → Bl → List (List (List Int))
  | 0, _, _, q => if sumL (tb V.ps.length q) = 0 then [[]] else []
  | k + 1, i, F, q => (splL (tb V.ps.length q) (rl (ct V i)).toNat).flatMap (fun w => if F < fl V (ct V i) (bl w) then [] else (trL V k (i + 1) (F - fl V (ct V i) (bl w)) (q.sub (bl w))).map (fun r => w :: r))
theorem trL_len {V : Ev} (ok : VOk V) : ∀ (k i : Nat) (F : Int) (q : Bl), i + k ≤ V.cs.length → (trL V k i F q).length ≤ 441 ^ k
  | 0, i, F, q, _ => by unfold trL; split <;> simp
  | k + 1, i, F, q, hk => by
    show (List.flatMap _ _).length ≤ _
    have h3 := ok.n3
    have hr := rl_20 ok (show i < V.cs.length by omega)
    have h1 := splL_len (l := tb V.ps.length q) (k := (rl (ct V i)).toNat) (by rw [tb_len h3]; exact h3) (by omega)
    refine Nat.le_trans (flen (c := 441 ^ k) fun w _ => ?_) ?_
    · split
      · simp
      · rw [List.length_map]; exact trL_len ok k (i + 1) _ _ (by omega)
    · rw [Nat.pow_succ, Nat.mul_comm (441 ^ k)]
      exact Nat.mul_le_mul_right _ h1
structure Nn (n : Nat) (q : Bl) : Prop where
  a : 0 ≤ q.f0
  b : 0 ≤ q.f1
  c : 0 ≤ q.f2
  f : Fin n q
theorem tb_getD {n : Nat} {b : Bl} (h3 : n ≤ 3) (hf : Fin n b) (h1 : 1 ≤ n) (i : Nat) (hi : i < 3) : (tb n b).getD i 0 = b.get i := by
  rw [← bl_get _ hi, Fin.bl_tb h1 h3 hf]
theorem mem_trL {V : Ev} (ok : VOk V) : ∀ {k i : Nat} {F : Int} {q : Bl} {ts : List (List Int)}, i + k = V.cs.length → 0 ≤ F → Nn V.ps.length q → (ts ∈ trL V k i F q ↔ ∃ t : List Bl, t.length = k ∧ Ws V i t ∧ sumT t = q ∧ flT V i t ≤ F ∧ ts = t.map (tb V.ps.length))
  | 0, i, F, q, ts, _, hF, hq => by
    have h1 := ok.n1
    have h3 := ok.n3
    unfold trL
    rw [sumL_bl (by rw [tb_len h3]; exact h3), Fin.bl_tb h1 h3 hq.f]
    constructor
    · intro h
      split at h
      · next hs =>
        rw [List.mem_singleton] at h
        subst h
        unfold Bl.sum at hs
        have := hq.a; have := hq.b; have := hq.c
        exact ⟨[], rfl, trivial, (Bl.ext' (show (0 : Int) = _ by omega) (show (0 : Int) = _ by omega) (show (0 : Int) = _ by omega)), hF, rfl⟩
      · cases h
    · rintro ⟨t, ht, _, hs, _, rfl⟩
      obtain rfl := List.eq_nil_of_length_eq_zero ht
      rw [if_pos (by rw [← hs]; rfl)]
      exact List.mem_singleton.mpr rfl
  | k + 1, i, F, q, ts, hk, hF, hq => by
    have h1 := ok.n1
    have h3 := ok.n3
    have hi : i < V.cs.length := by omega
    have hr0 := rl_0 ok hi
    have hlen := tb_len h3 q
    have hnn : ∀ x ∈ tb V.ps.length q, 0 ≤ x := fun x hx => by
      obtain ⟨j, hj⟩ := List.mem_iff_getElem?.mp hx
      have hjl := (List.getElem?_eq_some_iff.1 hj).1
      rw [hlen] at hjl
      rw [tb_at hjl h3] at hj
      obtain rfl := Option.some.inj hj
      have hj3 : j = 0 ∨ j = 1 ∨ j = 2 := by omega
      rcases hj3 with rfl | rfl | rfl
      · exact hq.a
      · exact hq.b
      · exact hq.c
    show ts ∈ List.flatMap _ _ ↔ _
    rw [List.mem_flatMap]
    constructor
    · rintro ⟨w, hw, h⟩
      obtain ⟨a1, a2, a3⟩ := (mem_splL hnn).mp hw
      rw [hlen] at a1
      split at h
      · cases h
      next hfl =>
      obtain ⟨r, hr, rfl⟩ := List.mem_map.mp h
      have hfw := fin_bl a1
      have g : ∀ j, j < 3 → 0 ≤ (bl w).get j ∧ (bl w).get j ≤ q.get j := fun j hj => by
        have := a2 j
        rw [tb_getD h3 hq.f h1 j hj] at this
        rw [bl_get _ hj]
        exact this
      have g0 := g 0 (by decide)
      have g1 := g 1 (by decide)
      have g2 := g 2 (by decide)
      have hway : Way V.ps.length (rl (ct V i)) (bl w) := by
        refine ⟨g0.1, g1.1, g2.1, hfw.1, hfw.2, ?_⟩
        have hw3 : w.length ≤ 3 := by omega
        have e : (bl w).sum = w.sum := by
          rcases w with _ | ⟨a, _ | ⟨b, _ | ⟨c, _ | ⟨d, l⟩⟩⟩⟩
          · rfl
          · simp [bl, Bl.sum]
          · simp [bl, Bl.sum]
          · simp [bl, Bl.sum]; omega
          · simp at hw3
        rw [e, a3]
        omega
      obtain ⟨t, b1, b2, b3, b4, rfl⟩ := (mem_trL ok (k := k) (i := i + 1) (by omega) (by omega) ⟨show 0 ≤ q.f0 - (bl w).f0 from Int.sub_nonneg.mpr g0.2, show 0 ≤ q.f1 - (bl w).f1 from Int.sub_nonneg.mpr g1.2, show 0 ≤ q.f2 - (bl w).f2 from Int.sub_nonneg.mpr g2.2, ⟨fun hn => by show q.f1 - (bl w).f1 = 0; rw [hq.f.1 hn, hfw.1 hn]; rfl, fun hn => by show q.f2 - (bl w).f2 = 0; rw [hq.f.2 hn, hfw.2 hn]; rfl⟩⟩).mp hr
      refine ⟨bl w :: t, by simp [b1], ⟨hway, b2⟩, ?_, by rw [flT]; omega, by rw [List.map_cons, tb_bl' a1 h3]⟩
      rw [sumT, b3]
      exact Bl.ext' (show (bl w).f0 + (q.f0 - (bl w).f0) = q.f0 by omega) (show (bl w).f1 + (q.f1 - (bl w).f1) = q.f1 by omega) (show (bl w).f2 + (q.f2 - (bl w).f2) = q.f2 by omega)
    · rintro ⟨t, b1, b2, b3, b4, rfl⟩
      rcases t with _ | ⟨b, t⟩
      · simp at b1
      obtain ⟨hb, hws⟩ := b2
      have hnt := Ws_nonneg hws
      rw [sumT] at b3
      rw [flT] at b4
      have hf0 := (flT_01 V t (i + 1)).1
      have e0 : b.f0 + (sumT t).f0 = q.f0 := by rw [← b3]; rfl
      have e1 : b.f1 + (sumT t).f1 = q.f1 := by rw [← b3]; rfl
      have e2 : b.f2 + (sumT t).f2 = q.f2 := by rw [← b3]; rfl
      have hbt := tb_bl h1 h3 hb
      have hbf : Fin V.ps.length b := ⟨hb.2.2.2.1, hb.2.2.2.2.1⟩
      refine ⟨tb V.ps.length b, (mem_splL hnn).mpr ⟨by rw [tb_len h3, hlen], fun j => ?_, ?_⟩, ?_⟩
      · by_cases hj : j < 3
        · rw [tb_getD h3 hbf h1 j hj, tb_getD h3 hq.f h1 j hj]
          have hj3 : j = 0 ∨ j = 1 ∨ j = 2 := by omega
          rcases hj3 with rfl | rfl | rfl
          · exact ⟨hb.1, show b.f0 ≤ q.f0 by omega⟩
          · exact ⟨hb.2.1, show b.f1 ≤ q.f1 by omega⟩
          · exact ⟨hb.2.2.1, show b.f2 ≤ q.f2 by omega⟩
        · rw [getD_past (by rw [tb_len h3]; omega), getD_past (by rw [hlen]; omega)]
          omega
      · have e : (tb V.ps.length b).sum = b.sum := by
          have hc : V.ps.length = 1 ∨ V.ps.length = 2 ∨ V.ps.length = 3 := by omega
          obtain ⟨q1, q2⟩ := hbf
          rcases hc with hc | hc | hc <;> rw [hc] at q1 q2 ⊢
          · have := q1 (by omega); have := q2 (by omega); simp [tb, Bl.sum]; omega
          · have := q2 (by omega); simp [tb, Bl.sum]; omega
          · simp [tb, Bl.sum]; omega
        rw [e, hb.2.2.2.2.2]
        omega
      · rw [hbt, if_neg (by omega)]
        refine List.mem_map.mpr ⟨t.map (tb V.ps.length), (mem_trL ok (k := k) (i := i + 1) (by omega) (by omega) ⟨show 0 ≤ q.f0 - b.f0 by omega, show 0 ≤ q.f1 - b.f1 by omega, show 0 ≤ q.f2 - b.f2 by omega, ⟨fun hn => by show q.f1 - b.f1 = 0; rw [hq.f.1 hn, hbf.1 hn]; rfl, fun hn => by show q.f2 - b.f2 = 0; rw [hq.f.2 hn, hbf.2 hn]; rfl⟩⟩).mpr ⟨t, by simpa using b1, hws, ?_, by omega, rfl⟩, rfl⟩
        exact Bl.ext' (show (sumT t).f0 = q.f0 - b.f0 by omega) (show (sumT t).f1 = q.f1 - b.f1 by omega) (show (sumT t).f2 = q.f2 - b.f2 by omega)
end Go.Proofs.Ytiplichdhcmjdaa.T
namespace Go.Proofs.Ytiplichdhcmjdaa.T
open Go.RowKit Go.Proofs.YtiplichdhcmjdaaW.PrintWords Go.Proofs.YtiplichdhcmjdaaW.PrintMore
open Go.Proofs.Ytiplichdhcmjdaa.P
set_option linter.unusedVariables false
set_option linter.unusedSimpArgs false

theorem row_at {w : World} {A : Option Addr} {n : Nat} {ts : List (List Int)} (h : Kd.C kR w A n ts) {i : Nat} {l : List Int} (hi : ts[i]? = some l) : ∃ ad a0 k0, A = some ad ∧ w.cell? (ad.add (i * 1)) = some (.slice a0 l.length k0) ∧ Kd.C kI w a0 l.length l := by
  have hil : i < ts.length := (List.getElem?_eq_some_iff.1 hi).1
  have hn := Kd.C_len h
  obtain ⟨ad, c, e, _, hK, hc0⟩ := Kd.C_get h l (i : Int) (by omega) (by omega)
  have hx : ts.getD i l = l := by simp [List.getD_eq_getElem?_getD, hi]
  rw [Int.toNat_natCast, hx] at hK
  rw [Int.toNat_natCast] at hc0
  obtain ⟨a0, k0, rfl, _, hl⟩ := hK
  exact ⟨ad, a0, k0, e, hc0 0 _ rfl, hl⟩
theorem tb_z {n : Nat} (h : n ≤ 3) : List.replicate n (0 : Int) = tb n Bl.z := by
  have hc : n = 0 ∨ n = 1 ∨ n = 2 ∨ n = 3 := by omega
  rcases hc with rfl | rfl | rfl | rfl <;> rfl
def preS (ts : List (List Int)) (i : Nat) : Bl := sumT ((ts.take i).map bl)
theorem preS_next {ts : List (List Int)} {i : Nat} {l : List Int} (h : ts[i]? = some l) : preS ts (i + 1) = (preS ts i).add (bl l) := by
  unfold preS
  rw [List.take_add_one, h, Option.toList_some, List.map_append, sumT_append]
  show _ = Bl.add _ _
  rw [show sumT (([l] : List (List Int)).map bl) = bl l from Bl.add_z _]
theorem preS_end {ts : List (List Int)} {i : Nat} (h : ts.length ≤ i) : preS ts i = sumT (ts.map bl) := by unfold preS; rw [List.take_of_length_le h]
theorem sum_small {L : List (List Int)} (h : ∀ l ∈ L, AllR l 0 20) : SmallB (sumT (L.map bl)) (20 * L.length) := by
  induction L with
  | nil => intro j hj; have hj3 : j = 0 ∨ j = 1 ∨ j = 2 := by omega
           rcases hj3 with rfl | rfl | rfl <;> exact ⟨Int.le_refl _, Int.le_refl _⟩
  | cons l L ih =>
    intro j hj
    have h1 := ih (fun k hk => h k (List.mem_cons_of_mem _ hk)) j hj
    have h2 := small_bl (h l List.mem_cons_self) (by decide) j hj
    rw [List.map_cons, sumT, get_add, List.length_cons]
    push_cast
    omega
theorem preS_small {V : Ev} {ts : List (List Int)} {i : Nat} (h : ∀ k, k < i → ∀ l, ts[k]? = some l → OkRow V k l) : SmallB (preS ts i) (20 * i) := by
  have := sum_small (L := ts.take i) fun l hl => by
    obtain ⟨k, hk⟩ := List.mem_iff_getElem?.mp hl
    have hki : k < i := by have := (List.getElem?_eq_some_iff.1 hk).1; rw [List.length_take] at this; omega
    rw [List.getElem?_take_of_lt hki] at hk
    exact (h k hki l hk).2.1
  exact this.up (by rw [List.length_take]; omega)
theorem same_rN (l k : List Int) (n : Nat) (hn : l.length = n) (A A1 : Option Addr) (c c1 : Nat) (w : World) (r : Bool) (hb : r = true ↔ l = k) (h1 : Kd.C kI w A l.length l) (h2 : Kd.C kI w A1 k.length k) (hl : n ≤ 1000000) :
    Calls Try.prog 59 #[.slice A n c, .slice A1 k.length c1] w fun e w' => e = .returned (.bool r) ∧ Below w.heap.size w w' := by
  subst hn
  exact same_r l k A A1 c c1 w r hb h1 h2 hl
theorem fin_add {n : Nat} {a b : Bl} (ha : Fin n a) (hb : Fin n b) : Fin n (a.add b) := ⟨fun h => by show a.f1 + b.f1 = 0; rw [ha.1 h, hb.1 h]; rfl, fun h => by show a.f2 + b.f2 = 0; rw [ha.2 h, hb.2 h]; rfl⟩
theorem fin_sum {n : Nat} {L : List (List Int)} (h : ∀ l ∈ L, l.length = n) : Fin n (sumT (L.map bl)) := by
  induction L with
  | nil => exact ⟨fun _ => rfl, fun _ => rfl⟩
  | cons l L ih => exact fin_add (fin_bl (h l List.mem_cons_self)) (ih fun k hk => h k (List.mem_cons_of_mem _ hk))
theorem isT_iff {V : Ev} (ok : VOk V) {ts : List (List Int)} (h1 : ts.length = V.cs.length) (h2 : ∀ k, k < ts.length → ∀ l, ts[k]? = some l → OkRow V k l) : IsT V ts ↔ tb V.ps.length (preS ts ts.length) = V.qs := by
  have hf : Fin V.ps.length (sumT (ts.map bl)) := fin_sum fun l hl => by
    obtain ⟨k, hk⟩ := List.mem_iff_getElem?.mp hl
    exact (h2 k (List.getElem?_eq_some_iff.1 hk).1 l hk).1
  rw [preS_end (Nat.le_refl _)]
  constructor
  · rintro ⟨_, _, h3⟩
    rw [h3]
    exact tb_bl' ok.nq ok.n3
  · intro h
    refine ⟨h1, fun k l hk => h2 k (List.getElem?_eq_some_iff.1 hk).1 l hk, ?_⟩
    rw [← h, Fin.bl_tb ok.n1 ok.n3 hf]
set_option maxRecDepth 100000 in
set_option maxHeartbeats 8000000 in

theorem isTruth_calls (V : Ev) (m : Ea) (ts : List (List Int)) (AT : Option Addr) (kT : Nat) (w : World) (hV : EvM w V m) (ok : VOk V) (hT : Kd.C kR w AT ts.length ts) (r : Bool) (hr : r = true ↔ IsT V ts) :
    Calls Try.prog 18 #[hv V m, .slice AT ts.length kT] w fun e w' => e = .returned (.bool r) ∧ Below w.heap.size w w' := by
  have hsc := ok.sz.c
  have hp3 := ok.n3
  have hnq := ok.nq
  have hc4 := ok.c4
  have hu3 := Try.underlying3
  have hu22 := Try.underlying22
  have hu23 := Try.underlying23
  have hu25 := Try.underlying25
  have hu40 := Try.underlying40
  have hu42 := Try.underlying42
  obtain ⟨z3, o3⟩ := info_some info3s (by decide)
  obtain ⟨z22, o22⟩ := info_some info22s (by decide)
  obtain ⟨z23, o23⟩ := info_some info23s (by decide)
  obtain ⟨z25, o25⟩ := info_some info25s (by decide)
  obtain ⟨z40, o40⟩ := info_some info40s (by decide)
  refine E.enter (N := 78) Try.func18 rfl Try.ntmps18 (args := [hv V m, .slice AT ts.length kT]) (by simp) ?_
  have L := Below.refl w.heap.size w
  refine E.CG.seq ?_
  refine E.CG.list ?_
  refine E.GL.st rfl rfl rfl (E.ST.box rfl rfl fun g2 w2 e2 b2 l2 => ?_)
  have h2_L : w.heap.size ≤ g2 := by rw [e2]; exact L.size
  replace L := below_step L l2
  refine E.GL.run rfl rfl rfl (E.Runs.assign rfl rfl) ?_
  refine E.GL.done ?_
  refine E.QG.code ?_
  refine E.CG.seq ?_
  refine E.CG.seq ?_
  refine E.CG.list ?_
  refine E.GL.run rfl rfl rfl (E.Runs.move rfl rfl) ?_
  refine E.GL.run rfl rfl rfl (E.Runs.len rfl rfl hu42) ?_
  refine E.GL.run rfl rfl rfl (E.Runs.fieldAddr rfl rfl hu25 rfl (by assumption) rfl) ?_
  refine E.GL.run rfl rfl rfl (E.Runs.load1 rfl rfl hu23 rfl (by first | assumption | exact E.blkc (by assumption) rfl | exact pw_cell_below L (by assumption))) ?_
  refine E.GL.run rfl rfl rfl (E.Runs.len rfl rfl hu23) ?_
  refine E.GL.cmpn rfl rfl rfl (fun _ h => (E.Runs.neq rfl rfl rfl h)) (fun h13 => ?_) (fun h13 => ?_)
  · refine E.GL.done ?_
    refine E.QG.code ?_
    refine E.CG.cond_t rfl ?_
    refine E.CG.seq ?_
    refine E.CG.list ?_
    refine E.GL.run rfl rfl rfl (E.Runs.assign rfl rfl) ?_
    refine E.GL.done ?_
    refine E.QG.code ?_
    refine E.CG.ret ?_
    refine E.QG.pass_ret ?_
    exact E.QG.result rfl rfl ⟨by rw [bool_no hr (fun k => h13 (by rw [k.1]))], L⟩
  · refine E.GL.done ?_
    refine E.QG.code ?_
    refine E.CG.cond_f rfl ?_
    refine E.CG.skip ?_
    refine E.QG.code ?_
    refine E.CG.seq ?_
    refine E.CG.list ?_
    refine E.GL.run rfl rfl rfl (E.Runs.fieldAddr rfl rfl hu25 rfl (by assumption) rfl) ?_
    refine E.GL.run rfl rfl rfl (E.Runs.load1 rfl rfl hu22 rfl (by first | assumption | exact E.blkc (by assumption) rfl | exact pw_cell_below L (by assumption))) ?_
    refine E.GL.run rfl rfl rfl (E.Runs.len rfl rfl hu22) ?_
    refine E.GL.st rfl rfl rfl (E.ST.makeR kI w.heap.size 3 rfl rfl rfl rfl hu22 (.int .i64 0) 8 info3 rfl (by decide) (by decide) 0 rfl (by omega) L L.size fun v17 w17 r17 k17 l17 o17 => ?_)
    replace L := k17
    obtain ⟨A5, c5, hv17⟩ := Kd.R_slice r17
    rw [List.length_replicate, hnq] at hv17
    subst hv17
    rw [hnq, tb_z hp3] at r17
    replace b2 := blk_below b2 l17
    clear k17 o17 l17
    refine E.GL.run rfl rfl rfl (E.Runs.assign rfl rfl) ?_
    refine E.GL.done ?_
    refine E.QG.code ?_
    refine E.CG.seq ?_
    refine E.CG.seq ?_
    refine E.CG.list ?_
    refine E.GL.run rfl rfl rfl (E.Runs.assign rfl rfl) ?_
    refine E.GL.done ?_
    refine E.QG.code ?_
    refine E.CG.block ?_
    have s5_b2 := b2
    have s5_L := L
    refine E.CG.loop (fun (i : Nat) => [(1, .slice AT ts.length kT), (2, .pointer (some ⟨g2, 0, none⟩)), (5, .slice A5 V.ps.length c5), (6, .int .i64 i)]) (fun i w' => i ≤ ts.length ∧ (∀ k, k < i → ∀ l, ts[k]? = some l → OkRow V k l) ∧ w'.heap[g2]? = some (.cells #[.slice m.A V.ps.length m.a, .slice m.B V.qs.length m.b, .slice m.C V.ts.length m.c, .slice m.D V.cs.length m.d] 25 (0, 0)) ∧ Kd.R kI 3 w' w.heap.size (fun _ => True) (.slice A5 V.ps.length c5) (tb V.ps.length (preS ts i)) ∧ Below w.heap.size w w') (fun i => ts.length - i) 0 (E.subc rfl (E.subc rfl (E.subc rfl (E.subc rfl E.subn)))) ⟨Nat.zero_le _, fun k hk => by omega, b2, r17, L⟩ ?_
    rintro i w5 ⟨hi, hk, b2, r17, L⟩
    refine E.CG.seq ?_
    refine E.CG.seq ?_
    refine E.CG.list ?_
    refine E.GL.run rfl rfl rfl (E.Runs.move rfl rfl) ?_
    refine E.GL.run rfl rfl rfl (E.Runs.move rfl rfl) ?_
    refine E.GL.run rfl rfl rfl (E.Runs.len rfl rfl hu42) ?_
    refine E.GL.cmp rfl rfl rfl (fun _ h => (E.Runs.lss rfl rfl rfl h)) (fun h21 => ?_) (fun h21 => ?_)
    · obtain ⟨l, hl⟩ := get_ex (show i < ts.length by omega)
      obtain ⟨ar, al, kl, eR, XR, hlC⟩ := row_at hT hl
      obtain ⟨c, hc⟩ := get_ex (show i < V.cs.length by omega)
      have hct := ct_of hc
      have hcok := ok.c c (List.mem_of_getElem? hc)
      obtain ⟨q1, q2, q3, q4, q5, q6, q7, q8⟩ := hcok
      obtain ⟨ad, a0, k0, eA, _, hx0, X⟩ := till_at hV.cs hc
      refine E.GL.done ?_
      refine E.QG.code ?_
      refine E.CG.cond_t rfl ?_
      refine E.CG.skip ?_
      refine E.QG.code ?_
      refine E.CG.seq ?_
      refine E.CG.block ?_
      refine E.CG.seq ?_
      refine E.CG.seq ?_
      refine E.CG.heldH (none) (by kernel_rfl) fun v7 lD hh => ?_
      replace b2 := blk_below b2 lD
      replace r17 := Kd.R_below r17 lD
      replace L := below_step L lD
      clear lD
      have s_b2 := b2
      have s_L := L
      refine E.GH.take (i := 0) rfl (by kernel_rfl) (by kernel_rfl) (by kernel_rfl) (by intro c a d v w h; first | (cases d <;> exact h) | exact nomatch (show _ ∧ _ from h).1) rfl rfl rfl (fun w' hS => (E.Runs.move rfl rfl)) ?_
      refine E.GH.take (i := 1) rfl (by kernel_rfl) (by kernel_rfl) (by kernel_rfl) (by intro c a d v w h; first | (cases d <;> exact h) | exact nomatch (show _ ∧ _ from h).1) rfl rfl rfl (fun w' hS => (E.Runs.move rfl rfl)) ?_
      refine E.GH.take (i := 2) rfl (by kernel_rfl) (by kernel_rfl) (by kernel_rfl) (by intro c a d v w h; first | (cases d <;> exact h) | exact nomatch (show _ ∧ _ from h).1) rfl rfl rfl (fun w' hS => (E.Runs.indexAddrA (i := i) rfl rfl rfl hu42 z22 o22 (by omega) eR rfl)) ?_
      refine E.GH.take (i := 3) rfl (by kernel_rfl) (by kernel_rfl) (by kernel_rfl) (by intro c a d v w h; first | (cases d <;> exact h) | exact nomatch (show _ ∧ _ from h).1) rfl rfl rfl (fun w' hS => (E.Runs.load1 rfl rfl hu22 rfl (pw_cell_below (below_step s_L (E.belowG hS)) XR))) ?_
      refine E.GH.take (i := 4) rfl (by kernel_rfl) (by kernel_rfl) (by kernel_rfl) (by intro c a d v w h; first | (cases d <;> exact h) | exact nomatch (show _ ∧ _ from h).1) rfl rfl rfl (fun w' hS => (E.Runs.len rfl rfl hu22)) ?_
      refine E.GH.take (i := 5) rfl (by kernel_rfl) (by kernel_rfl) (by kernel_rfl) (by intro c a d v w h; first | (cases d <;> exact h) | exact nomatch (show _ ∧ _ from h).1) rfl rfl rfl (fun w' hS => (E.Runs.fieldAddr rfl rfl hu25 rfl (by assumption) rfl)) ?_
      refine E.GH.take (i := 6) rfl (by kernel_rfl) (by kernel_rfl) (by kernel_rfl) (by intro c a d v w h; first | (cases d <;> exact h) | exact nomatch (show _ ∧ _ from h).1) rfl rfl rfl (fun w' hS => (E.Runs.load1 rfl rfl hu22 rfl (by first | exact E.keeps hS (E.blkc (by assumption) rfl) (by first | exact E.nen | exact E.nes (by assumption) | exact E.nes (Ne.symm (by assumption))) | exact pw_cell_below (below_step s_L (E.belowG hS)) (by assumption)))) ?_
      refine E.GH.take (i := 7) rfl (by kernel_rfl) (by kernel_rfl) (by kernel_rfl) (by intro c a d v w h; first | (cases d <;> exact h) | exact nomatch (show _ ∧ _ from h).1) rfl rfl rfl (fun w' hS => (E.Runs.len rfl rfl hu22)) ?_
      refine E.GH.cmpn (i := 8) rfl (by kernel_rfl) (by kernel_rfl) (by kernel_rfl) (by intro c a d v w h; first | (cases d <;> exact h) | exact nomatch (show _ ∧ _ from h).1) rfl rfl rfl (fun _ h w' hS => (E.Runs.neq rfl rfl rfl h)) (fun h32 => ?_) (fun h32 => ?_)
      · refine E.GH.take (i := 9) rfl (by kernel_rfl) (by kernel_rfl) (by kernel_rfl) (by intro c a d v w h; first | (cases d <;> exact h) | exact nomatch (show _ ∧ _ from h).1) rfl rfl rfl (fun w' hS => (E.Runs.move rfl rfl)) ?_
        refine E.GH.pass (i := 10) rfl (by kernel_rfl) (by kernel_rfl) (by kernel_rfl) (by intro c a d v w h; first | (cases d <;> exact h) | exact nomatch (show _ ∧ _ from h).1) rfl rfl rfl ?_
        refine E.GH.pass (i := 11) rfl (by kernel_rfl) (by kernel_rfl) (by kernel_rfl) (by intro c a d v w h; first | (cases d <;> exact h) | exact nomatch (show _ ∧ _ from h).1) rfl rfl rfl ?_
        refine E.GH.pass (i := 12) rfl (by kernel_rfl) (by kernel_rfl) (by kernel_rfl) (by intro c a d v w h; first | (cases d <;> exact h) | exact nomatch (show _ ∧ _ from h).1) rfl rfl rfl ?_
        refine E.GH.pass (i := 13) rfl (by kernel_rfl) (by kernel_rfl) (by kernel_rfl) (by intro c a d v w h; first | (cases d <;> exact h) | exact nomatch (show _ ∧ _ from h).1) rfl rfl rfl ?_
        refine E.GH.pass (i := 14) rfl (by kernel_rfl) (by kernel_rfl) (by kernel_rfl) (by intro c a d v w h; first | (cases d <;> exact h) | exact nomatch (show _ ∧ _ from h).1) rfl rfl rfl ?_
        refine E.GH.pass (i := 15) rfl (by kernel_rfl) (by kernel_rfl) (by kernel_rfl) (by intro c a d v w h; first | (cases d <;> exact h) | exact nomatch (show _ ∧ _ from h).1) rfl rfl rfl ?_
        refine E.GH.take (i := 16) rfl (by kernel_rfl) (by kernel_rfl) (by kernel_rfl) (by intro c a d v w h; first | (cases d <;> exact h) | exact nomatch (show _ ∧ _ from h).1) rfl rfl rfl (fun w' hS => (E.Runs.pick_t rfl rfl rfl)) ?_
        refine E.GH.take (i := 17) rfl (by kernel_rfl) (by kernel_rfl) (by kernel_rfl) (by intro c a d v w h; first | (cases d <;> exact h) | exact nomatch (show _ ∧ _ from h).1) rfl rfl rfl (fun w' hS => (E.Runs.move rfl rfl)) ?_
        refine E.GH.pass (i := 18) rfl (by kernel_rfl) (by kernel_rfl) (by kernel_rfl) (by intro c a d v w h; first | (cases d <;> exact h) | exact nomatch (show _ ∧ _ from h).1) rfl rfl rfl ?_
        refine E.GH.pass (i := 19) rfl (by kernel_rfl) (by kernel_rfl) (by kernel_rfl) (by intro c a d v w h; first | (cases d <;> exact h) | exact nomatch (show _ ∧ _ from h).1) rfl rfl rfl ?_
        refine E.GH.pass (i := 20) rfl (by kernel_rfl) (by kernel_rfl) (by kernel_rfl) (by intro c a d v w h; first | (cases d <;> exact h) | exact nomatch (show _ ∧ _ from h).1) rfl rfl rfl ?_
        refine E.GH.pass (i := 21) rfl (by kernel_rfl) (by kernel_rfl) (by kernel_rfl) (by intro c a d v w h; first | (cases d <;> exact h) | exact nomatch (show _ ∧ _ from h).1) rfl rfl rfl ?_
        refine E.GH.pass (i := 22) rfl (by kernel_rfl) (by kernel_rfl) (by kernel_rfl) (by intro c a d v w h; first | (cases d <;> exact h) | exact nomatch (show _ ∧ _ from h).1) rfl rfl rfl ?_
        refine E.GH.pass (i := 23) rfl (by kernel_rfl) (by kernel_rfl) (by kernel_rfl) (by intro c a d v w h; first | (cases d <;> exact h) | exact nomatch (show _ ∧ _ from h).1) rfl rfl rfl ?_
        refine E.GH.pass (i := 24) rfl (by kernel_rfl) (by kernel_rfl) (by kernel_rfl) (by intro c a d v w h; first | (cases d <;> exact h) | exact nomatch (show _ ∧ _ from h).1) rfl rfl rfl ?_
        refine E.GH.pass (i := 25) rfl (by kernel_rfl) (by kernel_rfl) (by kernel_rfl) (by intro c a d v w h; first | (cases d <;> exact h) | exact nomatch (show _ ∧ _ from h).1) rfl rfl rfl ?_
        refine E.GH.pass (i := 26) rfl (by kernel_rfl) (by kernel_rfl) (by kernel_rfl) (by intro c a d v w h; first | (cases d <;> exact h) | exact nomatch (show _ ∧ _ from h).1) rfl rfl rfl ?_
        refine E.GH.pass (i := 27) rfl (by kernel_rfl) (by kernel_rfl) (by kernel_rfl) (by intro c a d v w h; first | (cases d <;> exact h) | exact nomatch (show _ ∧ _ from h).1) rfl rfl rfl ?_
        refine E.GH.pass (i := 28) rfl (by kernel_rfl) (by kernel_rfl) (by kernel_rfl) (by intro c a d v w h; first | (cases d <;> exact h) | exact nomatch (show _ ∧ _ from h).1) rfl rfl rfl ?_
        refine E.GH.pass (i := 29) rfl (by kernel_rfl) (by kernel_rfl) (by kernel_rfl) (by intro c a d v w h; first | (cases d <;> exact h) | exact nomatch (show _ ∧ _ from h).1) rfl rfl rfl ?_
        refine E.GH.take (i := 30) rfl (by kernel_rfl) (by kernel_rfl) (by kernel_rfl) (by intro c a d v w h; first | (cases d <;> exact h) | exact nomatch (show _ ∧ _ from h).1) rfl rfl rfl (fun w' hS => (E.Runs.pick_t rfl rfl rfl)) ?_
        refine E.GH.done (by kernel_rfl) ?_
        refine E.QG.code ?_
        refine E.CG.cond_t rfl ?_
        refine E.CG.seq ?_
        refine E.CG.list ?_
        refine E.GL.run rfl rfl rfl (E.Runs.assign rfl rfl) ?_
        refine E.GL.done ?_
        refine E.QG.code ?_
        refine E.CG.ret ?_
        refine E.QG.pass_ret ?_
        refine E.QG.block_ret ?_
        refine E.QG.pass_ret ?_
        refine E.QG.pass_ret ?_
        refine E.QG.block_ret ?_
        refine E.QG.pass_ret ?_
        exact E.QG.result rfl rfl ⟨by rw [bool_no hr (fun k => h32 (by rw [(k.2.1 i l hl).1]; omega))], L⟩
      · refine E.GH.take (i := 9) rfl (by kernel_rfl) (by kernel_rfl) (by kernel_rfl) (by intro c a d v w h; first | (cases d <;> exact h) | exact nomatch (show _ ∧ _ from h).1) rfl rfl rfl (fun w' hS => (E.Runs.move rfl rfl)) ?_
        refine E.GH.take (i := 10) rfl (by kernel_rfl) (by kernel_rfl) (by kernel_rfl) (by intro c a d v w h; first | (cases d <;> exact h) | exact nomatch (show _ ∧ _ from h).1) rfl rfl rfl (fun w' hS => (E.Runs.move rfl rfl)) ?_
        refine E.GH.take (i := 11) rfl (by kernel_rfl) (by kernel_rfl) (by kernel_rfl) (by intro c a d v w h; first | (cases d <;> exact h) | exact nomatch (show _ ∧ _ from h).1) rfl rfl rfl (fun w' hS => (E.Runs.move rfl rfl)) ?_
        refine E.GH.take (i := 12) rfl (by kernel_rfl) (by kernel_rfl) (by kernel_rfl) (by intro c a d v w h; first | (cases d <;> exact h) | exact nomatch (show _ ∧ _ from h).1) rfl rfl rfl (fun w' hS => (E.Runs.indexAddrA (i := i) rfl rfl rfl hu42 z22 o22 (by omega) eR rfl)) ?_
        refine E.GH.take (i := 13) rfl (by kernel_rfl) (by kernel_rfl) (by kernel_rfl) (by intro c a d v w h; first | (cases d <;> exact h) | exact nomatch (show _ ∧ _ from h).1) rfl rfl rfl (fun w' hS => (E.Runs.load1 rfl rfl hu22 rfl (pw_cell_below (below_step s_L (E.belowG hS)) XR))) ?_
        by_cases h38 : AllR l 0 20
        · refine E.GH.one (i := 14) (by kernel_rfl) rfl ?_
          refine E.GO.st rfl rfl rfl (E.ST.call rfl ent57 (E.evc rfl (E.evc rfl (E.evc rfl E.evn))) ((areAll_calls l al kl 0 20 _ true (iff_of_true rfl h38) (Kd.C_below hlC L) (by omega)).mono ?_))
          rintro e w38 ⟨rfl, l38⟩
          refine ⟨_, rfl, hh.trans (E.gbB l38), ?_⟩
          replace hh := hh.trans (E.gbB l38)
          replace b2 := blk_below b2 l38
          replace r17 := Kd.R_below r17 l38
          replace L := below_step L l38
          refine E.GH.take (i := 15) rfl (by kernel_rfl) (by kernel_rfl) (by kernel_rfl) (by intro c a d v w h; first | (cases d <;> exact h) | exact nomatch (show _ ∧ _ from h).1) rfl rfl rfl (fun w' hS => (E.Runs.not rfl rfl)) ?_
          refine E.GH.take (i := 16) rfl (by kernel_rfl) (by kernel_rfl) (by kernel_rfl) (by intro c a d v w h; first | (cases d <;> exact h) | exact nomatch (show _ ∧ _ from h).1) rfl rfl rfl (fun w' hS => (E.Runs.pick_f rfl rfl rfl)) ?_
          refine E.GH.take (i := 17) rfl (by kernel_rfl) (by kernel_rfl) (by kernel_rfl) (by intro c a d v w h; first | (cases d <;> exact h) | exact nomatch (show _ ∧ _ from h).1) rfl rfl rfl (fun w' hS => (E.Runs.move rfl rfl)) ?_
          refine E.GH.take (i := 18) rfl (by kernel_rfl) (by kernel_rfl) (by kernel_rfl) (by intro c a d v w h; first | (cases d <;> exact h) | exact nomatch (show _ ∧ _ from h).1) rfl rfl rfl (fun w' hS => (E.Runs.move rfl rfl)) ?_
          refine E.GH.take (i := 19) rfl (by kernel_rfl) (by kernel_rfl) (by kernel_rfl) (by intro c a d v w h; first | (cases d <;> exact h) | exact nomatch (show _ ∧ _ from h).1) rfl rfl rfl (fun w' hS => (E.Runs.move rfl rfl)) ?_
          refine E.GH.take (i := 20) rfl (by kernel_rfl) (by kernel_rfl) (by kernel_rfl) (by intro c a d v w h; first | (cases d <;> exact h) | exact nomatch (show _ ∧ _ from h).1) rfl rfl rfl (fun w' hS => (E.Runs.indexAddrA (i := i) rfl rfl rfl hu42 z22 o22 (by omega) eR rfl)) ?_
          refine E.GH.take (i := 21) rfl (by kernel_rfl) (by kernel_rfl) (by kernel_rfl) (by intro c a d v w h; first | (cases d <;> exact h) | exact nomatch (show _ ∧ _ from h).1) rfl rfl rfl (fun w' hS => (E.Runs.load1 rfl rfl hu22 rfl (pw_cell_below (below_step s_L (E.belowG hS)) XR))) ?_
          refine E.GH.take (i := 23) rfl (by kernel_rfl) (by kernel_rfl) (by kernel_rfl) (by intro c a d v w h; first | (cases d <;> exact h) | exact nomatch (show _ ∧ _ from h).1) rfl rfl rfl (fun w' hS => (E.Runs.fieldAddr rfl rfl hu25 rfl (by assumption) rfl)) ?_
          refine E.GH.take (i := 24) rfl (by kernel_rfl) (by kernel_rfl) (by kernel_rfl) (by intro c a d v w h; first | (cases d <;> exact h) | exact nomatch (show _ ∧ _ from h).1) rfl rfl rfl (fun w' hS => (E.Runs.load1 rfl rfl hu23 rfl (by first | exact E.keeps hS (E.blkc (by assumption) rfl) (by first | exact E.nen | exact E.nes (by assumption) | exact E.nes (Ne.symm (by assumption))) | exact pw_cell_below (below_step s_L (E.belowG hS)) (by assumption)))) ?_
          refine E.GH.take (i := 25) rfl (by kernel_rfl) (by kernel_rfl) (by kernel_rfl) (by intro c a d v w h; first | (cases d <;> exact h) | exact nomatch (show _ ∧ _ from h).1) rfl rfl rfl (fun w' hS => (E.Runs.move rfl rfl)) ?_
          refine E.GH.take (i := 26) rfl (by kernel_rfl) (by kernel_rfl) (by kernel_rfl) (by intro c a d v w h; first | (cases d <;> exact h) | exact nomatch (show _ ∧ _ from h).1) rfl rfl rfl (fun w' hS => (E.Runs.indexAddrA (i := i) rfl rfl rfl hu23 z40 o40 (by omega) eA rfl)) ?_
          refine E.GH.take (i := 27) rfl (by kernel_rfl) (by kernel_rfl) (by kernel_rfl) (by intro c a d v w h; first | (cases d <;> exact h) | exact nomatch (show _ ∧ _ from h).1) rfl rfl rfl (fun w' hS => (E.Runs.loads (cs := [.slice a0 c.f0.length k0, .int .i64 c.f1, .int .i64 c.f2, .int .i64 c.f3, .int .i64 c.f4, .int .i64 c.f5]) rfl rfl hu40 rfl info40s (fun j v hv => pw_cell_below (below_step s_L (E.belowG hS)) (X j v hv)))) ?_
          refine E.GH.one (i := 22) (by kernel_rfl) rfl ?_
          refine E.GO.st rfl rfl rfl (E.ST.call rfl ent58 (E.evc rfl E.evn) ((sum_r l al kl _ (Kd.C_below hlC L) (by omega) (fun x hx => by have := h38 x hx; omega)).mono ?_))
          rintro e w46 ⟨rfl, l46⟩
          refine ⟨_, rfl, hh.trans (E.gbB l46), ?_⟩
          replace hh := hh.trans (E.gbB l46)
          replace b2 := blk_below b2 l46
          replace r17 := Kd.R_below r17 l46
          replace L := below_step L l46
          refine E.GH.one (i := 28) (by kernel_rfl) rfl ?_
          refine E.GO.st rfl rfl rfl (E.ST.call rfl ent38 (E.evc rfl E.evn) ((roll_r c a0 k0 _ q3 q4 q7).mono ?_))
          rintro e w52 ⟨rfl, l52⟩
          refine ⟨_, rfl, hh.trans (E.gbB l52), ?_⟩
          replace hh := hh.trans (E.gbB l52)
          replace b2 := blk_below b2 l52
          replace r17 := Kd.R_below r17 l52
          replace L := below_step L l52
          refine E.GH.cmpn (i := 29) rfl (by kernel_rfl) (by kernel_rfl) (by kernel_rfl) (by intro c a d v w h; first | (cases d <;> exact h) | exact nomatch (show _ ∧ _ from h).1) rfl rfl rfl (fun _ h w' hS => (E.Runs.neq rfl rfl rfl h)) (fun h53 => ?_) (fun h53 => ?_)
          · refine E.GH.take (i := 30) rfl (by kernel_rfl) (by kernel_rfl) (by kernel_rfl) (by intro c a d v w h; first | (cases d <;> exact h) | exact nomatch (show _ ∧ _ from h).1) rfl rfl rfl (fun w' hS => (E.Runs.pick_f rfl rfl rfl)) ?_
            refine E.GH.done (by kernel_rfl) ?_
            refine E.QG.code ?_
            refine E.CG.cond_t rfl ?_
            refine E.CG.seq ?_
            refine E.CG.list ?_
            refine E.GL.run rfl rfl rfl (E.Runs.assign rfl rfl) ?_
            refine E.GL.done ?_
            refine E.QG.code ?_
            refine E.CG.ret ?_
            refine E.QG.pass_ret ?_
            refine E.QG.block_ret ?_
            refine E.QG.pass_ret ?_
            refine E.QG.pass_ret ?_
            refine E.QG.block_ret ?_
            refine E.QG.pass_ret ?_
            exact E.QG.result rfl rfl ⟨by rw [bool_no hr (fun k => h53 (by rw [(k.2.1 i l hl).2.2, hct]))], L⟩
          · have hrow : OkRow V i l := ⟨by omega, h38, by rw [hct]; omega⟩
            have hk' := all_more (p := fun _ => True) (fun k _ _ _ => trivial) hl trivial
            refine E.GH.take (i := 30) rfl (by kernel_rfl) (by kernel_rfl) (by kernel_rfl) (by intro c a d v w h; first | (cases d <;> exact h) | exact nomatch (show _ ∧ _ from h).1) rfl rfl rfl (fun w' hS => (E.Runs.pick_f rfl rfl rfl)) ?_
            refine E.GH.done (by kernel_rfl) ?_
            refine E.QG.code ?_
            refine E.CG.cond_f rfl ?_
            refine E.CG.skip ?_
            refine E.QG.code ?_
            refine E.CG.seq ?_
            refine E.CG.list ?_
            refine E.GL.run rfl rfl rfl (E.Runs.assign rfl rfl) ?_
            refine E.GL.done ?_
            refine E.QG.code ?_
            refine E.CG.block ?_
            have s10_b2 := b2
            have s10_L := L
            refine E.CG.loop (fun (s : Nat) => [(1, .slice AT ts.length kT), (2, .pointer (some ⟨g2, 0, none⟩)), (5, .slice A5 V.ps.length c5), (6, .int .i64 i), (7, .int .i64 s)]) (fun s w' => s ≤ V.ps.length ∧ w'.heap[g2]? = some (.cells #[.slice m.A V.ps.length m.a, .slice m.B V.qs.length m.b, .slice m.C V.ts.length m.c, .slice m.D V.cs.length m.d] 25 (0, 0)) ∧ Kd.R kI 3 w' w.heap.size (fun _ => True) (.slice A5 V.ps.length c5) (mx2 V.ps.length (preS ts i) (preS ts (i + 1)) s) ∧ Below w.heap.size w w') (fun s => V.ps.length - s) 0 (E.subc rfl (E.subc rfl (E.subc rfl (E.subc rfl (E.subc rfl E.subn))))) ⟨Nat.zero_le _, b2, by rw [mx2_first hp3]; exact r17, L⟩ ?_
            rintro s w10 ⟨hsl, b2, r17, L⟩
            refine E.CG.seq ?_
            refine E.CG.seq ?_
            refine E.CG.list ?_
            refine E.GL.run rfl rfl rfl (E.Runs.move rfl rfl) ?_
            refine E.GL.run rfl rfl rfl (E.Runs.move rfl rfl) ?_
            refine E.GL.run rfl rfl rfl (E.Runs.len rfl rfl hu22) ?_
            refine E.GL.cmp rfl rfl rfl (fun _ h => (E.Runs.lss rfl rfl rfl h)) (fun h58 => ?_) (fun h58 => ?_)
            · have hsn : s < V.ps.length := by omega
              obtain ⟨x, hx⟩ := get_ex (show s < l.length by omega)
              obtain ⟨ax, eX, X2⟩ := int_at hlC hx
              have hxs := h38 x (List.mem_of_getElem? hx)
              have hals := preS_small hk s (by omega)
              refine E.GL.done ?_
              refine E.QG.code ?_
              refine E.CG.cond_t rfl ?_
              refine E.CG.skip ?_
              refine E.QG.code ?_
              refine E.CG.seq ?_
              refine E.CG.block ?_
              refine E.CG.heldJ 13 (fun v W => v.grownBy W (none)) (fun _ _ => True) (by kernel_rfl) (by kernel_rfl) (fun v => World.grownBy.refl _ _) fun v12 lD => ?_
              replace b2 := blk_below b2 lD
              replace r17 := Kd.R_below r17 lD
              replace L := below_step L lD
              have lD12 := lD
              clear lD
              obtain ⟨gK, eK, hgK, cK, fK, ⟨_, bK⟩, stK⟩ := rowI_at r17 (mx2_at hsn (preS ts i) (preS ts (i + 1)))
              have s_b2 := b2
              have s_L := L
              refine E.GJ.take1 (i := 0) rfl (by kernel_rfl) (by kernel_rfl) (by kernel_rfl) (by kernel_rfl) rfl (by kernel_rfl) (by kernel_rfl) (by intro c a d v w h; first | (cases d <;> exact h) | exact nomatch (show _ ∧ _ from h).1) rfl rfl rfl (fun w' hS => (E.Runs.move rfl rfl)) ?_
              refine E.GJ.take1 (i := 1) rfl (by kernel_rfl) (by kernel_rfl) (by kernel_rfl) (by kernel_rfl) rfl (by kernel_rfl) (by kernel_rfl) (by intro c a d v w h; first | (cases d <;> exact h) | exact nomatch (show _ ∧ _ from h).1) rfl rfl rfl (fun w' hS => (E.Runs.move rfl rfl)) ?_
              refine E.GJ.take1 (i := 2) rfl (by kernel_rfl) (by kernel_rfl) (by kernel_rfl) (by kernel_rfl) rfl (by kernel_rfl) (by kernel_rfl) (by intro c a d v w h; first | (cases d <;> exact h) | exact nomatch (show _ ∧ _ from h).1) rfl rfl rfl (fun w' hS => (E.Runs.indexAddrA (i := s) rfl rfl rfl hu22 z3 o3 (by omega) eK (show _ = (⟨gK, s * 1, none⟩ : Addr) from by rw [Go.Addr.add_mid, Nat.zero_add]))) ?_
              refine E.GJ.take1 (i := 3) rfl (by kernel_rfl) (by kernel_rfl) (by kernel_rfl) (by kernel_rfl) rfl (by kernel_rfl) (by kernel_rfl) (by intro c a d v w h; first | (cases d <;> exact h) | exact nomatch (show _ ∧ _ from h).1) rfl rfl rfl (fun w' hS => (E.Runs.load rfl rfl hu3 (E.keeps hS cK E.nen))) ?_
              refine E.GJ.take1 (i := 4) rfl (by kernel_rfl) (by kernel_rfl) (by kernel_rfl) (by kernel_rfl) rfl (by kernel_rfl) (by kernel_rfl) (by intro c a d v w h; first | (cases d <;> exact h) | exact nomatch (show _ ∧ _ from h).1) rfl rfl rfl (fun w' hS => (E.Runs.move rfl rfl)) ?_
              refine E.GJ.take1 (i := 5) rfl (by kernel_rfl) (by kernel_rfl) (by kernel_rfl) (by kernel_rfl) rfl (by kernel_rfl) (by kernel_rfl) (by intro c a d v w h; first | (cases d <;> exact h) | exact nomatch (show _ ∧ _ from h).1) rfl rfl rfl (fun w' hS => (E.Runs.move rfl rfl)) ?_
              refine E.GJ.take1 (i := 6) rfl (by kernel_rfl) (by kernel_rfl) (by kernel_rfl) (by kernel_rfl) rfl (by kernel_rfl) (by kernel_rfl) (by intro c a d v w h; first | (cases d <;> exact h) | exact nomatch (show _ ∧ _ from h).1) rfl rfl rfl (fun w' hS => (E.Runs.indexAddrA (i := i) rfl rfl rfl hu42 z22 o22 (by omega) eR rfl)) ?_
              refine E.GJ.take1 (i := 7) rfl (by kernel_rfl) (by kernel_rfl) (by kernel_rfl) (by kernel_rfl) rfl (by kernel_rfl) (by kernel_rfl) (by intro c a d v w h; first | (cases d <;> exact h) | exact nomatch (show _ ∧ _ from h).1) rfl rfl rfl (fun w' hS => (E.Runs.load1 rfl rfl hu22 rfl (pw_cell_below (below_step s_L (E.belowG hS)) XR))) ?_
              refine E.GJ.take1 (i := 8) rfl (by kernel_rfl) (by kernel_rfl) (by kernel_rfl) (by kernel_rfl) rfl (by kernel_rfl) (by kernel_rfl) (by intro c a d v w h; first | (cases d <;> exact h) | exact nomatch (show _ ∧ _ from h).1) rfl rfl rfl (fun w' hS => (E.Runs.move rfl rfl)) ?_
              refine E.GJ.take1 (i := 9) rfl (by kernel_rfl) (by kernel_rfl) (by kernel_rfl) (by kernel_rfl) rfl (by kernel_rfl) (by kernel_rfl) (by intro c a d v w h; first | (cases d <;> exact h) | exact nomatch (show _ ∧ _ from h).1) rfl rfl rfl (fun w' hS => (E.Runs.indexAddrA (i := s) rfl rfl rfl hu22 z3 o3 (by omega) eX rfl)) ?_
              refine E.GJ.take1 (i := 10) rfl (by kernel_rfl) (by kernel_rfl) (by kernel_rfl) (by kernel_rfl) rfl (by kernel_rfl) (by kernel_rfl) (by intro c a d v w h; first | (cases d <;> exact h) | exact nomatch (show _ ∧ _ from h).1) rfl rfl rfl (fun w' hS => (E.Runs.load rfl rfl hu3 (pw_cell_below (below_step s_L (E.belowG hS)) X2))) ?_
              refine E.GJ.take1 (i := 11) rfl (by kernel_rfl) (by kernel_rfl) (by kernel_rfl) (by kernel_rfl) rfl (by kernel_rfl) (by kernel_rfl) (by intro c a d v w h; first | (cases d <;> exact h) | exact nomatch (show _ ∧ _ from h).1) rfl rfl rfl (fun w' hS => (E.Runs.add rfl rfl rfl (IntWalk.i64_in _ (by omega)))) ?_
              refine E.GJ.take1 (i := 12) rfl (by kernel_rfl) (by kernel_rfl) (by kernel_rfl) (by kernel_rfl) rfl (by kernel_rfl) (by kernel_rfl) (by intro c a d v w h; first | (cases d <;> exact h) | exact nomatch (show _ ∧ _ from h).1) rfl rfl rfl (fun w' hS => (E.Runs.indexAddrA (i := s) rfl rfl rfl hu22 z3 o3 (by omega) eK (show _ = (⟨gK, s * 1, none⟩ : Addr) from by rw [Go.Addr.add_mid, Nat.zero_add]))) ?_
              refine E.GJ.one (i := 13) (by kernel_rfl) (E.OJ.sn rfl rfl rfl (E.ST.storeN rfl z3 o3 rfl rfl cK fK ⟨(E.SJ.behind (by kernel_rfl)).mpr trivial, ?_⟩))
              obtain ⟨wK, hwK, RK, gK'⟩ := stK ((preS ts i).get s + x)
              rw [← hwK]
              replace b2 := blk_grown b2 gK' (E.nes (blk_ne b2 bK (by decide)))
              replace L := E.below_own L hgK gK'
              rw [show (preS ts i).get s + x = (preS ts (i + 1)).get s from by rw [preS_next hl, get_add, bl_get _ (by omega), getD_of hx], mx2_set hsn] at RK
              clear r17
              refine E.GJ.done (by kernel_rfl) ?_
              refine E.QG.block_normal ?_
              refine E.QG.code ?_
              refine E.CG.list ?_
              refine E.GL.run rfl rfl rfl (E.Runs.move rfl rfl) ?_
              refine E.GL.run rfl rfl rfl (E.Runs.add rfl rfl rfl (IntWalk.i64_in _ (by omega))) ?_
              refine E.GL.run rfl rfl rfl (E.Runs.assign rfl rfl) ?_
              refine E.GL.done ?_
              exact E.QG.round (s + 1) (E.subc rfl (E.subc rfl (E.subc rfl (E.subc rfl (E.subc rfl E.subn))))) ⟨by omega, b2, RK, L⟩ (by omega)
            · rw [mx2_last hp3 (by omega)] at r17
              refine E.GL.done ?_
              refine E.QG.code ?_
              refine E.CG.cond_f rfl ?_
              refine E.CG.exit ?_
              refine E.QG.pass_exit ?_
              refine E.QG.pass_exit ?_
              refine E.QG.block_here ?_
              refine E.QG.block_normal ?_
              refine E.QG.code ?_
              refine E.CG.list ?_
              refine E.GL.run rfl rfl rfl (E.Runs.move rfl rfl) ?_
              refine E.GL.run rfl rfl rfl (E.Runs.add rfl rfl rfl (IntWalk.i64_in _ (by omega))) ?_
              refine E.GL.run rfl rfl rfl (E.Runs.assign rfl rfl) ?_
              refine E.GL.done ?_
              exact E.QG.round (i + 1) (E.subc rfl (E.subc rfl (E.subc rfl (E.subc rfl E.subn)))) ⟨by omega, (fun k hki l' hl' => by
                  by_cases e : k = i
                  · subst e; rw [hl] at hl'; cases hl'; exact hrow
                  · exact hk k (by omega) l' hl'), b2, r17, L⟩ (by omega)
        · refine E.GH.one (i := 14) (by kernel_rfl) rfl ?_
          refine E.GO.st rfl rfl rfl (E.ST.call rfl ent57 (E.evc rfl (E.evc rfl (E.evc rfl E.evn))) ((areAll_calls l al kl 0 20 _ false (iff_of_false Bool.false_ne_true h38) (Kd.C_below hlC L) (by omega)).mono ?_))
          rintro e w38 ⟨rfl, l38⟩
          refine ⟨_, rfl, hh.trans (E.gbB l38), ?_⟩
          replace hh := hh.trans (E.gbB l38)
          replace b2 := blk_below b2 l38
          replace r17 := Kd.R_below r17 l38
          replace L := below_step L l38
          refine E.GH.take (i := 15) rfl (by kernel_rfl) (by kernel_rfl) (by kernel_rfl) (by intro c a d v w h; first | (cases d <;> exact h) | exact nomatch (show _ ∧ _ from h).1) rfl rfl rfl (fun w' hS => (E.Runs.not rfl rfl)) ?_
          refine E.GH.take (i := 16) rfl (by kernel_rfl) (by kernel_rfl) (by kernel_rfl) (by intro c a d v w h; first | (cases d <;> exact h) | exact nomatch (show _ ∧ _ from h).1) rfl rfl rfl (fun w' hS => (E.Runs.pick_f rfl rfl rfl)) ?_
          refine E.GH.take (i := 17) rfl (by kernel_rfl) (by kernel_rfl) (by kernel_rfl) (by intro c a d v w h; first | (cases d <;> exact h) | exact nomatch (show _ ∧ _ from h).1) rfl rfl rfl (fun w' hS => (E.Runs.move rfl rfl)) ?_
          refine E.GH.pass (i := 18) rfl (by kernel_rfl) (by kernel_rfl) (by kernel_rfl) (by intro c a d v w h; first | (cases d <;> exact h) | exact nomatch (show _ ∧ _ from h).1) rfl rfl rfl ?_
          refine E.GH.pass (i := 19) rfl (by kernel_rfl) (by kernel_rfl) (by kernel_rfl) (by intro c a d v w h; first | (cases d <;> exact h) | exact nomatch (show _ ∧ _ from h).1) rfl rfl rfl ?_
          refine E.GH.pass (i := 20) rfl (by kernel_rfl) (by kernel_rfl) (by kernel_rfl) (by intro c a d v w h; first | (cases d <;> exact h) | exact nomatch (show _ ∧ _ from h).1) rfl rfl rfl ?_
          refine E.GH.pass (i := 21) rfl (by kernel_rfl) (by kernel_rfl) (by kernel_rfl) (by intro c a d v w h; first | (cases d <;> exact h) | exact nomatch (show _ ∧ _ from h).1) rfl rfl rfl ?_
          refine E.GH.pass (i := 22) rfl (by kernel_rfl) (by kernel_rfl) (by kernel_rfl) (by intro c a d v w h; first | (cases d <;> exact h) | exact nomatch (show _ ∧ _ from h).1) rfl rfl rfl ?_
          refine E.GH.pass (i := 23) rfl (by kernel_rfl) (by kernel_rfl) (by kernel_rfl) (by intro c a d v w h; first | (cases d <;> exact h) | exact nomatch (show _ ∧ _ from h).1) rfl rfl rfl ?_
          refine E.GH.pass (i := 24) rfl (by kernel_rfl) (by kernel_rfl) (by kernel_rfl) (by intro c a d v w h; first | (cases d <;> exact h) | exact nomatch (show _ ∧ _ from h).1) rfl rfl rfl ?_
          refine E.GH.pass (i := 25) rfl (by kernel_rfl) (by kernel_rfl) (by kernel_rfl) (by intro c a d v w h; first | (cases d <;> exact h) | exact nomatch (show _ ∧ _ from h).1) rfl rfl rfl ?_
          refine E.GH.pass (i := 26) rfl (by kernel_rfl) (by kernel_rfl) (by kernel_rfl) (by intro c a d v w h; first | (cases d <;> exact h) | exact nomatch (show _ ∧ _ from h).1) rfl rfl rfl ?_
          refine E.GH.pass (i := 27) rfl (by kernel_rfl) (by kernel_rfl) (by kernel_rfl) (by intro c a d v w h; first | (cases d <;> exact h) | exact nomatch (show _ ∧ _ from h).1) rfl rfl rfl ?_
          refine E.GH.pass (i := 28) rfl (by kernel_rfl) (by kernel_rfl) (by kernel_rfl) (by intro c a d v w h; first | (cases d <;> exact h) | exact nomatch (show _ ∧ _ from h).1) rfl rfl rfl ?_
          refine E.GH.pass (i := 29) rfl (by kernel_rfl) (by kernel_rfl) (by kernel_rfl) (by intro c a d v w h; first | (cases d <;> exact h) | exact nomatch (show _ ∧ _ from h).1) rfl rfl rfl ?_
          refine E.GH.take (i := 30) rfl (by kernel_rfl) (by kernel_rfl) (by kernel_rfl) (by intro c a d v w h; first | (cases d <;> exact h) | exact nomatch (show _ ∧ _ from h).1) rfl rfl rfl (fun w' hS => (E.Runs.pick_t rfl rfl rfl)) ?_
          refine E.GH.done (by kernel_rfl) ?_
          refine E.QG.code ?_
          refine E.CG.cond_t rfl ?_
          refine E.CG.seq ?_
          refine E.CG.list ?_
          refine E.GL.run rfl rfl rfl (E.Runs.assign rfl rfl) ?_
          refine E.GL.done ?_
          refine E.QG.code ?_
          refine E.CG.ret ?_
          refine E.QG.pass_ret ?_
          refine E.QG.block_ret ?_
          refine E.QG.pass_ret ?_
          refine E.QG.pass_ret ?_
          refine E.QG.block_ret ?_
          refine E.QG.pass_ret ?_
          exact E.QG.result rfl rfl ⟨by rw [bool_no hr (fun k => h38 (k.2.1 i l hl).2.1)], L⟩
    · obtain rfl : i = ts.length := by omega
      refine E.GL.done ?_
      refine E.QG.code ?_
      refine E.CG.cond_f rfl ?_
      refine E.CG.exit ?_
      refine E.QG.pass_exit ?_
      refine E.QG.pass_exit ?_
      refine E.QG.block_here ?_
      refine E.QG.code ?_
      refine E.CG.seq ?_
      refine E.CG.list ?_
      refine E.GL.run rfl rfl rfl (E.Runs.move rfl rfl) ?_
      refine E.GL.run rfl rfl rfl (E.Runs.fieldAddr rfl rfl hu25 rfl (by assumption) rfl) ?_
      refine E.GL.run rfl rfl rfl (E.Runs.load1 rfl rfl hu22 rfl (by first | assumption | exact E.blkc (by assumption) rfl | exact pw_cell_below L (by assumption))) ?_
      by_cases h77 : tb V.ps.length (preS ts ts.length) = V.qs
      · refine E.GL.st rfl rfl rfl (E.ST.call rfl ent59 (E.evc rfl (E.evc rfl E.evn)) ((same_rN (tb V.ps.length (preS ts ts.length)) V.qs V.ps.length (tb_len hp3 _) A5 m.B c5 m.b _ true (iff_of_true rfl h77) (Kd.R_reads' r17).2.2 (hV.below L).qs (by omega)).mono ?_))
        rintro e w77 ⟨rfl, l77⟩
        refine ⟨_, rfl, ?_⟩
        replace b2 := blk_below b2 l77
        replace r17 := Kd.R_below r17 l77
        replace L := below_step L l77
        refine E.GL.run rfl rfl rfl (E.Runs.assign rfl rfl) ?_
        refine E.GL.done ?_
        refine E.QG.code ?_
        refine E.CG.ret ?_
        exact E.QG.result rfl rfl ⟨by rw [hr.mpr ((isT_iff ok (by omega) hk).mpr h77)], L⟩
      · refine E.GL.st rfl rfl rfl (E.ST.call rfl ent59 (E.evc rfl (E.evc rfl E.evn)) ((same_rN (tb V.ps.length (preS ts ts.length)) V.qs V.ps.length (tb_len hp3 _) A5 m.B c5 m.b _ false (iff_of_false Bool.false_ne_true h77) (Kd.R_reads' r17).2.2 (hV.below L).qs (by omega)).mono ?_))
        rintro e w77 ⟨rfl, l77⟩
        refine ⟨_, rfl, ?_⟩
        replace b2 := blk_below b2 l77
        replace r17 := Kd.R_below r17 l77
        replace L := below_step L l77
        refine E.GL.run rfl rfl rfl (E.Runs.assign rfl rfl) ?_
        refine E.GL.done ?_
        refine E.QG.code ?_
        refine E.CG.ret ?_
        exact E.QG.result rfl rfl ⟨by rw [bool_no hr (fun k => h77 ((isT_iff ok (by omega) hk).mp k))], L⟩

end Go.Proofs.Ytiplichdhcmjdaa.T
namespace Go.Proofs.Ytiplichdhcmjdaa.T
open Go.RowKit Go.Proofs.YtiplichdhcmjdaaW.PrintWords Go.Proofs.YtiplichdhcmjdaaW.PrintMore
open Go.Proofs.Ytiplichdhcmjdaa.P
set_option linter.unusedVariables false
set_option linter.unusedSimpArgs false

/-- Two rows of rows, none of one's blocks the other's. -/
structure Tw {α : Type} (d : Kd α) (e b b7 : Nat) (w : World) (v5 v7 : Value) (out rest : List α) : Prop where
  o : Kd.R d e w b (fun _ => True) v5 out
  r : Kd.R d e w b7 (fun k => True ∧ some k ≠ v5.ownBlock) v7 rest
theorem Tw.below {α : Type} {d : Kd α} {e b b7 : Nat} {w w' : World} {v5 v7 : Value} {out rest : List α} (h : Tw d e b b7 w v5 v7 out rest) (l : Below w.heap.size w w') : Tw d e b b7 w' v5 v7 out rest := ⟨Kd.R_below h.o l, Kd.R_below h.r l⟩
theorem Tw.start {α : Type} {d : Kd α} {e b : Nat} {W w : World} {v5 v7 : Value} {out rest : List α} (h : Kd.R d e W b (fun _ => True) v5 out) (l : Below W.heap.size W w) (k : Kd.R d e w W.heap.size (fun _ => True) v7 rest) : Tw d e b W.heap.size w v5 v7 out rest := ⟨Kd.R_below h l, Kd.R_newR k h⟩
theorem Tw.after {α : Type} {d : Kd α} {e b b7 : Nat} {W w : World} {v5 v7 v1 : Value} {out out' rest : List α} (h : Tw d e b b7 W v5 v7 out rest) (k : Kd.R d e w b (fun _ => True) v1 out') (hg : W.grownBy w v5.ownBlock) (hat : v1.ownBlock = v5.ownBlock ∨ ∃ k, v1.ownBlock = some k ∧ W.heap.size ≤ k) : Tw d e b b7 w v1 v7 out' rest := ⟨k, Kd.R_after h.r hg hat⟩
end Go.Proofs.Ytiplichdhcmjdaa.T
namespace Go.Proofs.Ytiplichdhcmjdaa.T
open Go.RowKit Go.Proofs.YtiplichdhcmjdaaW.PrintWords Go.Proofs.YtiplichdhcmjdaaW.PrintMore
open Go.Proofs.Ytiplichdhcmjdaa.P
set_option linter.unusedVariables false
set_option linter.unusedSimpArgs false

abbrev kRR : Kd (List (List Int)) := Kd.slice 22 kR
structure R3 (b : Nat) (w : World) (v : Value) (ts : List (List (List Int))) : Prop where
  r : Kd.R kRR 42 w b (fun _ => True) v ts
theorem R3.below {b : Nat} {w w' : World} {v : Value} {ts : List (List (List Int))} (h : R3 b w v ts) (l : Below w.heap.size w w') : R3 b w' v ts := ⟨Kd.R_below h.r l⟩
end Go.Proofs.Ytiplichdhcmjdaa.T
namespace Go.Proofs.Ytiplichdhcmjdaa.T
open Go.RowKit Go.Proofs.YtiplichdhcmjdaaW.PrintWords Go.Proofs.YtiplichdhcmjdaaW.PrintMore
open Go.Proofs.Ytiplichdhcmjdaa.P
set_option linter.unusedVariables false
set_option linter.unusedSimpArgs false

def LkS (V : Ev) (L : List (List (List Int))) : Prop := ∀ ts, ts ∈ L ↔ ∃ t, Lkly V t ∧ ts = t.map (tb V.ps.length)
def LikR (V : Ev) (L : List (List (List Int))) (n : Int) : Prop := ((∀ t, ¬ Truth V t) ∧ L = [] ∧ n = 0) ∨ ((∃ t, Truth V t) ∧ L ≠ [] ∧ n = fewN V ∧ LkS V L ∧ L.length ≤ 441 ^ 4)
theorem nn_bl {V : Ev} (ok : VOk V) : Nn V.ps.length (bl V.qs) := by
  have hs := small_bl (m := 80) ok.q (by decide)
  exact ⟨(hs 0 (by decide)).1, (hs 1 (by decide)).1, (hs 2 (by decide)).1, fin_bl ok.nq⟩
theorem tr_none {V : Ev} (ok : VOk V) {n : Nat} (h : ∀ t, Truth V t → (n : Int) ≤ flT V 0 t) (hL : trL V V.cs.length 0 n (bl V.qs) = []) : ∀ t, Truth V t → ((n + 1 : Nat) : Int) ≤ flT V 0 t := fun t ht => by
  have h0 := h t ht
  refine Int.not_lt.mp fun hlt => ?_
  have := (mem_trL ok (k := V.cs.length) (i := 0) (F := n) (by omega) (by omega) (nn_bl ok)).mpr ⟨t, ht.1, ht.2.1, ht.2.2, by omega, rfl⟩
  rw [hL] at this
  cases this
theorem tr_some {V : Ev} (ok : VOk V) {n : Nat} (h : ∀ t, Truth V t → (n : Int) ≤ flT V 0 t) (hL : trL V V.cs.length 0 n (bl V.qs) ≠ []) : LikR V (trL V V.cs.length 0 n (bl V.qs)) n := by
  have hm : ∀ ts, ts ∈ trL V V.cs.length 0 n (bl V.qs) ↔ _ := fun ts => mem_trL ok (k := V.cs.length) (i := 0) (F := n) (ts := ts) (by omega) (by omega) (nn_bl ok)
  obtain ⟨ts, hts⟩ := List.exists_mem_of_ne_nil _ hL
  obtain ⟨t, a1, a2, a3, a4, _⟩ := (hm ts).mp hts
  have htr : Truth V t := ⟨a1, a2, a3⟩
  have hn : fewN V = n := fewN_eq ⟨⟨t, htr, by have := h t htr; omega⟩, h⟩
  refine .inr ⟨⟨t, htr⟩, hL, hn.symm, fun ts => (hm ts).trans ⟨?_, ?_⟩, ?_⟩
  · rintro ⟨s, b1, b2, b3, b4, rfl⟩
    exact ⟨s, ⟨⟨b1, b2, b3⟩, by have := h s ⟨b1, b2, b3⟩; omega⟩, rfl⟩
  · rintro ⟨s, ⟨hs, h5⟩, rfl⟩
    exact ⟨s, hs.1, hs.2.1, hs.2.2, by omega, rfl⟩
  · exact Nat.le_trans (trL_len ok _ _ _ _ (by omega)) (Nat.pow_le_pow_right (by decide) ok.c4)
end Go.Proofs.Ytiplichdhcmjdaa.T
namespace Go.Proofs.Ytiplichdhcmjdaa.T
open Go.RowKit Go.Proofs.YtiplichdhcmjdaaW.PrintWords Go.Proofs.YtiplichdhcmjdaaW.PrintMore
open Go.Proofs.Ytiplichdhcmjdaa.P
set_option linter.unusedVariables false
set_option linter.unusedSimpArgs false

/-- A till's row in a likely truth. -/
theorem lk_row {V : Ev} (ok : VOk V) {L : List (List (List Int))} (hS : LkS V L) {ts : List (List Int)} (h : ts ∈ L) {i : Nat} (hi : i < V.cs.length) : ∃ t b, Lkly V t ∧ ts = t.map (tb V.ps.length) ∧ t[i]? = some b ∧ ts[i]? = some (tb V.ps.length b) ∧ Way V.ps.length (rl (ct V i)) b ∧ ts.length = V.cs.length := by
  obtain ⟨t, ht, rfl⟩ := (hS ts).mp h
  obtain ⟨b, hb⟩ := get_ex (show i < t.length by rw [ht.1.1]; exact hi)
  have hw := Ws_get ht.1.2.1 hb
  rw [Nat.zero_add] at hw
  exact ⟨t, b, ht, rfl, hb, by rw [List.getElem?_map, hb]; rfl, hw, by rw [List.length_map]; exact ht.1.1⟩
def flR (V : Ev) (i : Nat) (ts : List (List Int)) : Int := fl V (ct V i) (bl (ts.getD i []))
theorem flR_eq {V : Ev} (ok : VOk V) {i : Nat} {t : List Bl} {b : Bl} (hb : t[i]? = some b) (hw : Way V.ps.length (rl (ct V i)) b) : flR V i (t.map (tb V.ps.length)) = fl V (ct V i) b := by
  unfold flR
  rw [List.getD_eq_getElem?_getD, List.getElem?_map, hb]
  show fl V (ct V i) (bl (tb V.ps.length b)) = _
  rw [tb_bl ok.n1 ok.n3 hw]
def cntF (V : Ev) (i : Nat) (L : List (List (List Int))) : Nat := (L.filter (fun ts => decide (0 < flR V i ts))).length
theorem cnt_susp {V : Ev} (ok : VOk V) {L : List (List (List Int))} (hS : LkS V L) {i : Nat} (hi : i < V.cs.length) : 0 < cntF V i L ↔ suspP V i := by
  constructor
  · intro h
    obtain ⟨ts, hts⟩ := List.exists_mem_of_length_pos h
    obtain ⟨hm, hp⟩ := List.mem_filter.mp hts
    obtain ⟨t, b, h1, rfl, h3, _, h5, _⟩ := lk_row ok hS hm hi
    rw [decide_eq_true_eq, flR_eq ok h3 h5] at hp
    exact ⟨t, b, h1, h3, hp⟩
  · rintro ⟨t, b, h1, h3, hp⟩
    have hw := Ws_get h1.1.2.1 h3
    rw [Nat.zero_add] at hw
    refine List.length_pos_of_mem (List.mem_filter.mpr ⟨(hS _).mpr ⟨t, h1, rfl⟩, ?_⟩)
    rw [decide_eq_true_eq, flR_eq ok h3 hw]
    exact hp
def mnG {α : Type} (f : α → Int) (x : Int) (l : List α) : Int := l.foldl (fun a o => mn a (f o)) x
def mxG {α : Type} (f : α → Int) (x : Int) (l : List α) : Int := l.foldl (fun a o => mx a (f o)) x
theorem mnG_is {α : Type} {q : α → Int} : ∀ (l : List α) (x : Int), (mnG q x l = x ∨ ∃ o ∈ l, q o = mnG q x l) ∧ mnG q x l ≤ x ∧ ∀ o ∈ l, mnG q x l ≤ q o
  | [], x => ⟨.inl rfl, Int.le_refl _, fun o h => by cases h⟩
  | o :: l, x => by
    obtain ⟨h1, h2, h3⟩ := mnG_is (q := q) l (mn x (q o))
    have e : mnG q x (o :: l) = mnG q (mn x (q o)) l := rfl
    have hm : mn x (q o) = x ∨ mn x (q o) = q o := by unfold mn; split <;> simp
    have hle : mn x (q o) ≤ x ∧ mn x (q o) ≤ q o := by unfold mn; split <;> omega
    rw [e]
    refine ⟨?_, by omega, fun o' ho' => ?_⟩
    · rcases h1 with h1 | ⟨o', ho', h1⟩
      · rcases hm with hm | hm
        · exact .inl (h1.trans hm)
        · exact .inr ⟨o, List.mem_cons_self, by rw [h1, hm]⟩
      · exact .inr ⟨o', List.mem_cons_of_mem _ ho', h1⟩
    · rcases List.mem_cons.mp ho' with rfl | ho'
      · omega
      · exact h3 o' ho'
theorem mxG_is {α : Type} {q : α → Int} : ∀ (l : List α) (x : Int), (mxG q x l = x ∨ ∃ o ∈ l, q o = mxG q x l) ∧ x ≤ mxG q x l ∧ ∀ o ∈ l, q o ≤ mxG q x l
  | [], x => ⟨.inl rfl, Int.le_refl _, fun o h => by cases h⟩
  | o :: l, x => by
    obtain ⟨h1, h2, h3⟩ := mxG_is (q := q) l (mx x (q o))
    have e : mxG q x (o :: l) = mxG q (mx x (q o)) l := rfl
    have hm : mx x (q o) = x ∨ mx x (q o) = q o := by unfold mx; split <;> simp
    have hle : x ≤ mx x (q o) ∧ q o ≤ mx x (q o) := by unfold mx; split <;> omega
    rw [e]
    refine ⟨?_, by omega, fun o' ho' => ?_⟩
    · rcases h1 with h1 | ⟨o', ho', h1⟩
      · rcases hm with hm | hm
        · exact .inl (h1.trans hm)
        · exact .inr ⟨o, List.mem_cons_self, by rw [h1, hm]⟩
      · exact .inr ⟨o', List.mem_cons_of_mem _ ho', h1⟩
    · rcases List.mem_cons.mp ho' with rfl | ho'
      · omega
      · exact h3 o' ho'
theorem span_r {V : Ev} (ok : VOk V) {till sh : Int} {q : Bl → Int} {L : List (List (List Int))} (hS : LkS V L) (hi : till.toNat < V.cs.length) (h : errT V till sh = 0) {f : List (List Int) → Int} (hf : ∀ t b, Lkly V t → t[till.toNat]? = some b → Way V.ps.length (rl (ct V till.toNat)) b → f (t.map (tb V.ps.length)) = q b) {o0 : List (List Int)} (h0 : o0 ∈ L) : loV V till sh q = mnG f (f o0) L ∧ hiV V till sh q = mxG f (f o0) L := by
  have hval : ∀ n, valP V till.toNat q n ↔ ∃ ts ∈ L, f ts = n := fun n => by
    constructor
    · rintro ⟨t, b, h1, h2, rfl⟩
      have hw := Ws_get h1.1.2.1 h2
      rw [Nat.zero_add] at hw
      exact ⟨_, (hS _).mpr ⟨t, h1, rfl⟩, hf t b h1 h2 hw⟩
    · rintro ⟨ts, hm, rfl⟩
      obtain ⟨t, b, h1, rfl, h3, _, h5, _⟩ := lk_row ok hS hm hi
      exact ⟨t, b, h1, h3, (hf t b h1 h3 h5).symm⟩
  obtain ⟨a1, a2, a3⟩ := mnG_is (q := f) L (f o0)
  obtain ⟨b1, b2, b3⟩ := mxG_is (q := f) L (f o0)
  constructor
  · refine loV_ok h ((hval _).mpr ?_) fun n hn => ?_
    · rcases a1 with a1 | a1
      · exact ⟨o0, h0, a1.symm⟩
      · exact a1
    · obtain ⟨o, ho, rfl⟩ := (hval _).mp hn
      exact a3 o ho
  · refine hiV_ok h ((hval _).mpr ?_) fun n hn => ?_
    · rcases b1 with b1 | b1
      · exact ⟨o0, h0, b1.symm⟩
      · exact b1
    · obtain ⟨o, ho, rfl⟩ := (hval _).mp hn
      exact b3 o ho
end Go.Proofs.Ytiplichdhcmjdaa.T
namespace Go.Proofs.Ytiplichdhcmjdaa.T
open Go.RowKit Go.Proofs.YtiplichdhcmjdaaW.PrintWords Go.Proofs.YtiplichdhcmjdaaW.PrintMore
open Go.Proofs.Ytiplichdhcmjdaa.P
set_option linter.unusedVariables false
set_option linter.unusedSimpArgs false

def fRe (i s : Nat) (ts : List (List Int)) : Int := (ts.getD i []).getD s 0
theorem fRe_at {ts : List (List Int)} {i s : Nat} {l : List Int} {x : Int} (h : ts[i]? = some l) (k : l[s]? = some x) : fRe i s ts = x := by
  unfold fRe
  rw [List.getD_eq_getElem?_getD, List.getD_eq_getElem?_getD, h]
  show (l[s]?).getD 0 = x
  rw [k]
  rfl
theorem fRe_q {V : Ev} {i s : Nat} (hs : s < V.ps.length) (h3 : V.ps.length ≤ 3) {t : List Bl} {b : Bl} (hb : t[i]? = some b) : fRe i s (t.map (tb V.ps.length)) = b.get s := fRe_at (l := tb V.ps.length b) (by rw [List.getElem?_map, hb]; rfl) (tb_at hs h3)
end Go.Proofs.Ytiplichdhcmjdaa.T
namespace Go.Proofs.Ytiplichdhcmjdaa.E
open Go.RowKit Go.Proofs.YtiplichdhcmjdaaW.PrintWords Go.Proofs.YtiplichdhcmjdaaW.PrintMore
open Go.Proofs.Ytiplichdhcmjdaa.T
set_option linter.unusedVariables false
set_option linter.unusedSimpArgs false
section
variable {P : Program} {w : World} {N fuel : Nat} {env : Env} {ops : Array Oper} {Q : Exit → Act → World → Prop} {S : World → Prop} {L : Array Bool}
/-- The operations by a name. -/
theorem GH.named (h : ∀ os R, os = ops → R = Q → GH P os R N S fuel L env w) : GH P ops Q N S fuel L env w := h _ _ rfl rfl
/-- A state that is told elsewhere. -/
theorem GH.meet {L' : Array Bool} {env' : Env} (h : GH P ops Q N S fuel L' env' w) (hL : L' = L) (hs : Sub env' env) : GH P ops Q N S fuel L env w := fun a ha hS => hL ▸ h a (ha.sub hs) hS
end
/-- Two rows are not the same block. -/
def Ap (u v : Value) : Prop := ∀ k, u.ownBlock = some k → v.ownBlock ≠ some k
theorem Ap.symm {u v : Value} (h : Ap u v) : Ap v u := fun k hk e => h k e hk
abbrev kJ : Kd Int := Kd.int .i64
/-- Three rows of numbers, each by itself. -/
structure Cb (bs : Nat) (W : World) (va vb vc : Value) (la lb lc : List Int) : Prop where
  a : Kd.R kJ 3 W bs (fun _ => True) va la
  b : Kd.R kJ 3 W bs (fun _ => True) vb lb
  c : Kd.R kJ 3 W bs (fun _ => True) vc lc
  ab : Ap va vb
  ac : Ap va vc
  bc : Ap vb vc
section
variable {b : Nat} {W w1 : World} {va vb vc u : Value} {la lb lc l : List Int}
theorem Cb.start (W : World) (b : Nat) : Cb b W (.slice none 0 0) (.slice none 0 0) (.slice none 0 0) [] [] [] := ⟨Kd.R_nil _ _ _ _ _, Kd.R_nil _ _ _ _ _, Kd.R_nil _ _ _ _ _, (fun k hk => by cases hk), (fun k hk => by cases hk), (fun k hk => by cases hk)⟩
theorem Cb.lower {b' : Nat} (h : Cb b W va vb vc la lb lc) (hb : b' ≤ b) : Cb b' W va vb vc la lb lc := ⟨Kd.R_lower h.a hb, Kd.R_lower h.b hb, Kd.R_lower h.c hb, h.ab, h.ac, h.bc⟩
theorem Cb.below (h : Cb b W va vb vc la lb lc) (l : Below W.heap.size W w1) : Cb b w1 va vb vc la lb lc := ⟨Kd.R_below h.a l, Kd.R_below h.b l, Kd.R_below h.c l, h.ab, h.ac, h.bc⟩
theorem Cb.s12 (h : Cb b W va vb vc la lb lc) : Cb b W vb va vc lb la lc := ⟨h.b, h.a, h.c, h.ab.symm, h.bc, h.ac⟩
theorem Cb.s13 (h : Cb b W va vb vc la lb lc) : Cb b W vc vb va lc lb la := ⟨h.c, h.b, h.a, h.bc.symm, h.ac.symm, h.ab.symm⟩
theorem ap_fresh {xs : List Int} (h : Kd.R kJ 3 W b (fun _ => True) vb xs) (n : ∃ k, u.ownBlock = some k ∧ W.heap.size ≤ k) : Ap u vb := fun k hk e => by
  obtain ⟨k', e', hle⟩ := n
  rw [e'] at hk
  cases hk
  have := Kd.R_lt h k e
  omega
theorem Cb.make (h : Cb b W va vb vc la lb lc) (r : Kd.R kJ 3 w1 b (fun _ => True) u l) (hl : Below W.heap.size W w1) (n : ∃ k, u.ownBlock = some k ∧ W.heap.size ≤ k) : Cb b w1 u vb vc l lb lc := ⟨r, Kd.R_below h.b hl, Kd.R_below h.c hl, ap_fresh h.b n, ap_fresh h.c n, h.bc⟩
theorem r_apart {xs : List Int} (h : Kd.R kJ 3 W b (fun _ => True) vb xs) (ha : Ap va vb) (g : W.grownBy w1 va.ownBlock) : Kd.R kJ 3 w1 b (fun _ => True) vb xs := by
  cases hv : va.ownBlock with
  | none => rw [hv] at g; exact Kd.R_below h (belowG g)
  | some k => rw [hv] at g; exact Kd.R_grown1 h rfl g (fun e => ha k hv e.symm)
theorem Cb.grow (h : Cb b W va vb vc la lb lc) (r : Kd.R kJ 3 w1 b (fun _ => True) u l) (g : W.grownBy w1 va.ownBlock) (n : u.ownBlock = va.ownBlock ∨ ∃ k, u.ownBlock = some k ∧ W.heap.size ≤ k) : Cb b w1 u vb vc l lb lc := by
  refine ⟨r, r_apart h.b h.ab g, r_apart h.c h.ac g, ?_, ?_, h.bc⟩
  · rcases n with n | n
    · exact fun k hk => h.ab k (n ▸ hk)
    · exact ap_fresh h.b n
  · rcases n with n | n
    · exact fun k hk => h.ac k (n ▸ hk)
    · exact ap_fresh h.c n
/-- A block of another type is written. -/
theorem Cb.over {g t : Nat} {cs : Array Value} (h : Cb b W va vb vc la lb lc) (hb : W.heap[g]? = some (.cells cs t (0, 0))) (ht : 3 ≠ t) (hg : W.grownBy w1 (some g)) : Cb b w1 va vb vc la lb lc :=
  ⟨Kd.R_grown1 h.a rfl hg (Kd.R_ne h.a hb ht), Kd.R_grown1 h.b rfl hg (Kd.R_ne h.b hb ht), Kd.R_grown1 h.c rfl hg (Kd.R_ne h.c hb ht), h.ab, h.ac, h.bc⟩
theorem Cb.rowed {α : Type} {d : Kd α} {e b' : Nat} {v : Value} {xs : List α} (h : Cb b W va vb vc la lb lc) (hv : d.R e W b' (fun _ => True) v xs) (ht : 3 ≠ e) (hg : W.grownBy w1 v.ownBlock) : Cb b w1 va vb vc la lb lc := by
  cases ho : v.ownBlock with
  | none => rw [ho] at hg; exact h.below (belowG hg)
  | some g =>
    obtain ⟨_, _, hh, _⟩ := hv
    obtain ⟨cs, hc⟩ := own_typed hh g ho
    rw [ho] at hg
    exact h.over hc ht hg
end
theorem apart_R {α β : Type} {d : Kd α} {d' : Kd β} {e e' base base' : Nat} {w : World} {v u : Value} {xs : List α} {ys : List β} (h : d.R e w base (fun _ => True) v xs) (hu : d'.R e' w base' (fun _ => True) u ys) (ht : ∀ q, q ∈ e :: d.E → q ≠ e') : d.R e w base (fun k => some k ≠ u.ownBlock) v xs := by
  obtain ⟨v', he, hr⟩ := M_row' h hu ht
  obtain rfl : v = v' := by simpa using he
  exact hr
theorem take_snoc {α : Type} {l : List α} {i : Nat} {c : α} (h : l[i]? = some c) : l.take i ++ [c] = l.take (i + 1) := by rw [List.take_add_one, h]; rfl
end Go.Proofs.Ytiplichdhcmjdaa.E
