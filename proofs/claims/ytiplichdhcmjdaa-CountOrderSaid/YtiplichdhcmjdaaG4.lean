/- Texts of this claim, put together: A14, E19, N10, A15, N11, A16, A17, A18, A19, A20, A21, E20, A22, A23, A24, B2, B3, B4, B5, B6, B7, B8, E21, B9, N12, E22, B10. -/
import Derived.Test.YtiplichdhcmjdaaG3
namespace Go.Proofs.Ytiplichdhcmjdaa.T
open Go.RowKit Go.Proofs.YtiplichdhcmjdaaW.PrintWords Go.Proofs.YtiplichdhcmjdaaW.PrintMore
open Go.Proofs.Ytiplichdhcmjdaa.P
set_option linter.unusedVariables false
set_option linter.unusedSimpArgs false

theorem open_ok {w : World} {V : Ev} {m : Ea} {p : Value} {Er : Int} (ok : VOk V) (h : OpenR w V m p Er) : ((∀ t, ¬ Truth V t) ∧ p = .pointer none ∧ Er = 3) ∨ (Er = 0 ∧ ∃ g C G D Ac Ab Aa cc cb ca F Fa, p = .pointer (some ⟨g, 0, none⟩) ∧ F V.cs.length (bl V.qs) ≠ none ∧ Op w V m g C G D Ac Ab Aa cc cb ca F Fa) := by
  rcases h with ⟨k, _⟩ | ⟨_, h⟩ | ⟨_, h⟩
  · exact absurd ok k
  · exact .inl h
  · exact .inr h
def mnL (q : Bl → Int) (x : Int) (l : List S69) : Int := l.foldl (fun a o => mn a (q o.b)) x
def mxL (q : Bl → Int) (x : Int) (l : List S69) : Int := l.foldl (fun a o => mx a (q o.b)) x
theorem mnL_step {q : Bl → Int} {x : Int} {l : List S69} {i : Nat} {o : S69} (ho : l[i]? = some o) : mnL q x (l.take (i + 1)) = mn (mnL q x (l.take i)) (q o.b) := by
  unfold mnL
  rw [List.take_add_one, ho, Option.toList_some, List.foldl_append]
  rfl
theorem mxL_step {q : Bl → Int} {x : Int} {l : List S69} {i : Nat} {o : S69} (ho : l[i]? = some o) : mxL q x (l.take (i + 1)) = mx (mxL q x (l.take i)) (q o.b) := by
  unfold mxL
  rw [List.take_add_one, ho, Option.toList_some, List.foldl_append]
  rfl
theorem mnL_is {q : Bl → Int} : ∀ (l : List S69) (x : Int), (mnL q x l = x ∨ ∃ o ∈ l, q o.b = mnL q x l) ∧ mnL q x l ≤ x ∧ ∀ o ∈ l, mnL q x l ≤ q o.b
  | [], x => ⟨.inl rfl, Int.le_refl _, fun o h => by cases h⟩
  | o :: l, x => by
    obtain ⟨h1, h2, h3⟩ := mnL_is (q := q) l (mn x (q o.b))
    have e : mnL q x (o :: l) = mnL q (mn x (q o.b)) l := rfl
    have hm : mn x (q o.b) = x ∨ mn x (q o.b) = q o.b := by unfold mn; split <;> simp
    have hle : mn x (q o.b) ≤ x ∧ mn x (q o.b) ≤ q o.b := by unfold mn; split <;> omega
    rw [e]
    refine ⟨?_, by omega, fun o' ho' => ?_⟩
    · rcases h1 with h1 | ⟨o', ho', h1⟩
      · rcases hm with hm | hm
        · exact .inl (h1.trans hm)
        · exact .inr ⟨o, List.mem_cons_self, by rw [h1, hm]⟩
      · exact .inr ⟨o', List.mem_cons_of_mem _ ho', h1⟩
    · rcases List.mem_cons.mp ho' with rfl | ho'
      · omega
      · exact h3 o' ho'
theorem mxL_is {q : Bl → Int} : ∀ (l : List S69) (x : Int), (mxL q x l = x ∨ ∃ o ∈ l, q o.b = mxL q x l) ∧ x ≤ mxL q x l ∧ ∀ o ∈ l, q o.b ≤ mxL q x l
  | [], x => ⟨.inl rfl, Int.le_refl _, fun o h => by cases h⟩
  | o :: l, x => by
    obtain ⟨h1, h2, h3⟩ := mxL_is (q := q) l (mx x (q o.b))
    have e : mxL q x (o :: l) = mxL q (mx x (q o.b)) l := rfl
    have hm : mx x (q o.b) = x ∨ mx x (q o.b) = q o.b := by unfold mx; split <;> simp
    have hle : x ≤ mx x (q o.b) ∧ q o.b ≤ mx x (q o.b) := by unfold mx; split <;> omega
    rw [e]
    refine ⟨?_, by omega, fun o' ho' => ?_⟩
    · rcases h1 with h1 | ⟨o', ho', h1⟩
      · rcases hm with hm | hm
        · exact .inl (h1.trans hm)
        · exact .inr ⟨o, List.mem_cons_self, by rw [h1, hm]⟩
      · exact .inr ⟨o', List.mem_cons_of_mem _ ho', h1⟩
    · rcases List.mem_cons.mp ho' with rfl | ho'
      · omega
      · exact h3 o' ho'
theorem errT_no {V : Ev} {till sh : Int} (h : ¬ VOk V) : errT V till sh = 100 := by unfold errT; rw [if_neg h]
theorem errT_arg {V : Ev} {till sh : Int} (h : VOk V) (k : ¬ ((0 ≤ till ∧ till ≤ (V.cs.length : Int) - 1) ∧ (0 ≤ sh ∧ sh ≤ (V.ps.length : Int) - 1))) : errT V till sh = 1 := by unfold errT; rw [if_pos h, if_neg k]
theorem errT_none {V : Ev} {till sh : Int} (h : VOk V) (k : (0 ≤ till ∧ till ≤ (V.cs.length : Int) - 1) ∧ (0 ≤ sh ∧ sh ≤ (V.ps.length : Int) - 1)) (n : ∀ t, ¬ Truth V t) : errT V till sh = 3 := by unfold errT; rw [if_pos h, if_pos k, if_neg (fun ⟨t, ht⟩ => n t ht)]
theorem errT_ok {V : Ev} {till sh : Int} (h : VOk V) (k : (0 ≤ till ∧ till ≤ (V.cs.length : Int) - 1) ∧ (0 ≤ sh ∧ sh ≤ (V.ps.length : Int) - 1)) {t : List Bl} (ht : Truth V t) : errT V till sh = 0 := by unfold errT; rw [if_pos h, if_pos k, if_pos ⟨t, ht⟩]
theorem loV_no {V : Ev} {till sh : Int} {q : Bl → Int} (h : errT V till sh ≠ 0) : loV V till sh q = 0 := by unfold loV; rw [if_neg h]
theorem hiV_no {V : Ev} {till sh : Int} {q : Bl → Int} (h : errT V till sh ≠ 0) : hiV V till sh q = 0 := by unfold hiV; rw [if_neg h]
theorem loV_ok {V : Ev} {till sh : Int} {q : Bl → Int} {m : Int} (h : errT V till sh = 0) (h1 : valP V till.toNat q m) (h2 : ∀ n, valP V till.toNat q n → m ≤ n) : loV V till sh q = m := by unfold loV; rw [if_pos h, mnI_eq h1 h2]
theorem hiV_ok {V : Ev} {till sh : Int} {q : Bl → Int} {m : Int} (h : errT V till sh = 0) (h1 : valP V till.toNat q m) (h2 : ∀ n, valP V till.toNat q n → n ≤ m) : hiV V till sh q = m := by unfold hiV; rw [if_pos h, mxI_eq h1 h2]
theorem span_ok {V : Ev} {till sh : Int} {q : Bl → Int} (ok : VOk V) (hi : till.toNat < V.cs.length) (h : errT V till sh = 0) {o0 : S69} {l : List S69} (hl : l = lkL V (fewN V) till.toNat (chs V (ct V till.toNat))) (h0 : o0 ∈ l) : loV V till sh q = mnL q (q o0.b) l ∧ hiV V till sh q = mxL q (q o0.b) l := by
  subst hl
  obtain ⟨a1, a2, a3⟩ := mnL_is (q := q) (lkL V (fewN V) till.toNat (chs V (ct V till.toNat))) (q o0.b)
  obtain ⟨b1, b2, b3⟩ := mxL_is (q := q) (lkL V (fewN V) till.toNat (chs V (ct V till.toNat))) (q o0.b)
  constructor
  · refine loV_ok h ((val_iff ok hi).mpr ?_) fun n hn => ?_
    · rcases a1 with a1 | a1
      · exact ⟨o0, h0, a1.symm⟩
      · exact a1
    · obtain ⟨o, ho, rfl⟩ := (val_iff ok hi).mp hn
      exact a3 o ho
  · refine hiV_ok h ((val_iff ok hi).mpr ?_) fun n hn => ?_
    · rcases b1 with b1 | b1
      · exact ⟨o0, h0, b1.symm⟩
      · exact b1
    · obtain ⟨o, ho, rfl⟩ := (val_iff ok hi).mp hn
      exact b3 o ho
set_option maxRecDepth 100000 in
theorem build34z (W : World) : (Instr.build 34 #[]).run Try.prog W = .ok (.agg #[.int .i64 0, .int .i64 0]) W := by
  have hu3 := Try.underlying3
  have hu34 := Try.underlying34
  go_simp
set_option maxRecDepth 100000 in
theorem build34 (a b : Int) (W : World) : (Instr.build 34 #[(0, .int .i64 a), (1, .int .i64 b)]).run Try.prog W = .ok (.agg #[.int .i64 a, .int .i64 b]) W := by
  have hu3 := Try.underlying3
  have hu34 := Try.underlying34
  go_simp
theorem info34c : (Try.prog.info? 34).map (·.size) = some (#[(.int .i64 0 : Value), .int .i64 0] : Array Value).size := by kernel_rfl
theorem four_oneS (a b c d : Int) : (#[.int .i64 a, .int .i64 b, .int .i64 c, .int .i64 d] : Array Value).all (·.oneCell') = true := by simp [Value.oneCell']
set_option maxRecDepth 100000 in
set_option maxHeartbeats 8000000 in

theorem bounds_calls (V : Ev) (m : Ea) (till sh : Int) (f : FuncId) (cap : List Value) (q : Bl → Int) (w : World) (hV : EvM w V m) (hs : Sz V) (hent : ∀ args W, (callFunc f args).run Try.prog W = .ok (.enter f args) W)
    (hof : ∀ (o : S69) (W : World), VOk V → ((0 ≤ till ∧ till ≤ (V.cs.length : Int) - 1) ∧ (0 ≤ sh ∧ sh ≤ (V.ps.length : Int) - 1)) → o ∈ chs V (ct V till.toNat) → Below w.heap.size w W → Calls Try.prog f ([Value.agg #[.int .i64 o.f0, .int .i64 o.f1, .int .i64 o.f2, .int .i64 o.f3]] ++ cap).toArray W fun e w' => e = .returned (.int .i64 (q o.b)) ∧ Below W.heap.size W w') :
    Calls Try.prog 51 #[hv V m, .int .i64 till, .int .i64 sh, .func (.func f) #[] cap.toArray] w fun e w' => e = .returned (.tuple #[.agg #[.int .i64 (loV V till sh q), .int .i64 (hiV V till sh q)], .int .i64 (errT V till sh)]) ∧ Below w.heap.size w w' := by
  have hsc := hs.c
  have hu3 := Try.underlying3
  have hu22 := Try.underlying22
  have hu23 := Try.underlying23
  have hu25 := Try.underlying25
  have hu28 := Try.underlying28
  have hu34 := Try.underlying34
  have hu69 := Try.underlying69
  have hu72 := Try.underlying72
  obtain ⟨z3, o3⟩ := info_some info3s (by decide)
  obtain ⟨z22, o22⟩ := info_some info22s (by decide)
  obtain ⟨z23, o23⟩ := info_some info23s (by decide)
  obtain ⟨z69, o69⟩ := info_some info69s (by decide)
  obtain ⟨z72, o72⟩ := info_some info72s (by decide)
  refine E.enter (N := 81) Try.func51 rfl Try.ntmps51 (args := [hv V m, .int .i64 till, .int .i64 sh, .func (.func f) #[] cap.toArray]) (by simp) ?_
  have L := Below.refl w.heap.size w
  refine E.CG.seq ?_
  refine E.CG.list ?_
  refine E.GL.st rfl rfl rfl (E.ST.box rfl rfl fun g4 w4 e4 b4 l4 => ?_)
  have h4_L : w.heap.size ≤ g4 := by rw [e4]; exact L.size
  replace L := below_step L l4
  refine E.GL.st rfl rfl rfl (E.ST.alloc rfl info34z fun g8 w8 e8 b8 l8 => ?_)
  have h8_L : w.heap.size ≤ g8 := by rw [e8]; exact L.size
  have n8_b4 : g4 ≠ g8 := by have := blk_lt b4; omega
  replace b4 := blk_below b4 l8
  replace L := below_step L l8
  refine E.GL.run rfl rfl rfl (E.Runs.assign rfl rfl) ?_
  refine E.GL.done ?_
  refine E.QG.code ?_
  refine E.CG.seq ?_
  refine E.CG.seq ?_
  refine E.CG.list ?_
  refine E.GL.run rfl rfl rfl (E.Runs.loads (cs := [.slice m.A V.ps.length m.a, .slice m.B V.qs.length m.b, .slice m.C V.ts.length m.c, .slice m.D V.cs.length m.d]) rfl rfl hu25 rfl info25s (blk_cells b4)) ?_
  refine E.GL.st rfl rfl rfl (E.ST.call rfl ent33 (E.evc rfl E.evn) ((check33 V m _ (hV.below L) hs).mono ?_))
  rintro e w17 ⟨rfl, l17⟩
  refine ⟨_, rfl, ?_⟩
  replace b4 := blk_below b4 l17
  replace b8 := blk_below b8 l17
  replace L := below_step L l17
  refine E.GL.cmpn rfl rfl rfl (fun _ h => (E.Runs.neq rfl rfl rfl h)) (fun h18 => ?_) (fun h18 => ?_)
  · refine E.GL.done ?_
    refine E.QG.code ?_
    refine E.CG.cond_t rfl ?_
    refine E.CG.seq ?_
    refine E.CG.list ?_
    refine E.GL.run rfl rfl rfl (E.Runs.build rfl E.epn build34z) ?_
    refine E.GL.store_whole rfl rfl rfl rfl rfl b8 rfl info34s (two_one _ _) fun wS2_1 c8 lS2_1 => ?_
    replace b4 := blk_grown b4 lS2_1 (E.nes (by first | assumption | exact Ne.symm (by assumption)))
    replace L := E.below_own L h8_L lS2_1
    replace b8 := c8
    clear c8
    refine E.GL.run rfl rfl rfl (E.Runs.assign rfl rfl) ?_
    refine E.GL.done ?_
    refine E.QG.code ?_
    refine E.CG.ret ?_
    refine E.QG.pass_ret ?_
    exact E.QG.result_ct rfl rfl b8 hu34 rfl info34c rfl ⟨by rw [loV_no (by rw [errT_no (fun k => h18 (chkV_yes k))]; decide), hiV_no (by rw [errT_no (fun k => h18 (chkV_yes k))]; decide), errT_no (fun k => h18 (chkV_yes k))], L⟩
  · have hok : VOk V := chkV_ok.mp (by omega)
    have hp3 := hok.n3
    refine E.GL.done ?_
    refine E.QG.code ?_
    refine E.CG.cond_f rfl ?_
    refine E.CG.skip ?_
    refine E.QG.code ?_
    refine E.CG.seq ?_
    refine E.CG.seq ?_
    refine E.CG.list ?_
    refine E.GL.run rfl rfl rfl (E.Runs.move rfl rfl) ?_
    refine E.GL.run rfl rfl rfl (E.Runs.fieldAddr rfl rfl hu25 rfl (by assumption) rfl) ?_
    refine E.GL.run rfl rfl rfl (E.Runs.load1 rfl rfl hu23 rfl (by first | assumption | exact E.blkc (by assumption) rfl | exact pw_cell_below L (by assumption))) ?_
    refine E.GL.run rfl rfl rfl (E.Runs.len rfl rfl hu23) ?_
    refine E.GL.run rfl rfl rfl (E.Runs.sub rfl rfl rfl (IntWalk.i64_in _ (by omega))) ?_
    by_cases h25 : inR till 0 ((V.cs.length : Int) - 1)
    · refine E.GL.st rfl rfl rfl (E.ST.call rfl ent67 (E.evc rfl (E.evc rfl (E.evc rfl E.evn))) ((within_o till 0 ((V.cs.length : Int) - 1) true (iff_of_true rfl h25) _).mono ?_))
      rintro e w25 ⟨rfl, l25⟩
      refine ⟨_, rfl, ?_⟩
      replace b4 := blk_below b4 l25
      replace b8 := blk_below b8 l25
      replace L := below_step L l25
      refine E.GL.run rfl rfl rfl (E.Runs.not rfl rfl) ?_
      refine E.GL.run rfl rfl rfl (E.Runs.move rfl rfl) ?_
      refine E.GL.run rfl rfl rfl (E.Runs.move rfl rfl) ?_
      refine E.GL.run rfl rfl rfl (E.Runs.fieldAddr rfl rfl hu25 rfl (by assumption) rfl) ?_
      refine E.GL.run rfl rfl rfl (E.Runs.load1 rfl rfl hu22 rfl (by first | assumption | exact E.blkc (by assumption) rfl | exact pw_cell_below L (by assumption))) ?_
      refine E.GL.run rfl rfl rfl (E.Runs.len rfl rfl hu22) ?_
      refine E.GL.run rfl rfl rfl (E.Runs.sub rfl rfl rfl (IntWalk.i64_in _ (by omega))) ?_
      by_cases h33 : inR sh 0 ((V.ps.length : Int) - 1)
      · have hT : (0 ≤ till ∧ till ≤ (V.cs.length : Int) - 1) ∧ (0 ≤ sh ∧ sh ≤ (V.ps.length : Int) - 1) := ⟨h25, h33⟩
        obtain ⟨tn, htn⟩ : ∃ n : Nat, till = n := ⟨till.toNat, by have := hT.1.1; omega⟩
        have htt : till.toNat = tn := by omega
        have hti : till.toNat < V.cs.length := by have := hT.1.2; omega
        refine E.GL.st rfl rfl rfl (E.ST.call rfl ent67 (E.evc rfl (E.evc rfl (E.evc rfl E.evn))) ((within_o sh 0 ((V.ps.length : Int) - 1) true (iff_of_true rfl h33) _).mono ?_))
        rintro e w33 ⟨rfl, l33⟩
        refine ⟨_, rfl, ?_⟩
        replace b4 := blk_below b4 l33
        replace b8 := blk_below b8 l33
        replace L := below_step L l33
        refine E.GL.run rfl rfl rfl (E.Runs.not rfl rfl) ?_
        refine E.GL.run rfl rfl rfl (E.Runs.pick_f rfl rfl rfl) ?_
        refine E.GL.done ?_
        refine E.QG.code ?_
        refine E.CG.cond_f rfl ?_
        refine E.CG.skip ?_
        refine E.QG.code ?_
        refine E.CG.seq ?_
        refine E.CG.list ?_
        refine E.GL.run rfl rfl rfl (E.Runs.loads (cs := [.slice m.A V.ps.length m.a, .slice m.B V.qs.length m.b, .slice m.C V.ts.length m.c, .slice m.D V.cs.length m.d]) rfl rfl hu25 rfl info25s (blk_cells b4)) ?_
        refine E.GL.st rfl rfl rfl (E.ST.call rfl ent49 (E.evc rfl E.evn) ((open_calls V m _ (hV.below L) hs).mono ?_))
        rintro e w39 ⟨p, Er, rfl, hO, l39⟩
        refine ⟨_, rfl, ?_⟩
        replace b4 := blk_below b4 l39
        replace b8 := blk_below b8 l39
        replace L := below_step L l39
        refine E.GL.run rfl rfl rfl (E.Runs.move rfl rfl) ?_
        refine E.GL.run rfl rfl rfl (E.Runs.extract rfl rfl rfl) ?_
        refine E.GL.run rfl rfl rfl (E.Runs.extract rfl rfl rfl) ?_
        refine E.GL.run rfl rfl rfl (E.Runs.assign rfl rfl) ?_
        refine E.GL.run rfl rfl rfl (E.Runs.assign rfl rfl) ?_
        refine E.GL.done ?_
        refine E.QG.code ?_
        refine E.CG.seq ?_
        refine E.CG.seq ?_
        refine E.CG.list ?_
        refine E.GL.run rfl rfl rfl (E.Runs.move rfl rfl) ?_
        obtain ⟨hno, rfl, rfl⟩ | ⟨rfl, g, C, G, D, Ac, Ab, Aa, cc, cb, ca, F, Fa, rfl, hF, hO⟩ := open_ok hok hO
        · refine E.GL.run rfl rfl rfl (E.Runs.neq rfl rfl rfl rfl) ?_
          refine E.GL.done ?_
          refine E.QG.code ?_
          refine E.CG.cond_t rfl ?_
          refine E.CG.seq ?_
          refine E.CG.list ?_
          refine E.GL.run rfl rfl rfl (E.Runs.build rfl E.epn build34z) ?_
          refine E.GL.run rfl rfl rfl (E.Runs.move rfl rfl) ?_
          refine E.GL.store_whole rfl rfl rfl rfl rfl b8 rfl info34s (two_one _ _) fun wS7_2 c8 lS7_2 => ?_
          replace b4 := blk_grown b4 lS7_2 (E.nes (by first | assumption | exact Ne.symm (by assumption)))
          replace L := E.below_own L h8_L lS7_2
          replace b8 := c8
          clear c8
          refine E.GL.run rfl rfl rfl (E.Runs.assign rfl rfl) ?_
          refine E.GL.done ?_
          refine E.QG.code ?_
          refine E.CG.ret ?_
          refine E.QG.pass_ret ?_
          exact E.QG.result_ct rfl rfl b8 hu34 rfl info34c rfl ⟨by rw [loV_no (by rw [errT_none hok hT hno]; decide), hiV_no (by rw [errT_none hok hT hno]; decide), errT_none hok hT hno] <;> rfl, L⟩
        · obtain ⟨N, hN0, hN⟩ := few_some (ok_b hO) hF (ok_a hO)
          obtain ⟨t0, ht0⟩ := hN.1
          have hfN := fewN_eq hN
          rw [← hfN] at hN hN0
          refine E.GL.run rfl rfl rfl (E.Runs.neq rfl rfl rfl rfl) ?_
          refine E.GL.done ?_
          refine E.QG.code ?_
          refine E.CG.cond_f rfl ?_
          refine E.CG.skip ?_
          refine E.QG.code ?_
          refine E.CG.seq ?_
          refine E.CG.list ?_
          refine E.GL.run rfl rfl rfl (E.Runs.move rfl rfl) ?_
          refine E.GL.run rfl rfl rfl (E.Runs.move rfl rfl) ?_
          refine E.GL.st rfl rfl rfl (E.ST.call rfl ent76 (E.evc rfl (E.evc (congrArg (fun t => some (Value.int .i64 t)) (show till = (till.toNat : Int) by omega)) E.evn)) ((likely_calls V m g _ hO hok (fewN V) hN0 hN till.toNat hti).mono ?_))
          rintro e w48 ⟨v48, rfl, R48, l48⟩
          refine ⟨_, rfl, ?_⟩
          replace b4 := blk_below b4 l48
          replace b8 := blk_below b8 l48
          replace L := below_step L l48
          have K := Below.refl w48.heap.size w48
          refine E.GL.run rfl rfl rfl (E.Runs.assign rfl rfl) ?_
          refine E.GL.done ?_
          refine E.QG.code ?_
          refine E.CG.seq ?_
          obtain ⟨A48, c48, rfl, _, hR48⟩ := Kd.R_reads R48
          have hlen : 0 < (lkL V (fewN V) till.toNat (chs V (ct V till.toNat))).length := lkL_pos hok hti ht0.1
          obtain ⟨o0, ho0⟩ := get_ex hlen
          obtain ⟨ao0, eO0, XO0⟩ := ch_at hR48 ho0
          have hm0 := List.mem_of_getElem? ho0
          have hl48 : (lkL V (fewN V) till.toNat (chs V (ct V till.toNat))).length ≤ 1000000 := by
            obtain ⟨c, hc⟩ := get_ex hti
            have hcl := chs_len hok (hok.c c (List.mem_of_getElem? hc))
            have := lkL_len V (fewN V) till.toNat (chs V (ct V till.toNat))
            rw [ct_of hc] at this
            rw [ct_of hc]
            omega
          refine E.CG.cut1 (fun (g13 : Nat) => [(3, .func (.func f) #[] cap.toArray), (4, .pointer (some ⟨g4, 0, none⟩)), (8, .pointer (some ⟨g8, 0, none⟩)), (12, .slice A48 (lkL V (fewN V) till.toNat (chs V (ct V till.toNat))).length c48), (13, .pointer (some ⟨g13, 0, none⟩))]) (fun g13 w' => w'.heap[g8]? = some (.cells #[.int .i64 0, .int .i64 0] 34 (0, 0)) ∧ w'.heap[g13]? = some (.cells #[.int .i64 (q o0.b), .int .i64 (q o0.b)] 34 (0, 0)) ∧ g8 ≠ g13 ∧ w48.heap.size ≤ g13 ∧ Below w48.heap.size w48 w') ?_ ?_
          · refine E.CG.heldH (none) (by kernel_rfl) fun v9 lD hh => ?_
            replace b4 := blk_below b4 lD
            replace b8 := blk_below b8 lD
            replace L := below_step L lD
            replace K := below_step K lD
            clear lD
            have s_b4 := b4
            have s_b8 := b8
            have s_L := L
            have s_K := K
            refine E.GH.take (i := 0) rfl (by kernel_rfl) (by kernel_rfl) (by kernel_rfl) E.calm_cut1 rfl rfl rfl (fun w' hS => (E.Runs.move rfl rfl)) ?_
            refine E.GH.take (i := 1) rfl (by kernel_rfl) (by kernel_rfl) (by kernel_rfl) E.calm_cut1 rfl rfl rfl (fun w' hS => (E.Runs.move rfl rfl)) ?_
            refine E.GH.take (i := 2) rfl (by kernel_rfl) (by kernel_rfl) (by kernel_rfl) E.calm_cut1 rfl rfl rfl (fun w' hS => (E.Runs.indexAddrA (i := 0) rfl rfl rfl hu72 z69 o69 (by omega) eO0 rfl)) ?_
            refine E.GH.take (i := 3) rfl (by kernel_rfl) (by kernel_rfl) (by kernel_rfl) E.calm_cut1 rfl rfl rfl (fun w' hS => (E.Runs.loads (cs := [.int .i64 o0.f0, .int .i64 o0.f1, .int .i64 o0.f2, .int .i64 o0.f3]) rfl rfl hu69 rfl info69s (fun j v hv => pw_cell_below (below_step s_K (E.belowG hS)) (XO0 j v hv)))) ?_
            refine E.GH.take (i := 5) rfl (by kernel_rfl) (by kernel_rfl) (by kernel_rfl) E.calm_cut1 rfl rfl rfl (fun w' hS => (E.Runs.move rfl rfl)) ?_
            refine E.GH.take (i := 6) rfl (by kernel_rfl) (by kernel_rfl) (by kernel_rfl) E.calm_cut1 rfl rfl rfl (fun w' hS => (E.Runs.move rfl rfl)) ?_
            refine E.GH.take (i := 7) rfl (by kernel_rfl) (by kernel_rfl) (by kernel_rfl) E.calm_cut1 rfl rfl rfl (fun w' hS => (E.Runs.indexAddrA (i := 0) rfl rfl rfl hu72 z69 o69 (by omega) eO0 rfl)) ?_
            refine E.GH.take (i := 8) rfl (by kernel_rfl) (by kernel_rfl) (by kernel_rfl) E.calm_cut1 rfl rfl rfl (fun w' hS => (E.Runs.loads (cs := [.int .i64 o0.f0, .int .i64 o0.f1, .int .i64 o0.f2, .int .i64 o0.f3]) rfl rfl hu69 rfl info69s (fun j v hv => pw_cell_below (below_step s_K (E.belowG hS)) (XO0 j v hv)))) ?_
            refine E.GH.all (rs := [4, 11]) (by kernel_rfl) (by simp) (E.GHs.cons rfl ?_ (E.GHs.cons rfl ?_ E.GHs.nil))
            · refine E.GO.st rfl rfl rfl (E.ST.callV (cap := cap) rfl hent rfl (E.evc rfl E.evn) ((hof o0 _ hok hT (lkL_mem.mp hm0).1 L).mono ?_))
              rintro e w53 ⟨rfl, l53⟩
              refine ⟨_, rfl, hh.trans (E.gbB l53), ?_⟩
              replace hh := hh.trans (E.gbB l53)
              replace b4 := blk_below b4 l53
              replace b8 := blk_below b8 l53
              replace L := below_step L l53
              replace K := below_step K l53
              refine E.GH.all (rs := [9, 11]) (by kernel_rfl) (by simp) (E.GHs.cons rfl ?_ (E.GHs.cons rfl ?_ E.GHs.nil))
              · refine E.GO.st rfl rfl rfl (E.ST.callV (cap := cap) rfl hent rfl (E.evc rfl E.evn) ((hof o0 _ hok hT (lkL_mem.mp hm0).1 L).mono ?_))
                rintro e w58 ⟨rfl, l58⟩
                refine ⟨_, rfl, hh.trans (E.gbB l58), ?_⟩
                replace hh := hh.trans (E.gbB l58)
                replace b4 := blk_below b4 l58
                replace b8 := blk_below b8 l58
                replace L := below_step L l58
                replace K := below_step K l58
                refine E.GH.take (i := 10) rfl (by kernel_rfl) (by kernel_rfl) (by kernel_rfl) E.calm_cut1 rfl rfl rfl (fun w' hS => (E.Runs.build rfl (E.epc rfl (E.epc rfl E.epn)) (build34 _ _))) ?_
                refine E.GH.one (i := 11) (by kernel_rfl) rfl ?_
                refine E.GO.st rfl rfl rfl (E.ST.alloc rfl info34z fun g13 w13 e13 b13 l13 => ⟨hh.trans (E.gbB l13), ?_⟩)
                have hh0 := hh
                replace hh := hh.trans (E.gbB l13)
                have h13_hh : v9.heap.size ≤ g13 := by rw [e13]; exact hh0.size
                have h13_L : w.heap.size ≤ g13 := by rw [e13]; exact L.size
                have h13_K : w48.heap.size ≤ g13 := by rw [e13]; exact K.size
                have n13_b4 : g4 ≠ g13 := by have := blk_lt b4; omega
                have n13_b8 : g8 ≠ g13 := by have := blk_lt b8; omega
                clear hh0
                replace b4 := blk_below b4 l13
                replace b8 := blk_below b8 l13
                replace L := below_step L l13
                replace K := below_step K l13
                refine E.GH.one (i := 12) (by kernel_rfl) rfl ?_
                refine E.GO.sn rfl rfl (E.ST.storeS (off := 0) (cells := [.int .i64 (q o0.b), .int .i64 (q o0.b)]) rfl rfl rfl b13 rfl info34s (two_one _ _) rfl fun wS9_12 c13 lS9_12 => ⟨E.gb_own hh h13_hh lS9_12, ?_⟩)
                replace hh := E.gb_own hh h13_hh lS9_12
                replace b4 := blk_grown b4 lS9_12 (E.nes (by first | assumption | exact Ne.symm (by assumption)))
                replace b8 := blk_grown b8 lS9_12 (E.nes (by first | assumption | exact Ne.symm (by assumption)))
                replace L := E.below_own L h13_L lS9_12
                replace K := E.below_own K h13_K lS9_12
                replace b13 := c13
                clear c13
                refine E.GH.done (by kernel_rfl) ?_
                exact E.QG.meet1 _ (E.subc rfl (E.subc rfl (E.subc rfl (E.subc rfl (E.subc rfl (E.subn)))))) ⟨b8, b13, n13_b8, h13_K, K⟩
              · refine E.GO.st rfl rfl rfl (E.ST.alloc rfl info34z fun g13 w13 e13 b13 l13 => ⟨hh.trans (E.gbB l13), ?_⟩)
                have hh0 := hh
                replace hh := hh.trans (E.gbB l13)
                have h13_hh : v9.heap.size ≤ g13 := by rw [e13]; exact hh0.size
                have h13_L : w.heap.size ≤ g13 := by rw [e13]; exact L.size
                have h13_K : w48.heap.size ≤ g13 := by rw [e13]; exact K.size
                have n13_b4 : g4 ≠ g13 := by have := blk_lt b4; omega
                have n13_b8 : g8 ≠ g13 := by have := blk_lt b8; omega
                clear hh0
                replace b4 := blk_below b4 l13
                replace b8 := blk_below b8 l13
                replace L := below_step L l13
                replace K := below_step K l13
                refine E.GH.one (i := 9) (by kernel_rfl) rfl ?_
                refine E.GO.st rfl rfl rfl (E.ST.callV (cap := cap) rfl hent rfl (E.evc rfl E.evn) ((hof o0 _ hok hT (lkL_mem.mp hm0).1 L).mono ?_))
                rintro e w58 ⟨rfl, l58⟩
                refine ⟨_, rfl, hh.trans (E.gbB l58), ?_⟩
                replace hh := hh.trans (E.gbB l58)
                replace b4 := blk_below b4 l58
                replace b8 := blk_below b8 l58
                replace b13 := blk_below b13 l58
                replace L := below_step L l58
                replace K := below_step K l58
                refine E.GH.take (i := 10) rfl (by kernel_rfl) (by kernel_rfl) (by kernel_rfl) E.calm_cut1 rfl rfl rfl (fun w' hS => (E.Runs.build rfl (E.epc rfl (E.epc rfl E.epn)) (build34 _ _))) ?_
                refine E.GH.one (i := 12) (by kernel_rfl) rfl ?_
                refine E.GO.sn rfl rfl (E.ST.storeS (off := 0) (cells := [.int .i64 (q o0.b), .int .i64 (q o0.b)]) rfl rfl rfl b13 rfl info34s (two_one _ _) rfl fun wS9_12 c13 lS9_12 => ⟨E.gb_own hh h13_hh lS9_12, ?_⟩)
                replace hh := E.gb_own hh h13_hh lS9_12
                replace b4 := blk_grown b4 lS9_12 (E.nes (by first | assumption | exact Ne.symm (by assumption)))
                replace b8 := blk_grown b8 lS9_12 (E.nes (by first | assumption | exact Ne.symm (by assumption)))
                replace L := E.below_own L h13_L lS9_12
                replace K := E.below_own K h13_K lS9_12
                replace b13 := c13
                clear c13
                refine E.GH.done (by kernel_rfl) ?_
                exact E.QG.meet1 _ (E.subc rfl (E.subc rfl (E.subc rfl (E.subc rfl (E.subc rfl (E.subn)))))) ⟨b8, b13, n13_b8, h13_K, K⟩
            · refine E.GO.st rfl rfl rfl (E.ST.alloc rfl info34z fun g13 w13 e13 b13 l13 => ⟨hh.trans (E.gbB l13), ?_⟩)
              have hh0 := hh
              replace hh := hh.trans (E.gbB l13)
              have h13_hh : v9.heap.size ≤ g13 := by rw [e13]; exact hh0.size
              have h13_L : w.heap.size ≤ g13 := by rw [e13]; exact L.size
              have h13_K : w48.heap.size ≤ g13 := by rw [e13]; exact K.size
              have n13_b4 : g4 ≠ g13 := by have := blk_lt b4; omega
              have n13_b8 : g8 ≠ g13 := by have := blk_lt b8; omega
              clear hh0
              replace b4 := blk_below b4 l13
              replace b8 := blk_below b8 l13
              replace L := below_step L l13
              replace K := below_step K l13
              refine E.GH.one (i := 4) (by kernel_rfl) rfl ?_
              refine E.GO.st rfl rfl rfl (E.ST.callV (cap := cap) rfl hent rfl (E.evc rfl E.evn) ((hof o0 _ hok hT (lkL_mem.mp hm0).1 L).mono ?_))
              rintro e w53 ⟨rfl, l53⟩
              refine ⟨_, rfl, hh.trans (E.gbB l53), ?_⟩
              replace hh := hh.trans (E.gbB l53)
              replace b4 := blk_below b4 l53
              replace b8 := blk_below b8 l53
              replace b13 := blk_below b13 l53
              replace L := below_step L l53
              replace K := below_step K l53
              refine E.GH.one (i := 9) (by kernel_rfl) rfl ?_
              refine E.GO.st rfl rfl rfl (E.ST.callV (cap := cap) rfl hent rfl (E.evc rfl E.evn) ((hof o0 _ hok hT (lkL_mem.mp hm0).1 L).mono ?_))
              rintro e w58 ⟨rfl, l58⟩
              refine ⟨_, rfl, hh.trans (E.gbB l58), ?_⟩
              replace hh := hh.trans (E.gbB l58)
              replace b4 := blk_below b4 l58
              replace b8 := blk_below b8 l58
              replace b13 := blk_below b13 l58
              replace L := below_step L l58
              replace K := below_step K l58
              refine E.GH.take (i := 10) rfl (by kernel_rfl) (by kernel_rfl) (by kernel_rfl) E.calm_cut1 rfl rfl rfl (fun w' hS => (E.Runs.build rfl (E.epc rfl (E.epc rfl E.epn)) (build34 _ _))) ?_
              refine E.GH.one (i := 12) (by kernel_rfl) rfl ?_
              refine E.GO.sn rfl rfl (E.ST.storeS (off := 0) (cells := [.int .i64 (q o0.b), .int .i64 (q o0.b)]) rfl rfl rfl b13 rfl info34s (two_one _ _) rfl fun wS9_12 c13 lS9_12 => ⟨E.gb_own hh h13_hh lS9_12, ?_⟩)
              replace hh := E.gb_own hh h13_hh lS9_12
              replace b4 := blk_grown b4 lS9_12 (E.nes (by first | assumption | exact Ne.symm (by assumption)))
              replace b8 := blk_grown b8 lS9_12 (E.nes (by first | assumption | exact Ne.symm (by assumption)))
              replace L := E.below_own L h13_L lS9_12
              replace K := E.below_own K h13_K lS9_12
              replace b13 := c13
              clear c13
              refine E.GH.done (by kernel_rfl) ?_
              exact E.QG.meet1 _ (E.subc rfl (E.subc rfl (E.subc rfl (E.subc rfl (E.subc rfl (E.subn)))))) ⟨b8, b13, n13_b8, h13_K, K⟩
          clear b4
          intro g13 w9 ⟨b8, b13, n13_b8, h13_K, K⟩
          refine E.QG.code ?_
          refine E.CG.seq ?_
          refine E.CG.seq ?_
          refine E.CG.list ?_
          refine E.GL.run rfl rfl rfl (E.Runs.move rfl rfl) ?_
          refine E.GL.run rfl rfl rfl (E.Runs.len rfl rfl hu72) ?_
          refine E.GL.run rfl rfl rfl (E.Runs.move rfl rfl) ?_
          refine E.GL.done ?_
          refine E.QG.code ?_
          refine E.CG.block ?_
          have s11_b8 := b8
          have s11_b13 := b13
          have s11_K := K
          refine E.CG.loop (fun (i : Nat) => [(3, .func (.func f) #[] cap.toArray), (8, .pointer (some ⟨g8, 0, none⟩)), (13, .pointer (some ⟨g13, 0, none⟩)), (60, .slice A48 (lkL V (fewN V) till.toNat (chs V (ct V till.toNat))).length c48), (61, .int .i64 (lkL V (fewN V) till.toNat (chs V (ct V till.toNat))).length), (62, .int .i64 i)]) (fun i w' => i ≤ (lkL V (fewN V) till.toNat (chs V (ct V till.toNat))).length ∧ w'.heap[g8]? = some (.cells #[.int .i64 0, .int .i64 0] 34 (0, 0)) ∧ w'.heap[g13]? = some (.cells #[.int .i64 (mnL q (q o0.b) ((lkL V (fewN V) till.toNat (chs V (ct V till.toNat))).take i)), .int .i64 (mxL q (q o0.b) ((lkL V (fewN V) till.toNat (chs V (ct V till.toNat))).take i))] 34 (0, 0)) ∧ Below w48.heap.size w48 w') (fun i => (lkL V (fewN V) till.toNat (chs V (ct V till.toNat))).length - i) 0 (E.subc rfl (E.subc rfl (E.subc rfl (E.subc rfl (E.subc rfl (E.subc rfl E.subn)))))) ⟨Nat.zero_le _, b8, b13, K⟩ ?_
          rintro i w11 ⟨hi, b8, b13, K⟩
          refine E.CG.seq ?_
          refine E.CG.list ?_
          refine E.GL.cmp rfl rfl rfl (fun _ h => (E.Runs.lss rfl rfl rfl h)) (fun h63 => ?_) (fun h63 => ?_)
          · obtain ⟨o, ho⟩ := get_ex (show i < (lkL V (fewN V) till.toNat (chs V (ct V till.toNat))).length by omega)
            obtain ⟨ao, eO, XO⟩ := ch_at hR48 ho
            have hom := List.mem_of_getElem? ho
            refine E.GL.done ?_
            refine E.QG.code ?_
            refine E.CG.seq ?_
            refine E.CG.cond_t rfl ?_
            refine E.CG.skip ?_
            refine E.QG.code ?_
            refine E.CG.seq ?_
            refine E.CG.block ?_
            refine E.CG.seq ?_
            refine E.CG.list ?_
            refine E.GL.run rfl rfl rfl (E.Runs.indexAddrA (i := i) rfl rfl rfl hu72 z69 o69 (by omega) eO rfl) ?_
            refine E.GL.run rfl rfl rfl (E.Runs.loads (cs := [.int .i64 o.f0, .int .i64 o.f1, .int .i64 o.f2, .int .i64 o.f3]) rfl rfl hu69 rfl info69s (fun j v hv => pw_cell_below K (XO j v hv))) ?_
            refine E.GL.st rfl rfl rfl (E.ST.alloc rfl info69z fun g15 w15 e15 b15 l15 => ?_)
            have h15_K : w48.heap.size ≤ g15 := by rw [e15]; exact K.size
            have n15_b8 : g8 ≠ g15 := by have := blk_lt b8; omega
            have n15_b13 : g13 ≠ g15 := by have := blk_lt b13; omega
            replace b8 := blk_below b8 l15
            replace b13 := blk_below b13 l15
            replace K := below_step K l15
            refine E.GL.store_whole rfl rfl rfl rfl rfl b15 rfl info69s (four_oneS _ _ _ _) fun wS12_3 c15 lS12_3 => ?_
            replace b8 := blk_grown b8 lS12_3 (E.nes (by first | assumption | exact Ne.symm (by assumption)))
            replace b13 := blk_grown b13 lS12_3 (E.nes (by first | assumption | exact Ne.symm (by assumption)))
            replace K := E.below_own K h15_K lS12_3
            replace b15 := c15
            clear c15
            refine E.GL.done ?_
            refine E.QG.code ?_
            refine E.CG.heldJ 13 (fun v W => v.grownBy W (none)) (fun _ _ => True) (by kernel_rfl) (by kernel_rfl) (fun v => World.grownBy.refl _ _) fun v13 lD => ?_
            replace b8 := blk_below b8 lD
            replace b13 := blk_below b13 lD
            replace b15 := blk_below b15 lD
            replace K := below_step K lD
            have lD13 := lD
            clear lD
            have s_b8 := b8
            have s_b13 := b13
            have s_b15 := b15
            have s_K := K
            have hh : v13.grownBy v13 (none) := World.grownBy.refl _ _
            refine E.GJ.take1 (i := 0) rfl (by kernel_rfl) (by kernel_rfl) (by kernel_rfl) (by kernel_rfl) rfl (by kernel_rfl) (by kernel_rfl) (by intro c a d v w h; first | (cases d <;> exact h) | exact nomatch (show _ ∧ _ from h).1) rfl rfl rfl (fun w' hS => (E.Runs.fieldAddr rfl rfl hu34 rfl (by assumption) rfl)) ?_
            refine E.GJ.take1 (i := 1) rfl (by kernel_rfl) (by kernel_rfl) (by kernel_rfl) (by kernel_rfl) rfl (by kernel_rfl) (by kernel_rfl) (by intro c a d v w h; first | (cases d <;> exact h) | exact nomatch (show _ ∧ _ from h).1) rfl rfl rfl (fun w' hS => (E.Runs.load rfl rfl hu3 (by first | exact E.keeps hS (E.blkc (by assumption) rfl) (by first | exact E.nen | exact E.nes (by assumption) | exact E.nes (Ne.symm (by assumption))) | exact pw_cell_below (below_step s_K (E.belowG hS)) (by assumption)))) ?_
            refine E.GJ.take1 (i := 2) rfl (by kernel_rfl) (by kernel_rfl) (by kernel_rfl) (by kernel_rfl) rfl (by kernel_rfl) (by kernel_rfl) (by intro c a d v w h; first | (cases d <;> exact h) | exact nomatch (show _ ∧ _ from h).1) rfl rfl rfl (fun w' hS => (E.Runs.move rfl rfl)) ?_
            refine E.GJ.take1 (i := 3) rfl (by kernel_rfl) (by kernel_rfl) (by kernel_rfl) (by kernel_rfl) rfl (by kernel_rfl) (by kernel_rfl) (by intro c a d v w h; first | (cases d <;> exact h) | exact nomatch (show _ ∧ _ from h).1) rfl rfl rfl (fun w' hS => (E.Runs.loads (cs := [.int .i64 o.f0, .int .i64 o.f1, .int .i64 o.f2, .int .i64 o.f3]) rfl rfl hu69 rfl info69s (blk_cells (blk_grown s_b15 hS E.nen)))) ?_
            refine E.GJ.take1 (i := 6) rfl (by kernel_rfl) (by kernel_rfl) (by kernel_rfl) (by kernel_rfl) rfl (by kernel_rfl) (by kernel_rfl) (by intro c a d v w h; first | (cases d <;> exact h) | exact nomatch (show _ ∧ _ from h).1) rfl rfl rfl (fun w' hS => (E.Runs.fieldAddr rfl rfl hu34 rfl (by assumption) rfl)) ?_
            refine E.GJ.take1 (i := 7) rfl (by kernel_rfl) (by kernel_rfl) (by kernel_rfl) (by kernel_rfl) rfl (by kernel_rfl) (by kernel_rfl) (by intro c a d v w h; first | (cases d <;> exact h) | exact nomatch (show _ ∧ _ from h).1) rfl rfl rfl (fun w' hS => (E.Runs.load rfl rfl hu3 (by first | exact E.keeps hS (E.blkc (by assumption) rfl) (by first | exact E.nen | exact E.nes (by assumption) | exact E.nes (Ne.symm (by assumption))) | exact pw_cell_below (below_step s_K (E.belowG hS)) (by assumption)))) ?_
            refine E.GJ.take1 (i := 8) rfl (by kernel_rfl) (by kernel_rfl) (by kernel_rfl) (by kernel_rfl) rfl (by kernel_rfl) (by kernel_rfl) (by intro c a d v w h; first | (cases d <;> exact h) | exact nomatch (show _ ∧ _ from h).1) rfl rfl rfl (fun w' hS => (E.Runs.move rfl rfl)) ?_
            refine E.GJ.take1 (i := 9) rfl (by kernel_rfl) (by kernel_rfl) (by kernel_rfl) (by kernel_rfl) rfl (by kernel_rfl) (by kernel_rfl) (by intro c a d v w h; first | (cases d <;> exact h) | exact nomatch (show _ ∧ _ from h).1) rfl rfl rfl (fun w' hS => (E.Runs.loads (cs := [.int .i64 o.f0, .int .i64 o.f1, .int .i64 o.f2, .int .i64 o.f3]) rfl rfl hu69 rfl info69s (blk_cells (blk_grown s_b15 hS E.nen)))) ?_
            refine E.GJ.one (i := 4) (by kernel_rfl) (E.OJ.st rfl rfl rfl rfl (E.ST.callV (cap := cap) rfl hent rfl (E.evc rfl E.evn) ((hof o _ hok hT (lkL_mem.mp hom).1 (below_step L K)).mono ?_)))
            rintro e w70 ⟨rfl, l70⟩
            refine ⟨_, rfl, (E.SJ.before (by kernel_rfl)).mpr (hh.trans (E.gbB l70)), ?_⟩
            replace hh := hh.trans (E.gbB l70)
            replace b8 := blk_below b8 l70
            replace b13 := blk_below b13 l70
            replace b15 := blk_below b15 l70
            replace K := below_step K l70
            refine E.GJ.take1 (i := 5) rfl (by kernel_rfl) (by kernel_rfl) (by kernel_rfl) (by kernel_rfl) rfl (by kernel_rfl) (by kernel_rfl) (by intro c a d v w h; first | (cases d <;> exact h) | exact nomatch (show _ ∧ _ from h).1) rfl rfl rfl (fun w' hS => (E.Runs.min rfl rfl rfl rfl)) ?_
            refine E.GJ.one (i := 10) (by kernel_rfl) (E.OJ.st rfl rfl rfl rfl (E.ST.callV (cap := cap) rfl hent rfl (E.evc rfl E.evn) ((hof o _ hok hT (lkL_mem.mp hom).1 (below_step L K)).mono ?_)))
            rintro e w76 ⟨rfl, l76⟩
            refine ⟨_, rfl, (E.SJ.before (by kernel_rfl)).mpr (hh.trans (E.gbB l76)), ?_⟩
            replace hh := hh.trans (E.gbB l76)
            replace b8 := blk_below b8 l76
            replace b13 := blk_below b13 l76
            replace b15 := blk_below b15 l76
            replace K := below_step K l76
            refine E.GJ.take1 (i := 11) rfl (by kernel_rfl) (by kernel_rfl) (by kernel_rfl) (by kernel_rfl) rfl (by kernel_rfl) (by kernel_rfl) (by intro c a d v w h; first | (cases d <;> exact h) | exact nomatch (show _ ∧ _ from h).1) rfl rfl rfl (fun w' hS => (E.Runs.max rfl rfl rfl rfl)) ?_
            refine E.GJ.take1 (i := 12) rfl (by kernel_rfl) (by kernel_rfl) (by kernel_rfl) (by kernel_rfl) rfl (by kernel_rfl) (by kernel_rfl) (by intro c a d v w h; first | (cases d <;> exact h) | exact nomatch (show _ ∧ _ from h).1) rfl rfl rfl (fun w' hS => (E.Runs.build rfl (E.epc rfl (E.epc rfl E.epn)) (build34 _ _))) ?_
            refine E.GJ.one (i := 13) (by kernel_rfl) (E.OJ.sn rfl rfl rfl (E.ST.storeS (off := 0) (cells := [.int .i64 (mn (mnL q (q o0.b) ((lkL V (fewN V) till.toNat (chs V (ct V till.toNat))).take i)) (q o.b)), .int .i64 (mx (mxL q (q o0.b) ((lkL V (fewN V) till.toNat (chs V (ct V till.toNat))).take i)) (q o.b))]) rfl rfl rfl b13 rfl info34s (two_one _ _) rfl fun wJ c13 lJ => ⟨(E.SJ.behind (by kernel_rfl)).mpr trivial, ?_⟩))
            replace b8 := blk_grown b8 lJ (E.nes (by first | assumption | exact Ne.symm (by assumption)))
            replace b15 := blk_grown b15 lJ (E.nes (by first | assumption | exact Ne.symm (by assumption)))
            replace K := E.below_own K h13_K lJ
            replace b13 := c13
            clear c13
            refine E.GJ.done (by kernel_rfl) ?_
            refine E.QG.block_normal ?_
            refine E.QG.code ?_
            refine E.CG.list ?_
            refine E.GL.run rfl rfl rfl (E.Runs.add rfl rfl rfl (IntWalk.i64_in _ (by omega))) ?_
            refine E.GL.run rfl rfl rfl (E.Runs.move rfl rfl) ?_
            refine E.GL.done ?_
            exact E.QG.round (i + 1) (E.subc rfl (E.subc rfl (E.subc rfl (E.subc rfl (E.subc rfl (E.subc rfl E.subn)))))) ⟨by omega, b8, by rw [mnL_step ho, mxL_step ho]; exact b13, K⟩ (by omega)
          · obtain rfl : i = (lkL V (fewN V) till.toNat (chs V (ct V till.toNat))).length := by omega
            refine E.GL.done ?_
            refine E.QG.code ?_
            refine E.CG.seq ?_
            refine E.CG.cond_f rfl ?_
            refine E.CG.exit ?_
            refine E.QG.pass_exit ?_
            refine E.QG.pass_exit ?_
            refine E.QG.block_here ?_
            refine E.QG.code ?_
            refine E.CG.seq ?_
            refine E.CG.list ?_
            refine E.GL.run rfl rfl rfl (E.Runs.loads (cs := [.int .i64 (mnL q (q o0.b) ((lkL V (fewN V) till.toNat (chs V (ct V till.toNat))).take (lkL V (fewN V) till.toNat (chs V (ct V till.toNat))).length)), .int .i64 (mxL q (q o0.b) ((lkL V (fewN V) till.toNat (chs V (ct V till.toNat))).take (lkL V (fewN V) till.toNat (chs V (ct V till.toNat))).length))]) rfl rfl hu34 rfl info34s (blk_cells b13)) ?_
            refine E.GL.store_whole rfl rfl rfl rfl rfl b8 rfl info34s (two_one _ _) fun wS15_1 c8 lS15_1 => ?_
            replace b13 := blk_grown b13 lS15_1 (E.nes (by first | assumption | exact Ne.symm (by assumption)))
            replace b8 := c8
            clear c8
            refine E.GL.run rfl rfl rfl (E.Runs.assign rfl rfl) ?_
            refine E.GL.done ?_
            refine E.QG.code ?_
            refine E.CG.ret ?_
            exact E.QG.result_ct rfl rfl b8 hu34 rfl info34c rfl ⟨by rw [List.take_length, (span_ok (q := q) hok hti (errT_ok hok hT ht0.1) rfl hm0).1, (span_ok (q := q) hok hti (errT_ok hok hT ht0.1) rfl hm0).2, errT_ok hok hT ht0.1], E.below_own (below_step L K) h8_L lS15_1⟩
      · refine E.GL.st rfl rfl rfl (E.ST.call rfl ent67 (E.evc rfl (E.evc rfl (E.evc rfl E.evn))) ((within_o sh 0 ((V.ps.length : Int) - 1) false (iff_of_false Bool.false_ne_true h33) _).mono ?_))
        rintro e w33 ⟨rfl, l33⟩
        refine ⟨_, rfl, ?_⟩
        replace b4 := blk_below b4 l33
        replace b8 := blk_below b8 l33
        replace L := below_step L l33
        refine E.GL.run rfl rfl rfl (E.Runs.not rfl rfl) ?_
        refine E.GL.run rfl rfl rfl (E.Runs.pick_f rfl rfl rfl) ?_
        refine E.GL.done ?_
        refine E.QG.code ?_
        refine E.CG.cond_t rfl ?_
        refine E.CG.seq ?_
        refine E.CG.list ?_
        refine E.GL.run rfl rfl rfl (E.Runs.build rfl E.epn build34z) ?_
        refine E.GL.store_whole rfl rfl rfl rfl rfl b8 rfl info34s (two_one _ _) fun wS4_1 c8 lS4_1 => ?_
        replace b4 := blk_grown b4 lS4_1 (E.nes (by first | assumption | exact Ne.symm (by assumption)))
        replace L := E.below_own L h8_L lS4_1
        replace b8 := c8
        clear c8
        refine E.GL.run rfl rfl rfl (E.Runs.assign rfl rfl) ?_
        refine E.GL.done ?_
        refine E.QG.code ?_
        refine E.CG.ret ?_
        refine E.QG.pass_ret ?_
        exact E.QG.result_ct rfl rfl b8 hu34 rfl info34c rfl ⟨by rw [loV_no (by rw [errT_arg hok (fun k => h33 k.2)]; decide), hiV_no (by rw [errT_arg hok (fun k => h33 k.2)]; decide), errT_arg hok (fun k => h33 k.2)], L⟩
    · refine E.GL.st rfl rfl rfl (E.ST.call rfl ent67 (E.evc rfl (E.evc rfl (E.evc rfl E.evn))) ((within_o till 0 ((V.cs.length : Int) - 1) false (iff_of_false Bool.false_ne_true h25) _).mono ?_))
      rintro e w25 ⟨rfl, l25⟩
      refine ⟨_, rfl, ?_⟩
      replace b4 := blk_below b4 l25
      replace b8 := blk_below b8 l25
      replace L := below_step L l25
      refine E.GL.run rfl rfl rfl (E.Runs.not rfl rfl) ?_
      refine E.GL.run rfl rfl rfl (E.Runs.move rfl rfl) ?_
      refine E.GL.skip rfl rfl rfl ?_
      refine E.GL.skip rfl rfl rfl ?_
      refine E.GL.skip rfl rfl rfl ?_
      refine E.GL.skip rfl rfl rfl ?_
      refine E.GL.skip rfl rfl rfl ?_
      refine E.GL.skip rfl rfl rfl ?_
      refine E.GL.skip rfl rfl rfl ?_
      refine E.GL.run rfl rfl rfl (E.Runs.pick_t rfl rfl rfl) ?_
      refine E.GL.done ?_
      refine E.QG.code ?_
      refine E.CG.cond_t rfl ?_
      refine E.CG.seq ?_
      refine E.CG.list ?_
      refine E.GL.run rfl rfl rfl (E.Runs.build rfl E.epn build34z) ?_
      refine E.GL.store_whole rfl rfl rfl rfl rfl b8 rfl info34s (two_one _ _) fun wS4_1 c8 lS4_1 => ?_
      replace b4 := blk_grown b4 lS4_1 (E.nes (by first | assumption | exact Ne.symm (by assumption)))
      replace L := E.below_own L h8_L lS4_1
      replace b8 := c8
      clear c8
      refine E.GL.run rfl rfl rfl (E.Runs.assign rfl rfl) ?_
      refine E.GL.done ?_
      refine E.QG.code ?_
      refine E.CG.ret ?_
      refine E.QG.pass_ret ?_
      exact E.QG.result_ct rfl rfl b8 hu34 rfl info34c rfl ⟨by rw [loV_no (by rw [errT_arg hok (fun k => h25 k.1)]; decide), hiV_no (by rw [errT_arg hok (fun k => h25 k.1)]; decide), errT_arg hok (fun k => h25 k.1)], L⟩

theorem chs_small {V : Ev} (ok : VOk V) {i : Nat} (hi : i < V.cs.length) {o : S69} (ho : o ∈ chs V (ct V i)) : SmallB o.b 20 := by
  obtain ⟨c, hc⟩ := get_ex hi
  have hct := ct_of hc
  have hcok := ok.c c (List.mem_of_getElem? hc)
  rw [← hct] at hcok
  obtain ⟨b, hb, rfl⟩ := (mem_chs ok.n1 ok.n3 hcok.2.2.2.2.2.2.2.1).mp ho
  exact way_small hb hcok.2.2.2.2.2.2.2.2
set_option maxRecDepth 100000 in
set_option maxHeartbeats 8000000 in

theorem clo52 (o : S69) (s : Int) (g : Nat) (w : World) (hs : 0 ≤ s ∧ s ≤ 2) (bg : w.heap[g]? = some (.cells #[.int .i64 s] 3 (0, 0))) :
    Calls Try.prog 52 #[.agg #[.int .i64 o.f0, .int .i64 o.f1, .int .i64 o.f2, .int .i64 o.f3], .pointer (some ⟨g, 0, none⟩)] w fun e w' => e = .returned (.int .i64 (o.b.get s.toNat)) ∧ Below w.heap.size w w' := by
  have hu3 := Try.underlying3
  have hu59 := Try.underlying59
  have hu69 := Try.underlying69
  obtain ⟨z3, o3⟩ := info_some info3s (by decide)
  obtain ⟨z59, o59⟩ := info_some info59s (by decide)
  refine E.enter (N := 8) Try.func52 rfl Try.ntmps52 (args := [.agg #[.int .i64 o.f0, .int .i64 o.f1, .int .i64 o.f2, .int .i64 o.f3], .pointer (some ⟨g, 0, none⟩)]) (by simp) ?_
  have L := Below.refl w.heap.size w
  refine E.CG.seq ?_
  refine E.CG.list ?_
  refine E.GL.st rfl rfl rfl (E.ST.box rfl rfl fun g2 w2 e2 b2 l2 => ?_)
  have h2_L : w.heap.size ≤ g2 := by rw [e2]; exact L.size
  have n2_bg : g ≠ g2 := by have := blk_lt bg; omega
  replace bg := blk_below bg l2
  replace L := below_step L l2
  refine E.GL.run rfl rfl rfl (E.Runs.assign rfl rfl) ?_
  refine E.GL.done ?_
  refine E.QG.code ?_
  refine E.CG.seq ?_
  refine E.CG.list ?_
  refine E.GL.run rfl rfl rfl (E.Runs.load rfl rfl hu3 (by first | assumption | exact E.blkc (by assumption) rfl | exact pw_cell_below L (by assumption))) ?_
  refine E.GL.run rfl rfl rfl (E.Runs.fieldAddr rfl rfl hu69 rfl (by assumption) rfl) ?_
  refine E.GL.run rfl rfl rfl (E.Runs.indexArr rfl rfl rfl hu59 z3 o3 (by omega) (by omega) (show Go.Addr.add (⟨g2, 0, none⟩ : Addr) (s.toNat * 1) = (⟨g2, s.toNat, none⟩ : Addr) from by rw [Go.Addr.add_mid]; simp)) ?_
  refine E.GL.run rfl rfl rfl (E.Runs.load rfl rfl hu3 (show w2.cell? ⟨g2, s.toNat, none⟩ = some (Value.int .i64 (o.b.get s.toNat)) from by have := mid69 b2 s.toNat _ (bc_get o.b (show s.toNat < 3 by omega)); rw [Go.Addr.add_mid] at this; simpa using this)) ?_
  refine E.GL.run rfl rfl rfl (E.Runs.assign rfl rfl) ?_
  refine E.GL.done ?_
  refine E.QG.code ?_
  refine E.CG.ret ?_
  exact E.QG.result rfl rfl ⟨rfl, L⟩

set_option maxRecDepth 100000 in
set_option maxHeartbeats 8000000 in

theorem really_calls (V : Ev) (m : Ea) (till sh : Int) (w : World) (hV : EvM w V m) (hs : Sz V) :
    Calls Try.prog 16 #[hv V m, .int .i64 till, .int .i64 sh] w fun e w' => e = .returned (.tuple #[.agg #[.int .i64 (loV V till sh (fun b => b.get sh.toNat)), .int .i64 (hiV V till sh (fun b => b.get sh.toNat))], .int .i64 (errT V till sh)]) ∧ Below w.heap.size w w' := by
  have hu3 := Try.underlying3
  have hu25 := Try.underlying25
  have hu34 := Try.underlying34
  refine E.enter (N := 15) Try.func16 rfl Try.ntmps16 (args := [hv V m, .int .i64 till, .int .i64 sh]) (by simp) ?_
  have L := Below.refl w.heap.size w
  refine E.CG.seq ?_
  refine E.CG.list ?_
  refine E.GL.st rfl rfl rfl (E.ST.box rfl rfl fun g3 w3 e3 b3 l3 => ?_)
  have h3_L : w.heap.size ≤ g3 := by rw [e3]; exact L.size
  replace L := below_step L l3
  refine E.GL.st rfl rfl rfl (E.ST.boxZ rfl rfl rfl fun g5 w5 e5 b5 l5 => ?_)
  have h5_L : w.heap.size ≤ g5 := by rw [e5]; exact L.size
  have n5_b3 : g3 ≠ g5 := by have := blk_lt b3; omega
  replace b3 := blk_below b3 l5
  replace L := below_step L l5
  refine E.GL.st rfl rfl rfl (E.ST.alloc rfl info34z fun g6 w6 e6 b6 l6 => ?_)
  have h6_L : w.heap.size ≤ g6 := by rw [e6]; exact L.size
  have n6_b3 : g3 ≠ g6 := by have := blk_lt b3; omega
  have n6_b5 : g5 ≠ g6 := by have := blk_lt b5; omega
  replace b3 := blk_below b3 l6
  replace b5 := blk_below b5 l6
  replace L := below_step L l6
  refine E.GL.run rfl rfl rfl (E.Runs.assign rfl rfl) ?_
  refine E.GL.done ?_
  refine E.QG.code ?_
  refine E.CG.seq ?_
  refine E.CG.list ?_
  refine E.GL.run rfl rfl rfl (E.Runs.loads (cs := [.slice m.A V.ps.length m.a, .slice m.B V.qs.length m.b, .slice m.C V.ts.length m.c, .slice m.D V.cs.length m.d]) rfl rfl hu25 rfl info25s (blk_cells b3)) ?_
  refine E.GL.run rfl rfl rfl (E.Runs.move rfl rfl) ?_
  refine E.GL.run rfl rfl rfl (E.Runs.load rfl rfl hu3 (by first | assumption | exact E.blkc (by assumption) rfl | exact pw_cell_below L (by assumption))) ?_
  refine E.GL.run rfl rfl rfl (E.Runs.makeFunc rfl (E.evc rfl E.evn)) ?_
  refine E.GL.st rfl rfl rfl (E.ST.call rfl ent51 (E.evc rfl (E.evc rfl (E.evc rfl (E.evc rfl E.evn)))) ((bounds_calls V m till sh 52 [.pointer (some ⟨g5, 0, none⟩)] (fun b => b.get sh.toNat) _ (hV.below L) hs ent52 (fun o W ok hT ho l => clo52 o sh g5 W ⟨hT.2.1, by have := ok.n3; have := hT.2.2; omega⟩ (blk_below b5 l))).mono ?_))
  rintro e w12 ⟨rfl, l12⟩
  refine ⟨_, rfl, ?_⟩
  replace b3 := blk_below b3 l12
  replace b5 := blk_below b5 l12
  replace b6 := blk_below b6 l12
  replace L := below_step L l12
  refine E.GL.run rfl rfl rfl (E.Runs.extract rfl rfl rfl) ?_
  refine E.GL.run rfl rfl rfl (E.Runs.extract rfl rfl rfl) ?_
  refine E.GL.store_whole rfl rfl rfl rfl rfl b6 rfl info34s (two_one _ _) fun wS1_7 c6 lS1_7 => ?_
  replace b3 := blk_grown b3 lS1_7 (E.nes (by first | assumption | exact Ne.symm (by assumption)))
  replace b5 := blk_grown b5 lS1_7 (E.nes (by first | assumption | exact Ne.symm (by assumption)))
  replace L := E.below_own L h6_L lS1_7
  replace b6 := c6
  clear c6
  refine E.GL.run rfl rfl rfl (E.Runs.assign rfl rfl) ?_
  refine E.GL.done ?_
  refine E.QG.code ?_
  refine E.CG.ret ?_
  exact E.QG.result_ct rfl rfl b6 hu34 rfl info34c rfl ⟨rfl, L⟩

set_option maxRecDepth 100000 in
set_option maxHeartbeats 8000000 in

theorem clo66 (V : Ev) (m : Ea) (o : S69) (i : Nat) (g1 g2 : Nat) (w : World) (hV : EvM w V m) (ok : VOk V) (hi : i < V.cs.length) (ho : SmallB o.b 20) (bg1 : w.heap[g1]? = some (.cells #[.slice m.A V.ps.length m.a, .slice m.B V.qs.length m.b, .slice m.C V.ts.length m.c, .slice m.D V.cs.length m.d] 25 (0, 0))) (bg2 : w.heap[g2]? = some (.cells #[.int .i64 i] 3 (0, 0))) :
    Calls Try.prog 66 #[.agg #[.int .i64 o.f0, .int .i64 o.f1, .int .i64 o.f2, .int .i64 o.f3], .pointer (some ⟨g1, 0, none⟩), .pointer (some ⟨g2, 0, none⟩)] w fun e w' => e = .returned (.int .i64 (due V (ct V i) o.b - (ct V i).f5)) ∧ Below w.heap.size w w' := by
  have hu3 := Try.underlying3
  have hu22 := Try.underlying22
  have hu23 := Try.underlying23
  have hu25 := Try.underlying25
  have hu40 := Try.underlying40
  have hu59 := Try.underlying59
  have hu69 := Try.underlying69
  obtain ⟨z3, o3⟩ := info_some info3s (by decide)
  obtain ⟨z22, o22⟩ := info_some info22s (by decide)
  obtain ⟨z23, o23⟩ := info_some info23s (by decide)
  obtain ⟨z25, o25⟩ := info_some info25s (by decide)
  obtain ⟨z40, o40⟩ := info_some info40s (by decide)
  obtain ⟨z59, o59⟩ := info_some info59s (by decide)
  obtain ⟨c, hc⟩ := get_ex hi
  have hct := ct_of hc
  have hcok := ok.c c (List.mem_of_getElem? hc)
  obtain ⟨ad, a0, k0, eA, _, hx0, X⟩ := till_at hV.cs hc
  have hsc := ok.sz.c
  have hf4 := hcok.2.2.2.2.1
  have hf5 := hcok.2.2.2.2.2.1
  have hw := worth_small ho ok.p
  refine E.enter (N := 22) Try.func66 rfl Try.ntmps66 (args := [.agg #[.int .i64 o.f0, .int .i64 o.f1, .int .i64 o.f2, .int .i64 o.f3], .pointer (some ⟨g1, 0, none⟩), .pointer (some ⟨g2, 0, none⟩)]) (by simp) ?_
  have L := Below.refl w.heap.size w
  refine E.CG.seq ?_
  refine E.CG.list ?_
  refine E.GL.st rfl rfl rfl (E.ST.box rfl rfl fun g3 w3 e3 b3 l3 => ?_)
  have h3_L : w.heap.size ≤ g3 := by rw [e3]; exact L.size
  have n3_bg1 : g1 ≠ g3 := by have := blk_lt bg1; omega
  have n3_bg2 : g2 ≠ g3 := by have := blk_lt bg2; omega
  replace bg1 := blk_below bg1 l3
  replace bg2 := blk_below bg2 l3
  replace L := below_step L l3
  refine E.GL.run rfl rfl rfl (E.Runs.assign rfl rfl) ?_
  refine E.GL.done ?_
  refine E.QG.code ?_
  refine E.CG.seq ?_
  refine E.CG.list ?_
  refine E.GL.run rfl rfl rfl (E.Runs.fieldAddr rfl rfl hu25 rfl (by assumption) rfl) ?_
  refine E.GL.run rfl rfl rfl (E.Runs.load1 rfl rfl hu23 rfl (by first | assumption | exact E.blkc (by assumption) rfl | exact pw_cell_below L (by assumption))) ?_
  refine E.GL.run rfl rfl rfl (E.Runs.load rfl rfl hu3 (by first | assumption | exact E.blkc (by assumption) rfl | exact pw_cell_below L (by assumption))) ?_
  refine E.GL.run rfl rfl rfl (E.Runs.indexAddrA (i := i) rfl rfl rfl hu23 z40 o40 (by omega) eA rfl) ?_
  refine E.GL.run rfl rfl rfl (E.Runs.loads (cs := [.slice a0 c.f0.length k0, .int .i64 c.f1, .int .i64 c.f2, .int .i64 c.f3, .int .i64 c.f4, .int .i64 c.f5]) rfl rfl hu40 rfl info40s (fun j v hv => pw_cell_below L (X j v hv))) ?_
  refine E.GL.st rfl rfl rfl (E.ST.alloc rfl info40z fun g5 w5 e5 b5 l5 => ?_)
  have h5_L : w.heap.size ≤ g5 := by rw [e5]; exact L.size
  have n5_bg1 : g1 ≠ g5 := by have := blk_lt bg1; omega
  have n5_bg2 : g2 ≠ g5 := by have := blk_lt bg2; omega
  have n5_b3 : g3 ≠ g5 := by have := blk_lt b3; omega
  replace bg1 := blk_below bg1 l5
  replace bg2 := blk_below bg2 l5
  replace b3 := blk_below b3 l5
  replace L := below_step L l5
  refine E.GL.store_whole rfl rfl rfl rfl rfl b5 rfl info40s (cells6_one _ _ _ _ _ _ _ _) fun wS1_6 c5 lS1_6 => ?_
  replace bg1 := blk_grown bg1 lS1_6 (E.nes (by first | assumption | exact Ne.symm (by assumption)))
  replace bg2 := blk_grown bg2 lS1_6 (E.nes (by first | assumption | exact Ne.symm (by assumption)))
  replace b3 := blk_grown b3 lS1_6 (E.nes (by first | assumption | exact Ne.symm (by assumption)))
  replace L := E.below_own L h5_L lS1_6
  replace b5 := c5
  clear c5
  refine E.GL.done ?_
  refine E.QG.code ?_
  refine E.CG.seq ?_
  refine E.CG.heldH (none) (by kernel_rfl) fun v2 lD hh => ?_
  replace bg1 := blk_below bg1 lD
  replace bg2 := blk_below bg2 lD
  replace b3 := blk_below b3 lD
  replace b5 := blk_below b5 lD
  replace L := below_step L lD
  clear lD
  have s_bg1 := bg1
  have s_bg2 := bg2
  have s_b3 := b3
  have s_b5 := b5
  have s_L := L
  refine E.GH.take (i := 0) rfl (by kernel_rfl) (by kernel_rfl) (by kernel_rfl) (by intro c a d v w h; first | (cases d <;> exact h) | exact nomatch (show _ ∧ _ from h).1) rfl rfl rfl (fun w' hS => (E.Runs.fieldAddr rfl rfl hu40 rfl (by assumption) rfl)) ?_
  refine E.GH.take (i := 1) rfl (by kernel_rfl) (by kernel_rfl) (by kernel_rfl) (by intro c a d v w h; first | (cases d <;> exact h) | exact nomatch (show _ ∧ _ from h).1) rfl rfl rfl (fun w' hS => (E.Runs.load rfl rfl hu3 (by first | exact E.keeps hS (E.blkc (by assumption) rfl) (by first | exact E.nen | exact E.nes (by assumption) | exact E.nes (Ne.symm (by assumption))) | exact pw_cell_below (below_step s_L (E.belowG hS)) (by assumption)))) ?_
  refine E.GH.take (i := 2) rfl (by kernel_rfl) (by kernel_rfl) (by kernel_rfl) (by intro c a d v w h; first | (cases d <;> exact h) | exact nomatch (show _ ∧ _ from h).1) rfl rfl rfl (fun w' hS => (E.Runs.fieldAddr rfl rfl hu69 rfl (by assumption) rfl)) ?_
  refine E.GH.take (i := 3) rfl (by kernel_rfl) (by kernel_rfl) (by kernel_rfl) (by intro c a d v w h; first | (cases d <;> exact h) | exact nomatch (show _ ∧ _ from h).1) rfl rfl rfl (fun w' hS => (E.Runs.loads (cs := [.int .i64 o.f0, .int .i64 o.f1, .int .i64 o.f2]) rfl rfl hu59 rfl info59s (mid69 (blk_grown s_b3 hS E.nen)))) ?_
  refine E.GH.take (i := 4) rfl (by kernel_rfl) (by kernel_rfl) (by kernel_rfl) (by intro c a d v w h; first | (cases d <;> exact h) | exact nomatch (show _ ∧ _ from h).1) rfl rfl rfl (fun w' hS => (E.Runs.fieldAddr rfl rfl hu25 rfl (by assumption) rfl)) ?_
  refine E.GH.take (i := 5) rfl (by kernel_rfl) (by kernel_rfl) (by kernel_rfl) (by intro c a d v w h; first | (cases d <;> exact h) | exact nomatch (show _ ∧ _ from h).1) rfl rfl rfl (fun w' hS => (E.Runs.load1 rfl rfl hu22 rfl (by first | exact E.keeps hS (E.blkc (by assumption) rfl) (by first | exact E.nen | exact E.nes (by assumption) | exact E.nes (Ne.symm (by assumption))) | exact pw_cell_below (below_step s_L (E.belowG hS)) (by assumption)))) ?_
  refine E.GH.take (i := 8) rfl (by kernel_rfl) (by kernel_rfl) (by kernel_rfl) (by intro c a d v w h; first | (cases d <;> exact h) | exact nomatch (show _ ∧ _ from h).1) rfl rfl rfl (fun w' hS => (E.Runs.fieldAddr rfl rfl hu40 rfl (by assumption) rfl)) ?_
  refine E.GH.take (i := 9) rfl (by kernel_rfl) (by kernel_rfl) (by kernel_rfl) (by intro c a d v w h; first | (cases d <;> exact h) | exact nomatch (show _ ∧ _ from h).1) rfl rfl rfl (fun w' hS => (E.Runs.load rfl rfl hu3 (by first | exact E.keeps hS (E.blkc (by assumption) rfl) (by first | exact E.nen | exact E.nes (by assumption) | exact E.nes (Ne.symm (by assumption))) | exact pw_cell_below (below_step s_L (E.belowG hS)) (by assumption)))) ?_
  refine E.GH.one (i := 6) (by kernel_rfl) rfl ?_
  refine E.GO.st rfl rfl rfl (E.ST.call rfl ent47 (E.evc rfl (E.evc rfl E.evn)) ((worth_calls o.b V.ps m.A m.a _ (hV.below L).ps ok.n3 (fun x hx => by have := ok.p x hx; omega) (ho.up (by decide))).mono ?_))
  rintro e w17 ⟨rfl, l17⟩
  refine ⟨_, rfl, hh.trans (E.gbB l17), ?_⟩
  replace hh := hh.trans (E.gbB l17)
  replace bg1 := blk_below bg1 l17
  replace bg2 := blk_below bg2 l17
  replace b3 := blk_below b3 l17
  replace b5 := blk_below b5 l17
  replace L := below_step L l17
  refine E.GH.take (i := 7) rfl (by kernel_rfl) (by kernel_rfl) (by kernel_rfl) (by intro c a d v w h; first | (cases d <;> exact h) | exact nomatch (show _ ∧ _ from h).1) rfl rfl rfl (fun w' hS => (E.Runs.add rfl rfl rfl (IntWalk.i64_in _ (by omega)))) ?_
  refine E.GH.take (i := 10) rfl (by kernel_rfl) (by kernel_rfl) (by kernel_rfl) (by intro c a d v w h; first | (cases d <;> exact h) | exact nomatch (show _ ∧ _ from h).1) rfl rfl rfl (fun w' hS => (E.Runs.sub rfl rfl rfl (IntWalk.i64_in _ (by omega)))) ?_
  refine E.GH.take (i := 11) rfl (by kernel_rfl) (by kernel_rfl) (by kernel_rfl) (by intro c a d v w h; first | (cases d <;> exact h) | exact nomatch (show _ ∧ _ from h).1) rfl rfl rfl (fun w' hS => (E.Runs.assign rfl rfl)) ?_
  refine E.GH.done (by kernel_rfl) ?_
  refine E.QG.code ?_
  refine E.CG.ret ?_
  exact E.QG.result rfl rfl ⟨by rw [hct]; rfl, L⟩

set_option maxRecDepth 100000 in
set_option maxHeartbeats 8000000 in

theorem missing_calls (V : Ev) (m : Ea) (till : Int) (w : World) (hV : EvM w V m) (hs : Sz V) :
    Calls Try.prog 31 #[hv V m, .int .i64 till] w fun e w' => e = .returned (.tuple #[.agg #[.int .i64 (loV V till 0 (lackQ V till)), .int .i64 (hiV V till 0 (lackQ V till))], .int .i64 (errT V till 0)]) ∧ Below w.heap.size w w' := by
  have hu3 := Try.underlying3
  have hu25 := Try.underlying25
  have hu34 := Try.underlying34
  refine E.enter (N := 12) Try.func31 rfl Try.ntmps31 (args := [hv V m, .int .i64 till]) (by simp) ?_
  have L := Below.refl w.heap.size w
  refine E.CG.seq ?_
  refine E.CG.list ?_
  refine E.GL.st rfl rfl rfl (E.ST.box rfl rfl fun g2 w2 e2 b2 l2 => ?_)
  have h2_L : w.heap.size ≤ g2 := by rw [e2]; exact L.size
  replace L := below_step L l2
  refine E.GL.st rfl rfl rfl (E.ST.boxZ rfl rfl rfl fun g3 w3 e3 b3 l3 => ?_)
  have h3_L : w.heap.size ≤ g3 := by rw [e3]; exact L.size
  have n3_b2 : g2 ≠ g3 := by have := blk_lt b2; omega
  replace b2 := blk_below b2 l3
  replace L := below_step L l3
  refine E.GL.st rfl rfl rfl (E.ST.alloc rfl info34z fun g4 w4 e4 b4 l4 => ?_)
  have h4_L : w.heap.size ≤ g4 := by rw [e4]; exact L.size
  have n4_b2 : g2 ≠ g4 := by have := blk_lt b2; omega
  have n4_b3 : g3 ≠ g4 := by have := blk_lt b3; omega
  replace b2 := blk_below b2 l4
  replace b3 := blk_below b3 l4
  replace L := below_step L l4
  refine E.GL.run rfl rfl rfl (E.Runs.assign rfl rfl) ?_
  refine E.GL.done ?_
  refine E.QG.code ?_
  refine E.CG.seq ?_
  refine E.CG.list ?_
  refine E.GL.run rfl rfl rfl (E.Runs.loads (cs := [.slice m.A V.ps.length m.a, .slice m.B V.qs.length m.b, .slice m.C V.ts.length m.c, .slice m.D V.cs.length m.d]) rfl rfl hu25 rfl info25s (blk_cells b2)) ?_
  refine E.GL.run rfl rfl rfl (E.Runs.load rfl rfl hu3 (by first | assumption | exact E.blkc (by assumption) rfl | exact pw_cell_below L (by assumption))) ?_
  refine E.GL.run rfl rfl rfl (E.Runs.makeFunc rfl (E.evc rfl (E.evc rfl E.evn))) ?_
  refine E.GL.st rfl rfl rfl (E.ST.call rfl ent51 (E.evc rfl (E.evc rfl (E.evc rfl (E.evc rfl E.evn)))) ((bounds_calls V m till 0 66 [.pointer (some ⟨g2, 0, none⟩), .pointer (some ⟨g3, 0, none⟩)] (lackQ V till) _ (hV.below L) hs ent66 (fun o W ok hT ho l => clo66 V m o till.toNat g2 g3 W ((hV.below L).below l) ok (by have := hT.1; omega) (chs_small ok (by have := hT.1; omega) ho) (blk_below b2 l) (by rw [Int.toNat_of_nonneg hT.1.1]; exact blk_below b3 l))).mono ?_))
  rintro e w9 ⟨rfl, l9⟩
  refine ⟨_, rfl, ?_⟩
  replace b2 := blk_below b2 l9
  replace b3 := blk_below b3 l9
  replace b4 := blk_below b4 l9
  replace L := below_step L l9
  refine E.GL.run rfl rfl rfl (E.Runs.extract rfl rfl rfl) ?_
  refine E.GL.run rfl rfl rfl (E.Runs.extract rfl rfl rfl) ?_
  refine E.GL.store_whole rfl rfl rfl rfl rfl b4 rfl info34s (two_one _ _) fun wS1_6 c4 lS1_6 => ?_
  replace b2 := blk_grown b2 lS1_6 (E.nes (by first | assumption | exact Ne.symm (by assumption)))
  replace b3 := blk_grown b3 lS1_6 (E.nes (by first | assumption | exact Ne.symm (by assumption)))
  replace L := E.below_own L h4_L lS1_6
  replace b4 := c4
  clear c4
  refine E.GL.run rfl rfl rfl (E.Runs.assign rfl rfl) ?_
  refine E.GL.done ?_
  refine E.QG.code ?_
  refine E.CG.ret ?_
  exact E.QG.result_ct rfl rfl b4 hu34 rfl info34c rfl ⟨rfl, L⟩

end Go.Proofs.Ytiplichdhcmjdaa.T
namespace Go.Proofs.Ytiplichdhcmjdaa.E
open Go.RowKit Go.Proofs.YtiplichdhcmjdaaW.PrintWords Go.Proofs.YtiplichdhcmjdaaW.PrintMore
open Go.Proofs.Ytiplichdhcmjdaa.T
set_option linter.unusedVariables false
set_option linter.unusedSimpArgs false
section
variable {P : Program} {w w' : World} {N : Nat} {env : Env} {o : Oper} {Q : Exit → Act → World → Prop} {K : Value → World → Prop}
/-- append(v, x), x a row of our own: behind the making of the variadic's slice. -/
theorem ST.appendR {α : Type} (d : Kd α) {w0 : World} (base : Nat) {W : World} {s x : Operand} {t e : TypeId} {z : Value} {bytes : Nat}
    (ho : o.op = .call { callee := .builtin .append, args := #[s, x], argTypes := #[t, t] })
    (ht : P.underlying t = some (.slice e)) (hinfo : (P.info? e).map (fun i => (i.zero, i.size, i.bytes)) = some (some z, d.sz, bytes)) (hz : z.cells.size = d.sz) (hs0 : 0 < d.sz) (hb0 : 0 < bytes)
    {v : Value} {xs : List α} (p : α) {cs : List Value} (hs : Ev env s v) (hx : Ev env x (.slice (some ⟨W.heap.size, 0, none⟩) 1 1)) (hp : d.M W base (fun k => some k ≠ v.ownBlock) p cs)
    (HO : d.R e W base (fun _ => True) v xs) (HB : Below base w0 W) (hbase : base ≤ W.heap.size) (hl : (xs.length + 1) * bytes ≤ 140737488355328)
    (h : ∀ v1 w1, d.R e w1 base (fun _ => True) v1 (xs ++ [p]) → Below base w0 w1 → W.grownBy w1 v.ownBlock → (v1.ownBlock = v.ownBlock ∨ ∃ k, v1.ownBlock = some k ∧ W.heap.size ≤ k) → K v1 w1) : ST P Q N env (W.alloc (.cells cs.toArray e)) o K := by
  intro a ha Kc hK
  have h0 : Region.wanted { o with guard := none } (yielded #[] a.tmps) = true := rfl
  have := Kd.R_append_step (P := P) (ops := #[]) (o := { o with guard := none }) (a := a) (Q := Q) (Kc := Kc) d base h0 s x t e z bytes ho ht hinfo hz hs0 hb0 v xs p cs (fun _ => True) (fun k => some k ≠ v.ownBlock) (ha.eval hs) (ha.eval hx) hp (fun _ hk => ⟨trivial, hk⟩) (fun _ _ => trivial) HO HB hbase hl (fun v1 w1 h1 h2 h3 h4 => hK _ _ (h v1 w1 h1 h2 h3 h4))
  rw [if_pos h0] at this
  exact this
/-- append(v, x...), x's elements rows of our own. -/
theorem ST.appendRowsR {α : Type} (d : Kd α) {w0 W : World} (base : Nat) {s x : Operand} {t e : TypeId} {z : Value} {bytes : Nat}
    (ho : o.op = .call { callee := .builtin .append, args := #[s, x], argTypes := #[t, t] })
    (ht : P.underlying t = some (.slice e)) (hinfo : (P.info? e).map (fun i => (i.zero, i.size, i.bytes)) = some (some z, d.sz, bytes)) (hz : z.cells.size = d.sz) (hs0 : 0 < d.sz) (hb0 : 0 < bytes)
    {v : Value} {xs ys : List α} {A : Option Addr} {m c : Nat} (hs : Ev env s v) (hx : Ev env x (.slice A m c))
    (HO : d.R e W base (fun _ => True) v xs) (HR : ReadsRow (d.M W base (fun k => some k ≠ v.ownBlock)) d.sz W A m ys)
    (HB : Below base w0 W) (hbase : base ≤ W.heap.size) (hl : (xs.length + m) * bytes ≤ 140737488355328)
    (h : ∀ v1 w1, d.R e w1 base (fun _ => True) v1 (xs ++ ys) → Below base w0 w1 → W.grownBy w1 v.ownBlock → (v1.ownBlock = v.ownBlock ∨ ∃ k, v1.ownBlock = some k ∧ W.heap.size ≤ k) → K v1 w1) : ST P Q N env W o K := by
  intro a ha Kc hK
  have h0 : Region.wanted { o with guard := none } (yielded #[] a.tmps) = true := rfl
  have := Kd.R_append_rows_step (P := P) (ops := #[]) (o := { o with guard := none }) (a := a) (Q := Q) (Kc := Kc) d base h0 s x t e z bytes ho ht hinfo hz hs0 hb0 v xs ys A m c (fun _ => True) (fun k => some k ≠ v.ownBlock) (ha.eval hs) (ha.eval hx) HO HR (fun _ _ h => h) (fun _ hk => ⟨trivial, hk⟩) (fun _ _ => trivial) HB hbase hl (fun v1 w1 h1 h2 h3 h4 => hK _ _ (h v1 w1 h1 h2 h3 h4))
  rw [if_pos h0] at this
  exact this
end
/-- A block of another type has been written. -/
theorem R_over {α : Type} {d : Kd α} {e base g t : Nat} {w w1 : World} {v : Value} {xs : List α} {cs : Array Value} (h : d.R e w base (fun _ => True) v xs) (hb : w.heap[g]? = some (.cells cs t (0, 0))) (ht : ∀ q, q ∈ e :: d.E → q ≠ t) (hg : w.grownBy w1 (some g)) : d.R e w1 base (fun _ => True) v xs :=
  Kd.R_mono (Kd.R_grown (Kd.R_types h hb ht) hg (fun k hk q => hk.2 (Option.some.inj q))) (fun _ _ => trivial)
/-- Another row has been written, whose elements are of another type. -/
theorem R_over' {α β : Type} {d : Kd α} {d' : Kd β} {e e' base base' : Nat} {w w1 : World} {v u : Value} {xs : List α} {ys : List β} (h : d.R e w base (fun _ => True) v xs) (hu : d'.R e' w base' (fun _ => True) u ys) (ht : ∀ q, q ∈ e :: d.E → q ≠ e') (hg : w.grownBy w1 u.ownBlock) : d.R e w1 base (fun _ => True) v xs := by
  cases hu' : u.ownBlock with
  | none => rw [hu'] at hg; exact Kd.R_below h (belowG hg)
  | some g =>
    obtain ⟨_, _, ho, _⟩ := hu
    obtain ⟨cs, hc⟩ := own_typed ho g hu'
    rw [hu'] at hg
    exact R_over h hc ht hg
/-- An own row as an element, none of its blocks another row's. -/
theorem M_row' {α β : Type} {d : Kd α} {d' : Kd β} {e e' base base' : Nat} {w : World} {v u : Value} {xs : List α} {ys : List β} (h : d.R e w base (fun _ => True) v xs) (hu : d'.R e' w base' (fun _ => True) u ys) (ht : ∀ q, q ∈ e :: d.E → q ≠ e') : (Kd.slice e d).M w base (fun k => some k ≠ u.ownBlock) xs [v] := by
  refine ⟨v, rfl, ?_⟩
  cases hu' : u.ownBlock with
  | none => exact Kd.R_mono h (fun _ _ e => by cases e)
  | some g =>
    obtain ⟨_, _, ho, _⟩ := hu
    obtain ⟨cs, hc⟩ := own_typed ho g hu'
    exact Kd.R_mono (Kd.R_types h hc ht) (fun k hk q => hk.2 (Option.some.inj q))
end Go.Proofs.Ytiplichdhcmjdaa.E
namespace Go.Proofs.Ytiplichdhcmjdaa.T
open Go.RowKit Go.Proofs.YtiplichdhcmjdaaW.PrintWords Go.Proofs.YtiplichdhcmjdaaW.PrintMore
open Go.Proofs.Ytiplichdhcmjdaa.P
set_option linter.unusedVariables false
set_option linter.unusedSimpArgs false
/-- The first tickets of a bill. -/
def tb (n : Nat) (b : Bl) : List Int := [b.f0, b.f1, b.f2].take n
theorem tb_len {n : Nat} (h : n ≤ 3) (b : Bl) : (tb n b).length = n := by unfold tb; rw [List.length_take]; show min n 3 = n; omega
theorem tb_bl {n : Nat} {r : Int} {b : Bl} (h1 : 1 ≤ n) (h3 : n ≤ 3) (hw : Way n r b) : bl (tb n b) = b := by
  obtain ⟨_, _, _, q1, q2, _⟩ := hw
  have hc : n = 1 ∨ n = 2 ∨ n = 3 := by omega
  rcases hc with rfl | rfl | rfl
  · exact Bl.ext' rfl (q1 (by omega)).symm (q2 (by omega)).symm
  · exact Bl.ext' rfl rfl (q2 (by omega)).symm
  · rfl
theorem tb_at {n : Nat} {b : Bl} {s : Nat} (hs : s < n) (h3 : n ≤ 3) : (tb n b)[s]? = some (b.get s) := by
  unfold tb
  rw [List.getElem?_take_of_lt hs]
  have : s = 0 ∨ s = 1 ∨ s = 2 := by omega
  rcases this with rfl | rfl | rfl <;> rfl
theorem bl_tb {l : List Int} (h : l.length ≤ 3) : tb l.length (bl l) = l := by
  rcases l with _ | ⟨a, _ | ⟨b, _ | ⟨c, _ | ⟨d, l⟩⟩⟩⟩
  · rfl
  · rfl
  · rfl
  · rfl
  · simp at h
theorem rl_20 {V : Ev} (ok : VOk V) {i : Nat} (hi : i < V.cs.length) : rl (ct V i) ≤ 20 := by
  obtain ⟨c, hc⟩ := get_ex hi
  rw [ct_of hc]
  exact (ok.c c (List.mem_of_getElem? hc)).2.2.2.2.2.2.2.2
theorem rl_0 {V : Ev} (ok : VOk V) {i : Nat} (hi : i < V.cs.length) : 0 ≤ rl (ct V i) := by
  obtain ⟨c, hc⟩ := get_ex hi
  rw [ct_of hc]
  exact (ok.c c (List.mem_of_getElem? hc)).2.2.2.2.2.2.2.1
/-- Rows of numbers, a row of our own. -/
abbrev kR : Kd (List Int) := Kd.slice 3 kI
structure RR (b : Nat) (w : World) (v : Value) (ts : List (List Int)) : Prop where
  r : Kd.R kR 22 w b (fun _ => True) v ts
theorem RR.below {b : Nat} {w w' : World} {v : Value} {ts : List (List Int)} (h : RR b w v ts) (l : Below w.heap.size w w') : RR b w' v ts := ⟨Kd.R_below h.r l⟩
theorem RR.grown {b : Nat} {w w' : World} {v : Value} {ts : List (List Int)} {g : Nat} (h : RR b w v ts) (hg : w.grownBy w' (some g)) (p : ∃ cs t, w.heap[g]? = some (.cells cs t (0, 0)) ∧ 22 ≠ t ∧ 3 ≠ t) : RR b w' v ts := by
  obtain ⟨cs, t, hb, h1, h2⟩ := p
  refine ⟨E.R_over h.r hb (fun q hq => ?_) hg⟩
  rcases List.mem_cons.mp hq with rfl | hq
  · exact h1
  · rcases List.mem_cons.mp hq with rfl | hq
    · exact h2
    · cases hq
end Go.Proofs.Ytiplichdhcmjdaa.T
namespace Go.Proofs.Ytiplichdhcmjdaa.T
open Go.RowKit Go.Proofs.YtiplichdhcmjdaaW.PrintWords Go.Proofs.YtiplichdhcmjdaaW.PrintMore
open Go.Proofs.Ytiplichdhcmjdaa.P
set_option linter.unusedVariables false
set_option linter.unusedSimpArgs false

set_option maxRecDepth 100000 in
theorem lit22n (W : World) : (Instr.buildSlice 22 0 #[]).run Try.prog W = .ok (.slice (some ⟨W.heap.size, 0, none⟩) 0 0) (W.alloc (.cells #[] 3)) := by
  have hu22 := Try.underlying22
  go_simp
theorem made22 {W : World} {base : Nat} : ∀ (x : Int) cs, kI.K W x cs → kI.M W base (fun _ => False) x cs := fun x cs h => h
end Go.Proofs.Ytiplichdhcmjdaa.T
namespace Go.Proofs.Ytiplichdhcmjdaa.T
open Go.RowKit Go.Proofs.YtiplichdhcmjdaaW.PrintWords Go.Proofs.YtiplichdhcmjdaaW.PrintMore
open Go.Proofs.Ytiplichdhcmjdaa.P
set_option linter.unusedVariables false
set_option linter.unusedSimpArgs false
def Bl.sub (a b : Bl) : Bl := ⟨a.f0 - b.f0, a.f1 - b.f1, a.f2 - b.f2⟩
/-- Nothing behind the shows that there are. -/
def Fin (n : Nat) (b : Bl) : Prop := (n ≤ 1 → b.f1 = 0) ∧ (n ≤ 2 → b.f2 = 0)
theorem Fin.bl_tb {n : Nat} {b : Bl} (h1 : 1 ≤ n) (h3 : n ≤ 3) (h : Fin n b) : bl (tb n b) = b := by
  have hc : n = 1 ∨ n = 2 ∨ n = 3 := by omega
  rcases hc with rfl | rfl | rfl
  · exact Bl.ext' rfl (h.1 (by omega)).symm (h.2 (by omega)).symm
  · exact Bl.ext' rfl rfl (h.2 (by omega)).symm
  · rfl
theorem fin_bl {l : List Int} {n : Nat} (h : l.length = n) : Fin n (bl l) := by
  subst h
  refine ⟨fun h => ?_, fun h => ?_⟩
  · show l.getD 1 0 = 0
    exact getD_past (by omega)
  · show l.getD 2 0 = 0
    exact getD_past (by omega)
theorem tb_bl' {l : List Int} {n : Nat} (h : l.length = n) (h3 : n ≤ 3) : tb n (bl l) = l := by subst h; exact bl_tb h3
/-- The ways to split. -/
def splL : List Int → Nat → List (List Int)
  | [], k => if k = 0 then [[]] else []
  | x :: l, k => (List.range (min k x.toNat + 1)).flatMap (fun (j : Nat) => (splL l (k - j)).map (fun r => (j : Int) :: r))
theorem sum_nn : ∀ {l : List Int}, (∀ i, 0 ≤ l.getD i 0) → 0 ≤ l.sum
  | [], _ => by simp
  | a :: l, h => by
    have h0 : 0 ≤ a := h 0
    have h1 := sum_nn (l := l) (fun i => h (i + 1))
    rw [List.sum_cons]
    omega
theorem mem_splL : ∀ {left : List Int} {k : Nat} {l : List Int}, (∀ x ∈ left, 0 ≤ x) → (l ∈ splL left k ↔ l.length = left.length ∧ (∀ i, 0 ≤ l.getD i 0 ∧ l.getD i 0 ≤ left.getD i 0) ∧ l.sum = k)
  | [], k, l, _ => by
    unfold splL
    constructor
    · intro h
      split at h
      · next hk => rw [List.mem_singleton] at h; subst h; exact ⟨rfl, fun i => by simp, by simp [hk]⟩
      · cases h
    · rintro ⟨h1, _, h3⟩
      obtain rfl := List.eq_nil_of_length_eq_zero h1
      rw [if_pos (by simp at h3; omega)]
      exact List.mem_singleton.mpr rfl
  | x :: left, k, l, hx => by
    have hx0 := hx x List.mem_cons_self
    have ih : ∀ {k : Nat} {l : List Int}, l ∈ splL left k ↔ _ := mem_splL (left := left) (fun y hy => hx y (List.mem_cons_of_mem _ hy))
    unfold splL
    rw [List.mem_flatMap]
    constructor
    · rintro ⟨j, hj, h⟩
      rw [List.mem_range] at hj
      obtain ⟨r, hr, rfl⟩ := List.mem_map.mp h
      obtain ⟨a, b, c⟩ := ih.mp hr
      refine ⟨by simp [a], fun i => ?_, by rw [List.sum_cons, c]; omega⟩
      cases i with
      | zero => show 0 ≤ (j : Int) ∧ (j : Int) ≤ x; omega
      | succ i => exact b i
    · rintro ⟨h1, h2, h3⟩
      rcases l with _ | ⟨a, r⟩
      · simp at h1
      have ha : 0 ≤ a ∧ a ≤ x := h2 0
      have hr := sum_nn (l := r) (fun i => (h2 (i + 1)).1)
      rw [List.sum_cons] at h3
      refine ⟨a.toNat, List.mem_range.mpr (by omega), List.mem_map.mpr ⟨r, ih.mpr ⟨by simpa using h1, fun i => h2 (i + 1), by omega⟩, by rw [Int.toNat_of_nonneg ha.1]⟩⟩
theorem flen {α β : Type} {f : α → List β} {c : Nat} : ∀ {l : List α}, (∀ x ∈ l, (f x).length ≤ c) → (l.flatMap f).length ≤ l.length * c
  | [], _ => by simp
  | a :: l, h => by
    have h0 := h a List.mem_cons_self
    have h1 := flen (l := l) (fun x hx => h x (List.mem_cons_of_mem _ hx))
    rw [List.flatMap_cons, List.length_append, List.length_cons, Nat.add_mul]
    omega
theorem splL_len0 (k : Nat) : (splL [] k).length ≤ 1 := by unfold splL; split <;> simp
theorem splL_len1 (x : Int) (k : Nat) : (splL [x] k).length ≤ 1 := by
  show ((List.range (min k x.toNat + 1)).flatMap (fun (j : Nat) => (splL [] (k - j)).map (fun r => (j : Int) :: r))).length ≤ 1
  rw [List.range_succ, List.flatMap_append, List.flatMap_eq_nil_iff.mpr (fun j hj => by
    have := List.mem_range.mp hj
    unfold splL
    rw [if_neg (by omega)]
    rfl)]
  rw [List.nil_append, List.flatMap_cons, List.flatMap_nil, List.append_nil, List.length_map]
  exact splL_len0 _
theorem splL_mono {x : Int} {l : List Int} {k c : Nat} (h : ∀ j, j ≤ k → (splL l j).length ≤ c) : (splL (x :: l) k).length ≤ (k + 1) * c := by
  show ((List.range (min k x.toNat + 1)).flatMap (fun (j : Nat) => (splL l (k - j)).map (fun r => (j : Int) :: r))).length ≤ _
  refine Nat.le_trans (flen (c := c) fun j _ => by rw [List.length_map]; exact h _ (by omega)) ?_
  rw [List.length_range]
  exact Nat.mul_le_mul_right _ (by omega)
theorem splL_len {l : List Int} {k : Nat} (h3 : l.length ≤ 3) (hk : k ≤ 20) : (splL l k).length ≤ 441 := by
  rcases l with _ | ⟨a, _ | ⟨b, _ | ⟨c, _ | ⟨d, l⟩⟩⟩⟩
  · have := splL_len0 k; omega
  · have := splL_len1 a k; omega
  · have := splL_mono (x := a) (l := [b]) (k := k) (c := 1) (fun j _ => splL_len1 b j); omega
  · have := splL_mono (x := a) (l := [b, c]) (k := k) (c := 21) (fun j hj => by have := splL_mono (x := b) (l := [c]) (k := j) (c := 1) (fun i _ => splL_len1 c i); omega); omega
  · simp at h3
/-- The truths of the tills from i on, with at most so many flaws. -/
def trL (V : Ev) : Nat → Nat → Int → Bl → List (List (List Int))
  | 0, _, _, q => if sumL (tb V.ps.length q) = 0 then [[]] else []
  | k + 1, i, F, q => (splL (tb V.ps.length q) (rl (ct V i)).toNat).flatMap (fun w => if F < fl V (ct V i) (bl w) then [] else (trL V k (i + 1) (F - fl V (ct V i) (bl w)) (q.sub (bl w))).map (fun r => w :: r))
theorem trL_len {V : Ev} (ok : VOk V) : ∀ (k i : Nat) (F : Int) (q : Bl), i + k ≤ V.cs.length → (trL V k i F q).length ≤ 441 ^ k
  | 0, i, F, q, _ => by unfold trL; split <;> simp
  | k + 1, i, F, q, hk => by
    show (List.flatMap _ _).length ≤ _
    have h3 := ok.n3
    have hr := rl_20 ok (show i < V.cs.length by omega)
    have h1 := splL_len (l := tb V.ps.length q) (k := (rl (ct V i)).toNat) (by rw [tb_len h3]; exact h3) (by omega)
    refine Nat.le_trans (flen (c := 441 ^ k) fun w _ => ?_) ?_
    · split
      · simp
      · rw [List.length_map]; exact trL_len ok k (i + 1) _ _ (by omega)
    · rw [Nat.pow_succ, Nat.mul_comm (441 ^ k)]
      exact Nat.mul_le_mul_right _ h1
structure Nn (n : Nat) (q : Bl) : Prop where
  a : 0 ≤ q.f0
  b : 0 ≤ q.f1
  c : 0 ≤ q.f2
  f : Fin n q
theorem tb_getD {n : Nat} {b : Bl} (h3 : n ≤ 3) (hf : Fin n b) (h1 : 1 ≤ n) (i : Nat) (hi : i < 3) : (tb n b).getD i 0 = b.get i := by
  rw [← bl_get _ hi, Fin.bl_tb h1 h3 hf]
theorem mem_trL {V : Ev} (ok : VOk V) : ∀ {k i : Nat} {F : Int} {q : Bl} {ts : List (List Int)}, i + k = V.cs.length → 0 ≤ F → Nn V.ps.length q → (ts ∈ trL V k i F q ↔ ∃ t : List Bl, t.length = k ∧ Ws V i t ∧ sumT t = q ∧ flT V i t ≤ F ∧ ts = t.map (tb V.ps.length))
  | 0, i, F, q, ts, _, hF, hq => by
    have h1 := ok.n1
    have h3 := ok.n3
    unfold trL
    rw [sumL_bl (by rw [tb_len h3]; exact h3), Fin.bl_tb h1 h3 hq.f]
    constructor
    · intro h
      split at h
      · next hs =>
        rw [List.mem_singleton] at h
        subst h
        unfold Bl.sum at hs
        have := hq.a; have := hq.b; have := hq.c
        exact ⟨[], rfl, trivial, (Bl.ext' (show (0 : Int) = _ by omega) (show (0 : Int) = _ by omega) (show (0 : Int) = _ by omega)), hF, rfl⟩
      · cases h
    · rintro ⟨t, ht, _, hs, _, rfl⟩
      obtain rfl := List.eq_nil_of_length_eq_zero ht
      rw [if_pos (by rw [← hs]; rfl)]
      exact List.mem_singleton.mpr rfl
  | k + 1, i, F, q, ts, hk, hF, hq => by
    have h1 := ok.n1
    have h3 := ok.n3
    have hi : i < V.cs.length := by omega
    have hr0 := rl_0 ok hi
    have hlen := tb_len h3 q
    have hnn : ∀ x ∈ tb V.ps.length q, 0 ≤ x := fun x hx => by
      obtain ⟨j, hj⟩ := List.mem_iff_getElem?.mp hx
      have hjl := (List.getElem?_eq_some_iff.1 hj).1
      rw [hlen] at hjl
      rw [tb_at hjl h3] at hj
      obtain rfl := Option.some.inj hj
      have hj3 : j = 0 ∨ j = 1 ∨ j = 2 := by omega
      rcases hj3 with rfl | rfl | rfl
      · exact hq.a
      · exact hq.b
      · exact hq.c
    show ts ∈ List.flatMap _ _ ↔ _
    rw [List.mem_flatMap]
    constructor
    · rintro ⟨w, hw, h⟩
      obtain ⟨a1, a2, a3⟩ := (mem_splL hnn).mp hw
      rw [hlen] at a1
      split at h
      · cases h
      next hfl =>
      obtain ⟨r, hr, rfl⟩ := List.mem_map.mp h
      have hfw := fin_bl a1
      have g : ∀ j, j < 3 → 0 ≤ (bl w).get j ∧ (bl w).get j ≤ q.get j := fun j hj => by
        have := a2 j
        rw [tb_getD h3 hq.f h1 j hj] at this
        rw [bl_get _ hj]
        exact this
      have g0 := g 0 (by decide)
      have g1 := g 1 (by decide)
      have g2 := g 2 (by decide)
      have hway : Way V.ps.length (rl (ct V i)) (bl w) := by
        refine ⟨g0.1, g1.1, g2.1, hfw.1, hfw.2, ?_⟩
        have hw3 : w.length ≤ 3 := by omega
        have e : (bl w).sum = w.sum := by
          rcases w with _ | ⟨a, _ | ⟨b, _ | ⟨c, _ | ⟨d, l⟩⟩⟩⟩
          · rfl
          · simp [bl, Bl.sum]
          · simp [bl, Bl.sum]
          · simp [bl, Bl.sum]; omega
          · simp at hw3
        rw [e, a3]
        omega
      obtain ⟨t, b1, b2, b3, b4, rfl⟩ := (mem_trL ok (k := k) (i := i + 1) (by omega) (by omega) ⟨show 0 ≤ q.f0 - (bl w).f0 from Int.sub_nonneg.mpr g0.2, show 0 ≤ q.f1 - (bl w).f1 from Int.sub_nonneg.mpr g1.2, show 0 ≤ q.f2 - (bl w).f2 from Int.sub_nonneg.mpr g2.2, ⟨fun hn => by show q.f1 - (bl w).f1 = 0; rw [hq.f.1 hn, hfw.1 hn]; rfl, fun hn => by show q.f2 - (bl w).f2 = 0; rw [hq.f.2 hn, hfw.2 hn]; rfl⟩⟩).mp hr
      refine ⟨bl w :: t, by simp [b1], ⟨hway, b2⟩, ?_, by rw [flT]; omega, by rw [List.map_cons, tb_bl' a1 h3]⟩
      rw [sumT, b3]
      exact Bl.ext' (show (bl w).f0 + (q.f0 - (bl w).f0) = q.f0 by omega) (show (bl w).f1 + (q.f1 - (bl w).f1) = q.f1 by omega) (show (bl w).f2 + (q.f2 - (bl w).f2) = q.f2 by omega)
    · rintro ⟨t, b1, b2, b3, b4, rfl⟩
      rcases t with _ | ⟨b, t⟩
      · simp at b1
      obtain ⟨hb, hws⟩ := b2
      have hnt := Ws_nonneg hws
      rw [sumT] at b3
      rw [flT] at b4
      have hf0 := (flT_01 V t (i + 1)).1
      have e0 : b.f0 + (sumT t).f0 = q.f0 := by rw [← b3]; rfl
      have e1 : b.f1 + (sumT t).f1 = q.f1 := by rw [← b3]; rfl
      have e2 : b.f2 + (sumT t).f2 = q.f2 := by rw [← b3]; rfl
      have hbt := tb_bl h1 h3 hb
      have hbf : Fin V.ps.length b := ⟨hb.2.2.2.1, hb.2.2.2.2.1⟩
      refine ⟨tb V.ps.length b, (mem_splL hnn).mpr ⟨by rw [tb_len h3, hlen], fun j => ?_, ?_⟩, ?_⟩
      · by_cases hj : j < 3
        · rw [tb_getD h3 hbf h1 j hj, tb_getD h3 hq.f h1 j hj]
          have hj3 : j = 0 ∨ j = 1 ∨ j = 2 := by omega
          rcases hj3 with rfl | rfl | rfl
          · exact ⟨hb.1, show b.f0 ≤ q.f0 by omega⟩
          · exact ⟨hb.2.1, show b.f1 ≤ q.f1 by omega⟩
          · exact ⟨hb.2.2.1, show b.f2 ≤ q.f2 by omega⟩
        · rw [getD_past (by rw [tb_len h3]; omega), getD_past (by rw [hlen]; omega)]
          omega
      · have e : (tb V.ps.length b).sum = b.sum := by
          have hc : V.ps.length = 1 ∨ V.ps.length = 2 ∨ V.ps.length = 3 := by omega
          obtain ⟨q1, q2⟩ := hbf
          rcases hc with hc | hc | hc <;> rw [hc] at q1 q2 ⊢
          · have := q1 (by omega); have := q2 (by omega); simp [tb, Bl.sum]; omega
          · have := q2 (by omega); simp [tb, Bl.sum]; omega
          · simp [tb, Bl.sum]; omega
        rw [e, hb.2.2.2.2.2]
        omega
      · rw [hbt, if_neg (by omega)]
        refine List.mem_map.mpr ⟨t.map (tb V.ps.length), (mem_trL ok (k := k) (i := i + 1) (by omega) (by omega) ⟨show 0 ≤ q.f0 - b.f0 by omega, show 0 ≤ q.f1 - b.f1 by omega, show 0 ≤ q.f2 - b.f2 by omega, ⟨fun hn => by show q.f1 - b.f1 = 0; rw [hq.f.1 hn, hbf.1 hn]; rfl, fun hn => by show q.f2 - b.f2 = 0; rw [hq.f.2 hn, hbf.2 hn]; rfl⟩⟩).mpr ⟨t, by simpa using b1, hws, ?_, by omega, rfl⟩, rfl⟩
        exact Bl.ext' (show (sumT t).f0 = q.f0 - b.f0 by omega) (show (sumT t).f1 = q.f1 - b.f1 by omega) (show (sumT t).f2 = q.f2 - b.f2 by omega)
end Go.Proofs.Ytiplichdhcmjdaa.T
namespace Go.Proofs.Ytiplichdhcmjdaa.T
open Go.RowKit Go.Proofs.YtiplichdhcmjdaaW.PrintWords Go.Proofs.YtiplichdhcmjdaaW.PrintMore
open Go.Proofs.Ytiplichdhcmjdaa.P
set_option linter.unusedVariables false
set_option linter.unusedSimpArgs false

end Go.Proofs.Ytiplichdhcmjdaa.T
namespace Go.Proofs.Ytiplichdhcmjdaa.T
open Go.RowKit Go.Proofs.YtiplichdhcmjdaaW.PrintWords Go.Proofs.YtiplichdhcmjdaaW.PrintMore
open Go.Proofs.Ytiplichdhcmjdaa.P
set_option linter.unusedVariables false
set_option linter.unusedSimpArgs false

/-- Two rows of rows, none of one's blocks the other's. -/
structure Tw {α : Type} (d : Kd α) (e b b7 : Nat) (w : World) (v5 v7 : Value) (out rest : List α) : Prop where
  o : Kd.R d e w b (fun _ => True) v5 out
  r : Kd.R d e w b7 (fun k => True ∧ some k ≠ v5.ownBlock) v7 rest
theorem Tw.below {α : Type} {d : Kd α} {e b b7 : Nat} {w w' : World} {v5 v7 : Value} {out rest : List α} (h : Tw d e b b7 w v5 v7 out rest) (l : Below w.heap.size w w') : Tw d e b b7 w' v5 v7 out rest := ⟨Kd.R_below h.o l, Kd.R_below h.r l⟩
theorem Tw.start {α : Type} {d : Kd α} {e b : Nat} {W w : World} {v5 v7 : Value} {out rest : List α} (h : Kd.R d e W b (fun _ => True) v5 out) (l : Below W.heap.size W w) (k : Kd.R d e w W.heap.size (fun _ => True) v7 rest) : Tw d e b W.heap.size w v5 v7 out rest := ⟨Kd.R_below h l, Kd.R_newR k h⟩
theorem Tw.after {α : Type} {d : Kd α} {e b b7 : Nat} {W w : World} {v5 v7 v1 : Value} {out out' rest : List α} (h : Tw d e b b7 W v5 v7 out rest) (k : Kd.R d e w b (fun _ => True) v1 out') (hg : W.grownBy w v5.ownBlock) (hat : v1.ownBlock = v5.ownBlock ∨ ∃ k, v1.ownBlock = some k ∧ W.heap.size ≤ k) : Tw d e b b7 w v1 v7 out' rest := ⟨k, Kd.R_after h.r hg hat⟩
end Go.Proofs.Ytiplichdhcmjdaa.T
namespace Go.Proofs.Ytiplichdhcmjdaa.T
open Go.RowKit Go.Proofs.YtiplichdhcmjdaaW.PrintWords Go.Proofs.YtiplichdhcmjdaaW.PrintMore
open Go.Proofs.Ytiplichdhcmjdaa.P
set_option linter.unusedVariables false
set_option linter.unusedSimpArgs false

abbrev kRR : Kd (List (List Int)) := Kd.slice 22 kR
structure R3 (b : Nat) (w : World) (v : Value) (ts : List (List (List Int))) : Prop where
  r : Kd.R kRR 42 w b (fun _ => True) v ts
theorem R3.below {b : Nat} {w w' : World} {v : Value} {ts : List (List (List Int))} (h : R3 b w v ts) (l : Below w.heap.size w w') : R3 b w' v ts := ⟨Kd.R_below h.r l⟩
end Go.Proofs.Ytiplichdhcmjdaa.T
namespace Go.Proofs.Ytiplichdhcmjdaa.T
open Go.RowKit Go.Proofs.YtiplichdhcmjdaaW.PrintWords Go.Proofs.YtiplichdhcmjdaaW.PrintMore
open Go.Proofs.Ytiplichdhcmjdaa.P
set_option linter.unusedVariables false
set_option linter.unusedSimpArgs false

def LkS (V : Ev) (L : List (List (List Int))) : Prop := ∀ ts, ts ∈ L ↔ ∃ t, Lkly V t ∧ ts = t.map (tb V.ps.length)
def LikR (V : Ev) (L : List (List (List Int))) (n : Int) : Prop := ((∀ t, ¬ Truth V t) ∧ L = [] ∧ n = 0) ∨ ((∃ t, Truth V t) ∧ L ≠ [] ∧ n = fewN V ∧ LkS V L ∧ L.length ≤ 441 ^ 4)
theorem nn_bl {V : Ev} (ok : VOk V) : Nn V.ps.length (bl V.qs) := by
  have hs := small_bl (m := 80) ok.q (by decide)
  exact ⟨(hs 0 (by decide)).1, (hs 1 (by decide)).1, (hs 2 (by decide)).1, fin_bl ok.nq⟩
theorem tr_none {V : Ev} (ok : VOk V) {n : Nat} (h : ∀ t, Truth V t → (n : Int) ≤ flT V 0 t) (hL : trL V V.cs.length 0 n (bl V.qs) = []) : ∀ t, Truth V t → ((n + 1 : Nat) : Int) ≤ flT V 0 t := fun t ht => by
  have h0 := h t ht
  refine Int.not_lt.mp fun hlt => ?_
  have := (mem_trL ok (k := V.cs.length) (i := 0) (F := n) (by omega) (by omega) (nn_bl ok)).mpr ⟨t, ht.1, ht.2.1, ht.2.2, by omega, rfl⟩
  rw [hL] at this
  cases this
theorem tr_some {V : Ev} (ok : VOk V) {n : Nat} (h : ∀ t, Truth V t → (n : Int) ≤ flT V 0 t) (hL : trL V V.cs.length 0 n (bl V.qs) ≠ []) : LikR V (trL V V.cs.length 0 n (bl V.qs)) n := by
  have hm : ∀ ts, ts ∈ trL V V.cs.length 0 n (bl V.qs) ↔ _ := fun ts => mem_trL ok (k := V.cs.length) (i := 0) (F := n) (ts := ts) (by omega) (by omega) (nn_bl ok)
  obtain ⟨ts, hts⟩ := List.exists_mem_of_ne_nil _ hL
  obtain ⟨t, a1, a2, a3, a4, _⟩ := (hm ts).mp hts
  have htr : Truth V t := ⟨a1, a2, a3⟩
  have hn : fewN V = n := fewN_eq ⟨⟨t, htr, by have := h t htr; omega⟩, h⟩
  refine .inr ⟨⟨t, htr⟩, hL, hn.symm, fun ts => (hm ts).trans ⟨?_, ?_⟩, ?_⟩
  · rintro ⟨s, b1, b2, b3, b4, rfl⟩
    exact ⟨s, ⟨⟨b1, b2, b3⟩, by have := h s ⟨b1, b2, b3⟩; omega⟩, rfl⟩
  · rintro ⟨s, ⟨hs, h5⟩, rfl⟩
    exact ⟨s, hs.1, hs.2.1, hs.2.2, by omega, rfl⟩
  · exact Nat.le_trans (trL_len ok _ _ _ _ (by omega)) (Nat.pow_le_pow_right (by decide) ok.c4)
end Go.Proofs.Ytiplichdhcmjdaa.T
namespace Go.Proofs.Ytiplichdhcmjdaa.T
open Go.RowKit Go.Proofs.YtiplichdhcmjdaaW.PrintWords Go.Proofs.YtiplichdhcmjdaaW.PrintMore
open Go.Proofs.Ytiplichdhcmjdaa.P
set_option linter.unusedVariables false
set_option linter.unusedSimpArgs false

/-- A till's row in a likely truth. -/
theorem lk_row {V : Ev} (ok : VOk V) {L : List (List (List Int))} (hS : LkS V L) {ts : List (List Int)} (h : ts ∈ L) {i : Nat} (hi : i < V.cs.length) : ∃ t b, Lkly V t ∧ ts = t.map (tb V.ps.length) ∧ t[i]? = some b ∧ ts[i]? = some (tb V.ps.length b) ∧ Way V.ps.length (rl (ct V i)) b ∧ ts.length = V.cs.length := by
  obtain ⟨t, ht, rfl⟩ := (hS ts).mp h
  obtain ⟨b, hb⟩ := get_ex (show i < t.length by rw [ht.1.1]; exact hi)
  have hw := Ws_get ht.1.2.1 hb
  rw [Nat.zero_add] at hw
  exact ⟨t, b, ht, rfl, hb, by rw [List.getElem?_map, hb]; rfl, hw, by rw [List.length_map]; exact ht.1.1⟩
def flR (V : Ev) (i : Nat) (ts : List (List Int)) : Int := fl V (ct V i) (bl (ts.getD i []))
theorem flR_eq {V : Ev} (ok : VOk V) {i : Nat} {t : List Bl} {b : Bl} (hb : t[i]? = some b) (hw : Way V.ps.length (rl (ct V i)) b) : flR V i (t.map (tb V.ps.length)) = fl V (ct V i) b := by
  unfold flR
  rw [List.getD_eq_getElem?_getD, List.getElem?_map, hb]
  show fl V (ct V i) (bl (tb V.ps.length b)) = _
  rw [tb_bl ok.n1 ok.n3 hw]
def cntF (V : Ev) (i : Nat) (L : List (List (List Int))) : Nat := (L.filter (fun ts => decide (0 < flR V i ts))).length
theorem cnt_susp {V : Ev} (ok : VOk V) {L : List (List (List Int))} (hS : LkS V L) {i : Nat} (hi : i < V.cs.length) : 0 < cntF V i L ↔ suspP V i := by
  constructor
  · intro h
    obtain ⟨ts, hts⟩ := List.exists_mem_of_length_pos h
    obtain ⟨hm, hp⟩ := List.mem_filter.mp hts
    obtain ⟨t, b, h1, rfl, h3, _, h5, _⟩ := lk_row ok hS hm hi
    rw [decide_eq_true_eq, flR_eq ok h3 h5] at hp
    exact ⟨t, b, h1, h3, hp⟩
  · rintro ⟨t, b, h1, h3, hp⟩
    have hw := Ws_get h1.1.2.1 h3
    rw [Nat.zero_add] at hw
    refine List.length_pos_of_mem (List.mem_filter.mpr ⟨(hS _).mpr ⟨t, h1, rfl⟩, ?_⟩)
    rw [decide_eq_true_eq, flR_eq ok h3 hw]
    exact hp
def mnG {α : Type} (f : α → Int) (x : Int) (l : List α) : Int := l.foldl (fun a o => mn a (f o)) x
def mxG {α : Type} (f : α → Int) (x : Int) (l : List α) : Int := l.foldl (fun a o => mx a (f o)) x
theorem mnG_is {α : Type} {q : α → Int} : ∀ (l : List α) (x : Int), (mnG q x l = x ∨ ∃ o ∈ l, q o = mnG q x l) ∧ mnG q x l ≤ x ∧ ∀ o ∈ l, mnG q x l ≤ q o
  | [], x => ⟨.inl rfl, Int.le_refl _, fun o h => by cases h⟩
  | o :: l, x => by
    obtain ⟨h1, h2, h3⟩ := mnG_is (q := q) l (mn x (q o))
    have e : mnG q x (o :: l) = mnG q (mn x (q o)) l := rfl
    have hm : mn x (q o) = x ∨ mn x (q o) = q o := by unfold mn; split <;> simp
    have hle : mn x (q o) ≤ x ∧ mn x (q o) ≤ q o := by unfold mn; split <;> omega
    rw [e]
    refine ⟨?_, by omega, fun o' ho' => ?_⟩
    · rcases h1 with h1 | ⟨o', ho', h1⟩
      · rcases hm with hm | hm
        · exact .inl (h1.trans hm)
        · exact .inr ⟨o, List.mem_cons_self, by rw [h1, hm]⟩
      · exact .inr ⟨o', List.mem_cons_of_mem _ ho', h1⟩
    · rcases List.mem_cons.mp ho' with rfl | ho'
      · omega
      · exact h3 o' ho'
theorem mxG_is {α : Type} {q : α → Int} : ∀ (l : List α) (x : Int), (mxG q x l = x ∨ ∃ o ∈ l, q o = mxG q x l) ∧ x ≤ mxG q x l ∧ ∀ o ∈ l, q o ≤ mxG q x l
  | [], x => ⟨.inl rfl, Int.le_refl _, fun o h => by cases h⟩
  | o :: l, x => by
    obtain ⟨h1, h2, h3⟩ := mxG_is (q := q) l (mx x (q o))
    have e : mxG q x (o :: l) = mxG q (mx x (q o)) l := rfl
    have hm : mx x (q o) = x ∨ mx x (q o) = q o := by unfold mx; split <;> simp
    have hle : x ≤ mx x (q o) ∧ q o ≤ mx x (q o) := by unfold mx; split <;> omega
    rw [e]
    refine ⟨?_, by omega, fun o' ho' => ?_⟩
    · rcases h1 with h1 | ⟨o', ho', h1⟩
      · rcases hm with hm | hm
        · exact .inl (h1.trans hm)
        · exact .inr ⟨o, List.mem_cons_self, by rw [h1, hm]⟩
      · exact .inr ⟨o', List.mem_cons_of_mem _ ho', h1⟩
    · rcases List.mem_cons.mp ho' with rfl | ho'
      · omega
      · exact h3 o' ho'
theorem span_r {V : Ev} (ok : VOk V) {till sh : Int} {q : Bl → Int} {L : List (List (List Int))} (hS : LkS V L) (hi : till.toNat < V.cs.length) (h : errT V till sh = 0) {f : List (List Int) → Int} (hf : ∀ t b, Lkly V t → t[till.toNat]? = some b → Way V.ps.length (rl (ct V till.toNat)) b → f (t.map (tb V.ps.length)) = q b) {o0 : List (List Int)} (h0 : o0 ∈ L) : loV V till sh q = mnG f (f o0) L ∧ hiV V till sh q = mxG f (f o0) L := by
  have hval : ∀ n, valP V till.toNat q n ↔ ∃ ts ∈ L, f ts = n := fun n => by
    constructor
    · rintro ⟨t, b, h1, h2, rfl⟩
      have hw := Ws_get h1.1.2.1 h2
      rw [Nat.zero_add] at hw
      exact ⟨_, (hS _).mpr ⟨t, h1, rfl⟩, hf t b h1 h2 hw⟩
    · rintro ⟨ts, hm, rfl⟩
      obtain ⟨t, b, h1, rfl, h3, _, h5, _⟩ := lk_row ok hS hm hi
      exact ⟨t, b, h1, h3, (hf t b h1 h3 h5).symm⟩
  obtain ⟨a1, a2, a3⟩ := mnG_is (q := f) L (f o0)
  obtain ⟨b1, b2, b3⟩ := mxG_is (q := f) L (f o0)
  constructor
  · refine loV_ok h ((hval _).mpr ?_) fun n hn => ?_
    · rcases a1 with a1 | a1
      · exact ⟨o0, h0, a1.symm⟩
      · exact a1
    · obtain ⟨o, ho, rfl⟩ := (hval _).mp hn
      exact a3 o ho
  · refine hiV_ok h ((hval _).mpr ?_) fun n hn => ?_
    · rcases b1 with b1 | b1
      · exact ⟨o0, h0, b1.symm⟩
      · exact b1
    · obtain ⟨o, ho, rfl⟩ := (hval _).mp hn
      exact b3 o ho
end Go.Proofs.Ytiplichdhcmjdaa.T
namespace Go.Proofs.Ytiplichdhcmjdaa.T
open Go.RowKit Go.Proofs.YtiplichdhcmjdaaW.PrintWords Go.Proofs.YtiplichdhcmjdaaW.PrintMore
open Go.Proofs.Ytiplichdhcmjdaa.P
set_option linter.unusedVariables false
set_option linter.unusedSimpArgs false

def fRe (i s : Nat) (ts : List (List Int)) : Int := (ts.getD i []).getD s 0
theorem fRe_at {ts : List (List Int)} {i s : Nat} {l : List Int} {x : Int} (h : ts[i]? = some l) (k : l[s]? = some x) : fRe i s ts = x := by
  unfold fRe
  rw [List.getD_eq_getElem?_getD, List.getD_eq_getElem?_getD, h]
  show (l[s]?).getD 0 = x
  rw [k]
  rfl
theorem fRe_q {V : Ev} {i s : Nat} (hs : s < V.ps.length) (h3 : V.ps.length ≤ 3) {t : List Bl} {b : Bl} (hb : t[i]? = some b) : fRe i s (t.map (tb V.ps.length)) = b.get s := fRe_at (l := tb V.ps.length b) (by rw [List.getElem?_map, hb]; rfl) (tb_at hs h3)
end Go.Proofs.Ytiplichdhcmjdaa.T
namespace Go.Proofs.Ytiplichdhcmjdaa.E
open Go.RowKit Go.Proofs.YtiplichdhcmjdaaW.PrintWords Go.Proofs.YtiplichdhcmjdaaW.PrintMore
open Go.Proofs.Ytiplichdhcmjdaa.T
set_option linter.unusedVariables false
set_option linter.unusedSimpArgs false
section
variable {P : Program} {w : World} {N fuel : Nat} {env : Env} {ops : Array Oper} {Q : Exit → Act → World → Prop} {S : World → Prop} {L : Array Bool}
/-- The operations by a name. -/
theorem GH.named (h : ∀ os R, os = ops → R = Q → GH P os R N S fuel L env w) : GH P ops Q N S fuel L env w := h _ _ rfl rfl
/-- A state that is told elsewhere. -/
theorem GH.meet {L' : Array Bool} {env' : Env} (h : GH P ops Q N S fuel L' env' w) (hL : L' = L) (hs : Sub env' env) : GH P ops Q N S fuel L env w := fun a ha hS => hL ▸ h a (ha.sub hs) hS
end
/-- Two rows are not the same block. -/
def Ap (u v : Value) : Prop := ∀ k, u.ownBlock = some k → v.ownBlock ≠ some k
theorem Ap.symm {u v : Value} (h : Ap u v) : Ap v u := fun k hk e => h k e hk
abbrev kJ : Kd Int := Kd.int .i64
/-- Three rows of numbers, each by itself. -/
structure Cb (bs : Nat) (W : World) (va vb vc : Value) (la lb lc : List Int) : Prop where
  a : Kd.R kJ 3 W bs (fun _ => True) va la
  b : Kd.R kJ 3 W bs (fun _ => True) vb lb
  c : Kd.R kJ 3 W bs (fun _ => True) vc lc
  ab : Ap va vb
  ac : Ap va vc
  bc : Ap vb vc
section
variable {b : Nat} {W w1 : World} {va vb vc u : Value} {la lb lc l : List Int}
theorem Cb.start (W : World) (b : Nat) : Cb b W (.slice none 0 0) (.slice none 0 0) (.slice none 0 0) [] [] [] := ⟨Kd.R_nil _ _ _ _ _, Kd.R_nil _ _ _ _ _, Kd.R_nil _ _ _ _ _, (fun k hk => by cases hk), (fun k hk => by cases hk), (fun k hk => by cases hk)⟩
theorem Cb.lower {b' : Nat} (h : Cb b W va vb vc la lb lc) (hb : b' ≤ b) : Cb b' W va vb vc la lb lc := ⟨Kd.R_lower h.a hb, Kd.R_lower h.b hb, Kd.R_lower h.c hb, h.ab, h.ac, h.bc⟩
theorem Cb.below (h : Cb b W va vb vc la lb lc) (l : Below W.heap.size W w1) : Cb b w1 va vb vc la lb lc := ⟨Kd.R_below h.a l, Kd.R_below h.b l, Kd.R_below h.c l, h.ab, h.ac, h.bc⟩
theorem Cb.s12 (h : Cb b W va vb vc la lb lc) : Cb b W vb va vc lb la lc := ⟨h.b, h.a, h.c, h.ab.symm, h.bc, h.ac⟩
theorem Cb.s13 (h : Cb b W va vb vc la lb lc) : Cb b W vc vb va lc lb la := ⟨h.c, h.b, h.a, h.bc.symm, h.ac.symm, h.ab.symm⟩
theorem ap_fresh {xs : List Int} (h : Kd.R kJ 3 W b (fun _ => True) vb xs) (n : ∃ k, u.ownBlock = some k ∧ W.heap.size ≤ k) : Ap u vb := fun k hk e => by
  obtain ⟨k', e', hle⟩ := n
  rw [e'] at hk
  cases hk
  have := Kd.R_lt h k e
  omega
theorem Cb.make (h : Cb b W va vb vc la lb lc) (r : Kd.R kJ 3 w1 b (fun _ => True) u l) (hl : Below W.heap.size W w1) (n : ∃ k, u.ownBlock = some k ∧ W.heap.size ≤ k) : Cb b w1 u vb vc l lb lc := ⟨r, Kd.R_below h.b hl, Kd.R_below h.c hl, ap_fresh h.b n, ap_fresh h.c n, h.bc⟩
theorem r_apart {xs : List Int} (h : Kd.R kJ 3 W b (fun _ => True) vb xs) (ha : Ap va vb) (g : W.grownBy w1 va.ownBlock) : Kd.R kJ 3 w1 b (fun _ => True) vb xs := by
  cases hv : va.ownBlock with
  | none => rw [hv] at g; exact Kd.R_below h (belowG g)
  | some k => rw [hv] at g; exact Kd.R_grown1 h rfl g (fun e => ha k hv e.symm)
theorem Cb.grow (h : Cb b W va vb vc la lb lc) (r : Kd.R kJ 3 w1 b (fun _ => True) u l) (g : W.grownBy w1 va.ownBlock) (n : u.ownBlock = va.ownBlock ∨ ∃ k, u.ownBlock = some k ∧ W.heap.size ≤ k) : Cb b w1 u vb vc l lb lc := by
  refine ⟨r, r_apart h.b h.ab g, r_apart h.c h.ac g, ?_, ?_, h.bc⟩
  · rcases n with n | n
    · exact fun k hk => h.ab k (n ▸ hk)
    · exact ap_fresh h.b n
  · rcases n with n | n
    · exact fun k hk => h.ac k (n ▸ hk)
    · exact ap_fresh h.c n
/-- A block of another type is written. -/
theorem Cb.over {g t : Nat} {cs : Array Value} (h : Cb b W va vb vc la lb lc) (hb : W.heap[g]? = some (.cells cs t (0, 0))) (ht : 3 ≠ t) (hg : W.grownBy w1 (some g)) : Cb b w1 va vb vc la lb lc :=
  ⟨Kd.R_grown1 h.a rfl hg (Kd.R_ne h.a hb ht), Kd.R_grown1 h.b rfl hg (Kd.R_ne h.b hb ht), Kd.R_grown1 h.c rfl hg (Kd.R_ne h.c hb ht), h.ab, h.ac, h.bc⟩
theorem Cb.rowed {α : Type} {d : Kd α} {e b' : Nat} {v : Value} {xs : List α} (h : Cb b W va vb vc la lb lc) (hv : d.R e W b' (fun _ => True) v xs) (ht : 3 ≠ e) (hg : W.grownBy w1 v.ownBlock) : Cb b w1 va vb vc la lb lc := by
  cases ho : v.ownBlock with
  | none => rw [ho] at hg; exact h.below (belowG hg)
  | some g =>
    obtain ⟨_, _, hh, _⟩ := hv
    obtain ⟨cs, hc⟩ := own_typed hh g ho
    rw [ho] at hg
    exact h.over hc ht hg
end
theorem apart_R {α β : Type} {d : Kd α} {d' : Kd β} {e e' base base' : Nat} {w : World} {v u : Value} {xs : List α} {ys : List β} (h : d.R e w base (fun _ => True) v xs) (hu : d'.R e' w base' (fun _ => True) u ys) (ht : ∀ q, q ∈ e :: d.E → q ≠ e') : d.R e w base (fun k => some k ≠ u.ownBlock) v xs := by
  obtain ⟨v', he, hr⟩ := M_row' h hu ht
  obtain rfl : v = v' := by simpa using he
  exact hr
theorem take_snoc {α : Type} {l : List α} {i : Nat} {c : α} (h : l[i]? = some c) : l.take i ++ [c] = l.take (i + 1) := by rw [List.take_add_one, h]; rfl
end Go.Proofs.Ytiplichdhcmjdaa.E
namespace Go.Proofs.Ytiplichdhcmjdaa.T
open Go.RowKit Go.Proofs.YtiplichdhcmjdaaW.PrintWords Go.Proofs.YtiplichdhcmjdaaW.PrintMore
open Go.Proofs.Ytiplichdhcmjdaa.P
set_option linter.unusedVariables false
set_option linter.unusedSimpArgs false

set_option maxRecDepth 100000 in
theorem build25 (A B C : Option Addr) (n c m d k e : Nat) (W : World) : (Instr.build 25 #[(0, .slice A n c), (1, .slice B m d), (2, .slice C k e)]).run Try.prog W = .ok (.agg #[.slice A n c, .slice B m d, .slice C k e, .slice none 0 0]) W := by
  have hu22 := Try.underlying22
  have hu23 := Try.underlying23
  have hu25 := Try.underlying25
  go_simp
set_option maxRecDepth 100000 in
theorem lit23 (A : Option Addr) (n c : Nat) (f1 f2 f3 f4 f5 : Int) (W : World) : (Instr.buildSlice 23 1 #[(0, .agg #[.slice A n c, .int .i64 f1, .int .i64 f2, .int .i64 f3, .int .i64 f4, .int .i64 f5])]).run Try.prog W = .ok (.slice (some ⟨W.heap.size, 0, none⟩) 1 1) (W.alloc (.cells #[.slice A n c, .int .i64 f1, .int .i64 f2, .int .i64 f3, .int .i64 f4, .int .i64 f5] 40 (0, 0))) := by
  have hu23 := Try.underlying23
  go_simp
theorem info40b : (Try.prog.info? 40).map (fun i => (i.zero, i.size, i.bytes)) = some (some (.agg #[.slice none 0 0, .int .i64 0, .int .i64 0, .int .i64 0, .int .i64 0, .int .i64 0]), 6, 64) := by kernel_rfl
/-- An evening in rows of our own. -/
structure EvR (bs : Nat) (w : World) (V : Ev) (m : Ea) : Prop where
  r : E.Cb bs w (.slice m.A V.ps.length m.a) (.slice m.B V.qs.length m.b) (.slice m.C V.ts.length m.c) V.ps V.qs V.ts
  cs : Kd.R k40 40 w bs (fun _ => True) (.slice m.D V.cs.length m.d) V.cs
theorem EvR.ev {bs : Nat} {w : World} {V : Ev} {m : Ea} (h : EvR bs w V m) : EvM w V m := ⟨(Kd.R_reads' h.r.a).2.2, (Kd.R_reads' h.r.b).2.2, (Kd.R_reads' h.r.c).2.2, (Kd.R_reads' h.cs).2.2⟩
theorem EvR.cap {bs : Nat} {w : World} {V : Ev} {m : Ea} (h : EvR bs w V m) : V.qs.length ≤ m.b := (Kd.R_reads' h.r.b).2.1
set_option maxRecDepth 100000 in
set_option maxHeartbeats 8000000 in

theorem copy_calls (V : Ev) (m : Ea) (w : World) (hV : EvM w V m) (hs : Sz V) :
    Calls Try.prog 21 #[hv V m] w fun e w' => ∃ m', e = .returned (hv V m') ∧ EvR w.heap.size w' V m' ∧ Below w.heap.size w w' := by
  have hsc := hs.c
  have hu3 := Try.underlying3
  have hu22 := Try.underlying22
  have hu23 := Try.underlying23
  have hu25 := Try.underlying25
  have hu40 := Try.underlying40
  obtain ⟨z3, o3⟩ := info_some info3s (by decide)
  obtain ⟨z22, o22⟩ := info_some info22s (by decide)
  obtain ⟨z23, o23⟩ := info_some info23s (by decide)
  obtain ⟨z25, o25⟩ := info_some info25s (by decide)
  obtain ⟨z40, o40⟩ := info_some info40s (by decide)
  refine E.enter (N := 43) Try.func21 rfl Try.ntmps21 (args := [hv V m]) (by simp) ?_
  have L := Below.refl w.heap.size w
  refine E.CG.seq ?_
  refine E.CG.list ?_
  refine E.GL.st rfl rfl rfl (E.ST.box rfl rfl fun g1 w1 e1 b1 l1 => ?_)
  have h1_L : w.heap.size ≤ g1 := by rw [e1]; exact L.size
  replace L := below_step L l1
  refine E.GL.st rfl rfl rfl (E.ST.alloc rfl info25z fun g2 w2 e2 b2 l2 => ?_)
  have h2_L : w.heap.size ≤ g2 := by rw [e2]; exact L.size
  have n2_b1 : g1 ≠ g2 := by have := blk_lt b1; omega
  replace b1 := blk_below b1 l2
  replace L := below_step L l2
  refine E.GL.done ?_
  refine E.QG.code ?_
  refine E.CG.seq ?_
  have s1b1 := b1
  have s1b2 := b2
  have hwv0 := L.size
  refine E.CG.cut1 (fun (g3 : Nat) => [(1, .pointer (some ⟨g1, 0, none⟩)), (2, .pointer (some ⟨g2, 0, none⟩)), (3, .pointer (some ⟨g3, 0, none⟩))]) (fun g3 w' => ∃ m' : Ea, E.Cb w.heap.size w' (.slice m'.A V.ps.length m'.a) (.slice m'.B V.qs.length m'.b) (.slice m'.C V.ts.length m'.c) V.ps V.qs V.ts ∧ w'.heap[g3]? = some (.cells #[.slice m'.A V.ps.length m'.a, .slice m'.B V.qs.length m'.b, .slice m'.C V.ts.length m'.c, .slice none 0 0] 25 (0, 0)) ∧ w2.heap.size ≤ g3 ∧ Below w2.heap.size w2 w') ?_ ?_
  · refine E.CG.heldH none (by kernel_rfl) fun v1 lD hh0 => ?_
    refine E.GH.named fun cops cQ hops hQ => ?_
    have hcalm : E.Calm cQ := by rw [hQ]; exact E.calm_cut1
    clear hh0
    have b1 := blk_below b1 lD
    have hwv := Nat.le_trans hwv0 lD.size
    have hVv := hV.below (below_step L lD)
    have SF : ∀ (g3 : Nat) (A' : Option Addr) (a' : Nat) (B' : Option Addr) (b' : Nat) (C' : Option Addr) (c' : Nat) (W : World), v1.grownBy W none → Below v1.heap.size v1 W → E.Cb v1.heap.size W (.slice A' V.ps.length a') (.slice B' V.qs.length b') (.slice C' V.ts.length c') V.ps V.qs V.ts → W.heap[g3]? = some (.cells #[.slice none 0 0, .slice none 0 0, .slice none 0 0, .slice none 0 0] 25 (0, 0)) → v1.heap.size ≤ g3 → E.GH Try.prog cops cQ 43 (fun W => v1.grownBy W none) 1 #[true, true, true, true, true, true, true, true, true, true, true, true, true, true, false] [(1, .pointer (some ⟨g1, 0, none⟩)), (2, .pointer (some ⟨g2, 0, none⟩)), (3, .pointer (some ⟨g3, 0, none⟩)), (18, .agg #[.slice A' V.ps.length a', .slice B' V.qs.length b', .slice C' V.ts.length c', .slice none 0 0])] W := by
      intro g3 A' a' B' b' C' c' W hh K hC b3 h3
      refine E.GH.one (i := 14) (by rw [hops]; kernel_rfl) ((congrArg (fun (o : Array Oper) => o[14]?) hops).trans rfl) ?_
      refine E.GO.sn rfl rfl (E.ST.storeS (off := 0) (cells := [.slice A' V.ps.length a', .slice B' V.qs.length b', .slice C' V.ts.length c', .slice none 0 0]) rfl rfl rfl b3 rfl info25s (slices4_one _ _ _ _ _ _ _ _ _ _ _ _) rfl fun wS c3 lS => ⟨E.gb_row hh lS (fun i hi => by cases hi; exact h3), ?_⟩)
      refine E.GH.done (by rw [hops]; kernel_rfl) ?_
      rw [hQ]
      exact E.QG.meet1 g3 (E.subc rfl (E.subc rfl (E.subc rfl E.subn))) ⟨⟨A', a', B', b', C', c', none, 0⟩, (hC.over b3 (by decide) lS).lower hwv, c3, Nat.le_trans lD.size h3, below_step' lD lD.size (E.below_own K h3 lS)⟩
    have S1111110 : ∀ (g3 : Nat) (va vb vc : Value) (W : World), v1.grownBy W none → Below v1.heap.size v1 W → E.Cb v1.heap.size W va vb vc V.ps V.qs V.ts → E.GH Try.prog cops cQ 43 (fun W => v1.grownBy W none) 3 #[true, true, true, true, true, true, true, true, true, true, true, true, false, false, false] [(1, .pointer (some ⟨g1, 0, none⟩)), (2, .pointer (some ⟨g2, 0, none⟩)), (8, .slice m.A V.ps.length m.a), (12, .slice m.B V.qs.length m.b), (16, .slice m.C V.ts.length m.c), (9, va), (13, vb), (17, vc)] W := by
      intro g3 va vb vc W hh K hC
      obtain ⟨A', a', hva⟩ := Kd.R_slice hC.a
      obtain ⟨B', b', hvb⟩ := Kd.R_slice hC.b
      obtain ⟨C', c', hvc⟩ := Kd.R_slice hC.c
      subst hva hvb hvc
      refine E.GH.take (i := 12) ((congrArg (fun (o : Array Oper) => o[12]?) hops).trans rfl) (by rw [hops]; kernel_rfl) (by rw [hops]; kernel_rfl) (by rw [hops]; kernel_rfl) hcalm rfl rfl rfl (fun w' hS => E.Runs.build rfl (E.epc rfl (E.epc rfl (E.epc rfl E.epn))) (build25 _ _ _ _ _ _ _ _ _)) ?_
      refine E.GH.all (rs := [13]) (by rw [hops]; kernel_rfl) (by simp) (E.GHs.cons ((congrArg (fun (o : Array Oper) => o[13]?) hops).trans rfl) ?_ (E.GHs.nil))
      · refine E.GO.st rfl rfl rfl (E.ST.alloc rfl info25z fun g3 w3 e3 b3 l3 => ⟨hh.trans (E.gbB l3), ?_⟩)
        exact E.GH.meet (SF g3 A' a' B' b' C' c' w3 (hh.trans (E.gbB l3)) (below_step K l3) (hC.below l3) b3 (by rw [e3]; exact K.size)) (by kernel_rfl) (E.subc rfl (E.subc rfl (E.subc rfl (E.subc rfl E.subn))))
    have S1111101 : ∀ (g3 : Nat) (va vb vc : Value) (W : World), v1.grownBy W none → Below v1.heap.size v1 W → E.Cb v1.heap.size W va vb vc V.ps V.qs [] → W.heap[g3]? = some (.cells #[.slice none 0 0, .slice none 0 0, .slice none 0 0, .slice none 0 0] 25 (0, 0)) → v1.heap.size ≤ g3 → E.GH Try.prog cops cQ 43 (fun W => v1.grownBy W none) 3 #[true, true, true, true, true, true, true, true, true, true, true, false, false, true, false] [(1, .pointer (some ⟨g1, 0, none⟩)), (2, .pointer (some ⟨g2, 0, none⟩)), (8, .slice m.A V.ps.length m.a), (12, .slice m.B V.qs.length m.b), (16, .slice m.C V.ts.length m.c), (3, .pointer (some ⟨g3, 0, none⟩)), (9, va), (13, vb), (14, vc)] W := by
      intro g3 va vb vc W hh K hC b3 h3
      refine E.GH.all (rs := [11]) (by rw [hops]; kernel_rfl) (by simp) (E.GHs.cons ((congrArg (fun (o : Array Oper) => o[11]?) hops).trans rfl) ?_ (E.GHs.nil))
      · refine E.GO.st rfl rfl rfl (E.ST.appendAt kI v1.heap.size (w0 := v1) (s := .tmp 14) (x := .tmp 16) rfl hu22 info3 rfl (by decide) (by decide) rfl rfl hC.c (Kd.C_below hVv.ts K) made22 K K.size (by have := hs.t; simp only [List.length_nil]; omega) fun u w3 r k gr n => ⟨E.gb_row hh gr (fun i hi => Kd.R_base hC.c i hi), ?_⟩)
        rw [List.nil_append] at r
        have b3' := blk_grown b3 gr (Kd.R_ne hC.c b3 (by decide))
        have hh2 := (E.gb_row hh gr (fun i hi => Kd.R_base hC.c i hi))
        have hC2 := (hC.s13.grow r gr n).s13
        clear hh hC r gr n
        obtain ⟨A', a', hva⟩ := Kd.R_slice hC2.a
        obtain ⟨B', b', hvb⟩ := Kd.R_slice hC2.b
        obtain ⟨C', c', hvc⟩ := Kd.R_slice hC2.c
        subst hva hvb hvc
        refine E.GH.take (i := 12) ((congrArg (fun (o : Array Oper) => o[12]?) hops).trans rfl) (by rw [hops]; kernel_rfl) (by rw [hops]; kernel_rfl) (by rw [hops]; kernel_rfl) hcalm rfl rfl rfl (fun w' hS => E.Runs.build rfl (E.epc rfl (E.epc rfl (E.epc rfl E.epn))) (build25 _ _ _ _ _ _ _ _ _)) ?_
        exact E.GH.meet (SF g3 A' a' B' b' C' c' w3 hh2 k hC2 b3' h3) (by kernel_rfl) (E.subc rfl (E.subc rfl (E.subc rfl (E.subc rfl E.subn))))
    have S1111100 : ∀ (g3 : Nat) (va vb vc : Value) (W : World), v1.grownBy W none → Below v1.heap.size v1 W → E.Cb v1.heap.size W va vb vc V.ps V.qs [] → E.GH Try.prog cops cQ 43 (fun W => v1.grownBy W none) 4 #[true, true, true, true, true, true, true, true, true, true, true, false, false, false, false] [(1, .pointer (some ⟨g1, 0, none⟩)), (2, .pointer (some ⟨g2, 0, none⟩)), (8, .slice m.A V.ps.length m.a), (12, .slice m.B V.qs.length m.b), (16, .slice m.C V.ts.length m.c), (9, va), (13, vb), (14, vc)] W := by
      intro g3 va vb vc W hh K hC
      refine E.GH.all (rs := [11, 13]) (by rw [hops]; kernel_rfl) (by simp) (E.GHs.cons ((congrArg (fun (o : Array Oper) => o[11]?) hops).trans rfl) ?_ (E.GHs.cons ((congrArg (fun (o : Array Oper) => o[13]?) hops).trans rfl) ?_ (E.GHs.nil)))
      · refine E.GO.st rfl rfl rfl (E.ST.appendAt kI v1.heap.size (w0 := v1) (s := .tmp 14) (x := .tmp 16) rfl hu22 info3 rfl (by decide) (by decide) rfl rfl hC.c (Kd.C_below hVv.ts K) made22 K K.size (by have := hs.t; simp only [List.length_nil]; omega) fun u w3 r k gr n => ⟨E.gb_row hh gr (fun i hi => Kd.R_base hC.c i hi), ?_⟩)
        rw [List.nil_append] at r
        exact E.GH.meet (S1111110 0 va vb u w3 (E.gb_row hh gr (fun i hi => Kd.R_base hC.c i hi)) k ((hC.s13.grow r gr n).s13)) (by kernel_rfl) (E.subc rfl (E.subc rfl (E.subc rfl (E.subc rfl (E.subc rfl (E.subc rfl (E.subc rfl (E.subc rfl (E.subn)))))))))
      · refine E.GO.st rfl rfl rfl (E.ST.alloc rfl info25z fun g3 w3 e3 b3 l3 => ⟨hh.trans (E.gbB l3), ?_⟩)
        exact E.GH.meet (S1111101 g3 va vb vc w3 (hh.trans (E.gbB l3)) (below_step K l3) (hC.below l3) b3 (by rw [e3]; exact K.size)) (by kernel_rfl) (E.subc rfl (E.subc rfl (E.subc rfl (E.subc rfl (E.subc rfl (E.subc rfl (E.subc rfl (E.subc rfl (E.subc rfl (E.subn))))))))))
    have S1111001 : ∀ (g3 : Nat) (va vb vc : Value) (W : World), v1.grownBy W none → Below v1.heap.size v1 W → E.Cb v1.heap.size W va vb vc V.ps [] [] → W.heap[g3]? = some (.cells #[.slice none 0 0, .slice none 0 0, .slice none 0 0, .slice none 0 0] 25 (0, 0)) → v1.heap.size ≤ g3 → E.GH Try.prog cops cQ 43 (fun W => v1.grownBy W none) 4 #[true, true, true, true, true, true, true, false, true, true, true, false, false, true, false] [(1, .pointer (some ⟨g1, 0, none⟩)), (2, .pointer (some ⟨g2, 0, none⟩)), (8, .slice m.A V.ps.length m.a), (12, .slice m.B V.qs.length m.b), (16, .slice m.C V.ts.length m.c), (3, .pointer (some ⟨g3, 0, none⟩)), (9, va), (10, vb), (14, vc)] W := by
      intro g3 va vb vc W hh K hC b3 h3
      refine E.GH.all (rs := [7]) (by rw [hops]; kernel_rfl) (by simp) (E.GHs.cons ((congrArg (fun (o : Array Oper) => o[7]?) hops).trans rfl) ?_ (E.GHs.nil))
      · refine E.GO.st rfl rfl rfl (E.ST.appendAt kI v1.heap.size (w0 := v1) (s := .tmp 10) (x := .tmp 12) rfl hu22 info3 rfl (by decide) (by decide) rfl rfl hC.b (Kd.C_below hVv.qs K) made22 K K.size (by have := hs.q; simp only [List.length_nil]; omega) fun u w3 r k gr n => ⟨E.gb_row hh gr (fun i hi => Kd.R_base hC.b i hi), ?_⟩)
        rw [List.nil_append] at r
        exact E.GH.meet (S1111101 g3 va u vc w3 (E.gb_row hh gr (fun i hi => Kd.R_base hC.b i hi)) k ((hC.s12.grow r gr n).s12) (blk_grown b3 gr (Kd.R_ne hC.b b3 (by decide))) h3) (by kernel_rfl) (E.subc rfl (E.subc rfl (E.subc rfl (E.subc rfl (E.subc rfl (E.subc rfl (E.subc rfl (E.subc rfl (E.subc rfl (E.subn))))))))))
    have S1101101 : ∀ (g3 : Nat) (va vb vc : Value) (W : World), v1.grownBy W none → Below v1.heap.size v1 W → E.Cb v1.heap.size W va vb (.slice none 0 0) V.ps V.qs [] → W.heap[g3]? = some (.cells #[.slice none 0 0, .slice none 0 0, .slice none 0 0, .slice none 0 0] 25 (0, 0)) → v1.heap.size ≤ g3 → E.GH Try.prog cops cQ 43 (fun W => v1.grownBy W none) 4 #[true, true, true, true, true, true, true, true, false, true, true, false, false, true, false] [(1, .pointer (some ⟨g1, 0, none⟩)), (2, .pointer (some ⟨g2, 0, none⟩)), (8, .slice m.A V.ps.length m.a), (12, .slice m.B V.qs.length m.b), (16, .slice m.C V.ts.length m.c), (3, .pointer (some ⟨g3, 0, none⟩)), (9, va), (13, vb)] W := by
      intro g3 va vb vc W hh K hC b3 h3
      refine E.GH.all (rs := [8]) (by rw [hops]; kernel_rfl) (by simp) (E.GHs.cons ((congrArg (fun (o : Array Oper) => o[8]?) hops).trans rfl) ?_ (E.GHs.nil))
      · refine E.GO.st rfl rfl rfl (E.ST.litAt kI v1.heap.size (w0 := v1) (ys := ([] : List Int)) (inner := []) rfl rfl E.epn lit22n (Reps.none _ _) K K.size (by simp) fun u w3 r k l n => ⟨hh.trans (E.gbB l), ?_⟩)
        exact E.GH.meet (S1111101 g3 va vb u w3 (hh.trans (E.gbB l)) k ((hC.s13.make r l n).s13) (blk_below b3 l) h3) (by kernel_rfl) (E.subc rfl (E.subc rfl (E.subc rfl (E.subc rfl (E.subc rfl (E.subc rfl (E.subc rfl (E.subc rfl (E.subc rfl (E.subn))))))))))
    have S1111000 : ∀ (g3 : Nat) (va vb vc : Value) (W : World), v1.grownBy W none → Below v1.heap.size v1 W → E.Cb v1.heap.size W va vb vc V.ps [] [] → E.GH Try.prog cops cQ 43 (fun W => v1.grownBy W none) 5 #[true, true, true, true, true, true, true, false, true, true, true, false, false, false, false] [(1, .pointer (some ⟨g1, 0, none⟩)), (2, .pointer (some ⟨g2, 0, none⟩)), (8, .slice m.A V.ps.length m.a), (12, .slice m.B V.qs.length m.b), (16, .slice m.C V.ts.length m.c), (9, va), (10, vb), (14, vc)] W := by
      intro g3 va vb vc W hh K hC
      refine E.GH.all (rs := [7, 13]) (by rw [hops]; kernel_rfl) (by simp) (E.GHs.cons ((congrArg (fun (o : Array Oper) => o[7]?) hops).trans rfl) ?_ (E.GHs.cons ((congrArg (fun (o : Array Oper) => o[13]?) hops).trans rfl) ?_ (E.GHs.nil)))
      · refine E.GO.st rfl rfl rfl (E.ST.appendAt kI v1.heap.size (w0 := v1) (s := .tmp 10) (x := .tmp 12) rfl hu22 info3 rfl (by decide) (by decide) rfl rfl hC.b (Kd.C_below hVv.qs K) made22 K K.size (by have := hs.q; simp only [List.length_nil]; omega) fun u w3 r k gr n => ⟨E.gb_row hh gr (fun i hi => Kd.R_base hC.b i hi), ?_⟩)
        rw [List.nil_append] at r
        exact E.GH.meet (S1111100 0 va u vc w3 (E.gb_row hh gr (fun i hi => Kd.R_base hC.b i hi)) k ((hC.s12.grow r gr n).s12)) (by kernel_rfl) (E.subc rfl (E.subc rfl (E.subc rfl (E.subc rfl (E.subc rfl (E.subc rfl (E.subc rfl (E.subc rfl (E.subn)))))))))
      · refine E.GO.st rfl rfl rfl (E.ST.alloc rfl info25z fun g3 w3 e3 b3 l3 => ⟨hh.trans (E.gbB l3), ?_⟩)
        exact E.GH.meet (S1111001 g3 va vb vc w3 (hh.trans (E.gbB l3)) (below_step K l3) (hC.below l3) b3 (by rw [e3]; exact K.size)) (by kernel_rfl) (E.subc rfl (E.subc rfl (E.subc rfl (E.subc rfl (E.subc rfl (E.subc rfl (E.subc rfl (E.subc rfl (E.subc rfl (E.subn))))))))))
    have S1110001 : ∀ (g3 : Nat) (va vb vc : Value) (W : World), v1.grownBy W none → Below v1.heap.size v1 W → E.Cb v1.heap.size W va vb vc [] [] [] → W.heap[g3]? = some (.cells #[.slice none 0 0, .slice none 0 0, .slice none 0 0, .slice none 0 0] 25 (0, 0)) → v1.heap.size ≤ g3 → E.GH Try.prog cops cQ 43 (fun W => v1.grownBy W none) 5 #[true, true, true, false, true, true, true, false, true, true, true, false, false, true, false] [(1, .pointer (some ⟨g1, 0, none⟩)), (2, .pointer (some ⟨g2, 0, none⟩)), (8, .slice m.A V.ps.length m.a), (12, .slice m.B V.qs.length m.b), (16, .slice m.C V.ts.length m.c), (3, .pointer (some ⟨g3, 0, none⟩)), (6, va), (10, vb), (14, vc)] W := by
      intro g3 va vb vc W hh K hC b3 h3
      refine E.GH.all (rs := [3]) (by rw [hops]; kernel_rfl) (by simp) (E.GHs.cons ((congrArg (fun (o : Array Oper) => o[3]?) hops).trans rfl) ?_ (E.GHs.nil))
      · refine E.GO.st rfl rfl rfl (E.ST.appendAt kI v1.heap.size (w0 := v1) (s := .tmp 6) (x := .tmp 8) rfl hu22 info3 rfl (by decide) (by decide) rfl rfl hC.a (Kd.C_below hVv.ps K) made22 K K.size (by have := hs.p; simp only [List.length_nil]; omega) fun u w3 r k gr n => ⟨E.gb_row hh gr (fun i hi => Kd.R_base hC.a i hi), ?_⟩)
        rw [List.nil_append] at r
        exact E.GH.meet (S1111001 g3 u vb vc w3 (E.gb_row hh gr (fun i hi => Kd.R_base hC.a i hi)) k ((hC.grow r gr n)) (blk_grown b3 gr (Kd.R_ne hC.a b3 (by decide))) h3) (by kernel_rfl) (E.subc rfl (E.subc rfl (E.subc rfl (E.subc rfl (E.subc rfl (E.subc rfl (E.subc rfl (E.subc rfl (E.subc rfl (E.subn))))))))))
    have S1101100 : ∀ (g3 : Nat) (va vb vc : Value) (W : World), v1.grownBy W none → Below v1.heap.size v1 W → E.Cb v1.heap.size W va vb (.slice none 0 0) V.ps V.qs [] → E.GH Try.prog cops cQ 43 (fun W => v1.grownBy W none) 5 #[true, true, true, true, true, true, true, true, false, true, true, false, false, false, false] [(1, .pointer (some ⟨g1, 0, none⟩)), (2, .pointer (some ⟨g2, 0, none⟩)), (8, .slice m.A V.ps.length m.a), (12, .slice m.B V.qs.length m.b), (16, .slice m.C V.ts.length m.c), (9, va), (13, vb)] W := by
      intro g3 va vb vc W hh K hC
      refine E.GH.all (rs := [8, 13]) (by rw [hops]; kernel_rfl) (by simp) (E.GHs.cons ((congrArg (fun (o : Array Oper) => o[8]?) hops).trans rfl) ?_ (E.GHs.cons ((congrArg (fun (o : Array Oper) => o[13]?) hops).trans rfl) ?_ (E.GHs.nil)))
      · refine E.GO.st rfl rfl rfl (E.ST.litAt kI v1.heap.size (w0 := v1) (ys := ([] : List Int)) (inner := []) rfl rfl E.epn lit22n (Reps.none _ _) K K.size (by simp) fun u w3 r k l n => ⟨hh.trans (E.gbB l), ?_⟩)
        exact E.GH.meet (S1111100 0 va vb u w3 (hh.trans (E.gbB l)) k ((hC.s13.make r l n).s13)) (by kernel_rfl) (E.subc rfl (E.subc rfl (E.subc rfl (E.subc rfl (E.subc rfl (E.subc rfl (E.subc rfl (E.subc rfl (E.subn)))))))))
      · refine E.GO.st rfl rfl rfl (E.ST.alloc rfl info25z fun g3 w3 e3 b3 l3 => ⟨hh.trans (E.gbB l3), ?_⟩)
        exact E.GH.meet (S1101101 g3 va vb vc w3 (hh.trans (E.gbB l3)) (below_step K l3) (hC.below l3) b3 (by rw [e3]; exact K.size)) (by kernel_rfl) (E.subc rfl (E.subc rfl (E.subc rfl (E.subc rfl (E.subc rfl (E.subc rfl (E.subc rfl (E.subc rfl (E.subn)))))))))
    have S1101001 : ∀ (g3 : Nat) (va vb vc : Value) (W : World), v1.grownBy W none → Below v1.heap.size v1 W → E.Cb v1.heap.size W va vb (.slice none 0 0) V.ps [] [] → W.heap[g3]? = some (.cells #[.slice none 0 0, .slice none 0 0, .slice none 0 0, .slice none 0 0] 25 (0, 0)) → v1.heap.size ≤ g3 → E.GH Try.prog cops cQ 43 (fun W => v1.grownBy W none) 5 #[true, true, true, true, true, true, true, false, false, true, true, false, false, true, false] [(1, .pointer (some ⟨g1, 0, none⟩)), (2, .pointer (some ⟨g2, 0, none⟩)), (8, .slice m.A V.ps.length m.a), (12, .slice m.B V.qs.length m.b), (16, .slice m.C V.ts.length m.c), (3, .pointer (some ⟨g3, 0, none⟩)), (9, va), (10, vb)] W := by
      intro g3 va vb vc W hh K hC b3 h3
      refine E.GH.all (rs := [7, 8]) (by rw [hops]; kernel_rfl) (by simp) (E.GHs.cons ((congrArg (fun (o : Array Oper) => o[7]?) hops).trans rfl) ?_ (E.GHs.cons ((congrArg (fun (o : Array Oper) => o[8]?) hops).trans rfl) ?_ (E.GHs.nil)))
      · refine E.GO.st rfl rfl rfl (E.ST.appendAt kI v1.heap.size (w0 := v1) (s := .tmp 10) (x := .tmp 12) rfl hu22 info3 rfl (by decide) (by decide) rfl rfl hC.b (Kd.C_below hVv.qs K) made22 K K.size (by have := hs.q; simp only [List.length_nil]; omega) fun u w3 r k gr n => ⟨E.gb_row hh gr (fun i hi => Kd.R_base hC.b i hi), ?_⟩)
        rw [List.nil_append] at r
        exact E.GH.meet (S1101101 g3 va u vc w3 (E.gb_row hh gr (fun i hi => Kd.R_base hC.b i hi)) k ((hC.s12.grow r gr n).s12) (blk_grown b3 gr (Kd.R_ne hC.b b3 (by decide))) h3) (by kernel_rfl) (E.subc rfl (E.subc rfl (E.subc rfl (E.subc rfl (E.subc rfl (E.subc rfl (E.subc rfl (E.subc rfl (E.subn)))))))))
      · refine E.GO.st rfl rfl rfl (E.ST.litAt kI v1.heap.size (w0 := v1) (ys := ([] : List Int)) (inner := []) rfl rfl E.epn lit22n (Reps.none _ _) K K.size (by simp) fun u w3 r k l n => ⟨hh.trans (E.gbB l), ?_⟩)
        exact E.GH.meet (S1111001 g3 va vb u w3 (hh.trans (E.gbB l)) k ((hC.s13.make r l n).s13) (blk_below b3 l) h3) (by kernel_rfl) (E.subc rfl (E.subc rfl (E.subc rfl (E.subc rfl (E.subc rfl (E.subc rfl (E.subc rfl (E.subc rfl (E.subc rfl (E.subn))))))))))
    have S1011001 : ∀ (g3 : Nat) (va vb vc : Value) (W : World), v1.grownBy W none → Below v1.heap.size v1 W → E.Cb v1.heap.size W va (.slice none 0 0) vc V.ps [] [] → W.heap[g3]? = some (.cells #[.slice none 0 0, .slice none 0 0, .slice none 0 0, .slice none 0 0] 25 (0, 0)) → v1.heap.size ≤ g3 → E.GH Try.prog cops cQ 43 (fun W => v1.grownBy W none) 5 #[true, true, true, true, false, true, true, false, true, true, true, false, false, true, false] [(1, .pointer (some ⟨g1, 0, none⟩)), (2, .pointer (some ⟨g2, 0, none⟩)), (8, .slice m.A V.ps.length m.a), (12, .slice m.B V.qs.length m.b), (16, .slice m.C V.ts.length m.c), (3, .pointer (some ⟨g3, 0, none⟩)), (9, va), (14, vc)] W := by
      intro g3 va vb vc W hh K hC b3 h3
      refine E.GH.all (rs := [4]) (by rw [hops]; kernel_rfl) (by simp) (E.GHs.cons ((congrArg (fun (o : Array Oper) => o[4]?) hops).trans rfl) ?_ (E.GHs.nil))
      · refine E.GO.st rfl rfl rfl (E.ST.litAt kI v1.heap.size (w0 := v1) (ys := ([] : List Int)) (inner := []) rfl rfl E.epn lit22n (Reps.none _ _) K K.size (by simp) fun u w3 r k l n => ⟨hh.trans (E.gbB l), ?_⟩)
        exact E.GH.meet (S1111001 g3 va u vc w3 (hh.trans (E.gbB l)) k ((hC.s12.make r l n).s12) (blk_below b3 l) h3) (by kernel_rfl) (E.subc rfl (E.subc rfl (E.subc rfl (E.subc rfl (E.subc rfl (E.subc rfl (E.subc rfl (E.subc rfl (E.subc rfl (E.subn))))))))))
    have S1110000 : ∀ (g3 : Nat) (va vb vc : Value) (W : World), v1.grownBy W none → Below v1.heap.size v1 W → E.Cb v1.heap.size W va vb vc [] [] [] → E.GH Try.prog cops cQ 43 (fun W => v1.grownBy W none) 6 #[true, true, true, false, true, true, true, false, true, true, true, false, false, false, false] [(1, .pointer (some ⟨g1, 0, none⟩)), (2, .pointer (some ⟨g2, 0, none⟩)), (8, .slice m.A V.ps.length m.a), (12, .slice m.B V.qs.length m.b), (16, .slice m.C V.ts.length m.c), (6, va), (10, vb), (14, vc)] W := by
      intro g3 va vb vc W hh K hC
      refine E.GH.all (rs := [3, 13]) (by rw [hops]; kernel_rfl) (by simp) (E.GHs.cons ((congrArg (fun (o : Array Oper) => o[3]?) hops).trans rfl) ?_ (E.GHs.cons ((congrArg (fun (o : Array Oper) => o[13]?) hops).trans rfl) ?_ (E.GHs.nil)))
      · refine E.GO.st rfl rfl rfl (E.ST.appendAt kI v1.heap.size (w0 := v1) (s := .tmp 6) (x := .tmp 8) rfl hu22 info3 rfl (by decide) (by decide) rfl rfl hC.a (Kd.C_below hVv.ps K) made22 K K.size (by have := hs.p; simp only [List.length_nil]; omega) fun u w3 r k gr n => ⟨E.gb_row hh gr (fun i hi => Kd.R_base hC.a i hi), ?_⟩)
        rw [List.nil_append] at r
        exact E.GH.meet (S1111000 0 u vb vc w3 (E.gb_row hh gr (fun i hi => Kd.R_base hC.a i hi)) k ((hC.grow r gr n))) (by kernel_rfl) (E.subc rfl (E.subc rfl (E.subc rfl (E.subc rfl (E.subc rfl (E.subc rfl (E.subc rfl (E.subc rfl (E.subn)))))))))
      · refine E.GO.st rfl rfl rfl (E.ST.alloc rfl info25z fun g3 w3 e3 b3 l3 => ⟨hh.trans (E.gbB l3), ?_⟩)
        exact E.GH.meet (S1110001 g3 va vb vc w3 (hh.trans (E.gbB l3)) (below_step K l3) (hC.below l3) b3 (by rw [e3]; exact K.size)) (by kernel_rfl) (E.subc rfl (E.subc rfl (E.subc rfl (E.subc rfl (E.subc rfl (E.subc rfl (E.subc rfl (E.subc rfl (E.subc rfl (E.subn))))))))))
    have S1101000 : ∀ (g3 : Nat) (va vb vc : Value) (W : World), v1.grownBy W none → Below v1.heap.size v1 W → E.Cb v1.heap.size W va vb (.slice none 0 0) V.ps [] [] → E.GH Try.prog cops cQ 43 (fun W => v1.grownBy W none) 6 #[true, true, true, true, true, true, true, false, false, true, true, false, false, false, false] [(1, .pointer (some ⟨g1, 0, none⟩)), (2, .pointer (some ⟨g2, 0, none⟩)), (8, .slice m.A V.ps.length m.a), (12, .slice m.B V.qs.length m.b), (16, .slice m.C V.ts.length m.c), (9, va), (10, vb)] W := by
      intro g3 va vb vc W hh K hC
      refine E.GH.all (rs := [7, 8, 13]) (by rw [hops]; kernel_rfl) (by simp) (E.GHs.cons ((congrArg (fun (o : Array Oper) => o[7]?) hops).trans rfl) ?_ (E.GHs.cons ((congrArg (fun (o : Array Oper) => o[8]?) hops).trans rfl) ?_ (E.GHs.cons ((congrArg (fun (o : Array Oper) => o[13]?) hops).trans rfl) ?_ (E.GHs.nil))))
      · refine E.GO.st rfl rfl rfl (E.ST.appendAt kI v1.heap.size (w0 := v1) (s := .tmp 10) (x := .tmp 12) rfl hu22 info3 rfl (by decide) (by decide) rfl rfl hC.b (Kd.C_below hVv.qs K) made22 K K.size (by have := hs.q; simp only [List.length_nil]; omega) fun u w3 r k gr n => ⟨E.gb_row hh gr (fun i hi => Kd.R_base hC.b i hi), ?_⟩)
        rw [List.nil_append] at r
        exact E.GH.meet (S1101100 0 va u vc w3 (E.gb_row hh gr (fun i hi => Kd.R_base hC.b i hi)) k ((hC.s12.grow r gr n).s12)) (by kernel_rfl) (E.subc rfl (E.subc rfl (E.subc rfl (E.subc rfl (E.subc rfl (E.subc rfl (E.subc rfl (E.subn))))))))
      · refine E.GO.st rfl rfl rfl (E.ST.litAt kI v1.heap.size (w0 := v1) (ys := ([] : List Int)) (inner := []) rfl rfl E.epn lit22n (Reps.none _ _) K K.size (by simp) fun u w3 r k l n => ⟨hh.trans (E.gbB l), ?_⟩)
        exact E.GH.meet (S1111000 0 va vb u w3 (hh.trans (E.gbB l)) k ((hC.s13.make r l n).s13)) (by kernel_rfl) (E.subc rfl (E.subc rfl (E.subc rfl (E.subc rfl (E.subc rfl (E.subc rfl (E.subc rfl (E.subc rfl (E.subn)))))))))
      · refine E.GO.st rfl rfl rfl (E.ST.alloc rfl info25z fun g3 w3 e3 b3 l3 => ⟨hh.trans (E.gbB l3), ?_⟩)
        exact E.GH.meet (S1101001 g3 va vb vc w3 (hh.trans (E.gbB l3)) (below_step K l3) (hC.below l3) b3 (by rw [e3]; exact K.size)) (by kernel_rfl) (E.subc rfl (E.subc rfl (E.subc rfl (E.subc rfl (E.subc rfl (E.subc rfl (E.subc rfl (E.subc rfl (E.subn)))))))))
    have S1100001 : ∀ (g3 : Nat) (va vb vc : Value) (W : World), v1.grownBy W none → Below v1.heap.size v1 W → E.Cb v1.heap.size W va vb (.slice none 0 0) [] [] [] → W.heap[g3]? = some (.cells #[.slice none 0 0, .slice none 0 0, .slice none 0 0, .slice none 0 0] 25 (0, 0)) → v1.heap.size ≤ g3 → E.GH Try.prog cops cQ 43 (fun W => v1.grownBy W none) 6 #[true, true, true, false, true, true, true, false, false, true, true, false, false, true, false] [(1, .pointer (some ⟨g1, 0, none⟩)), (2, .pointer (some ⟨g2, 0, none⟩)), (8, .slice m.A V.ps.length m.a), (12, .slice m.B V.qs.length m.b), (16, .slice m.C V.ts.length m.c), (3, .pointer (some ⟨g3, 0, none⟩)), (6, va), (10, vb)] W := by
      intro g3 va vb vc W hh K hC b3 h3
      refine E.GH.all (rs := [3, 8]) (by rw [hops]; kernel_rfl) (by simp) (E.GHs.cons ((congrArg (fun (o : Array Oper) => o[3]?) hops).trans rfl) ?_ (E.GHs.cons ((congrArg (fun (o : Array Oper) => o[8]?) hops).trans rfl) ?_ (E.GHs.nil)))
      · refine E.GO.st rfl rfl rfl (E.ST.appendAt kI v1.heap.size (w0 := v1) (s := .tmp 6) (x := .tmp 8) rfl hu22 info3 rfl (by decide) (by decide) rfl rfl hC.a (Kd.C_below hVv.ps K) made22 K K.size (by have := hs.p; simp only [List.length_nil]; omega) fun u w3 r k gr n => ⟨E.gb_row hh gr (fun i hi => Kd.R_base hC.a i hi), ?_⟩)
        rw [List.nil_append] at r
        exact E.GH.meet (S1101001 g3 u vb vc w3 (E.gb_row hh gr (fun i hi => Kd.R_base hC.a i hi)) k ((hC.grow r gr n)) (blk_grown b3 gr (Kd.R_ne hC.a b3 (by decide))) h3) (by kernel_rfl) (E.subc rfl (E.subc rfl (E.subc rfl (E.subc rfl (E.subc rfl (E.subc rfl (E.subc rfl (E.subc rfl (E.subn)))))))))
      · refine E.GO.st rfl rfl rfl (E.ST.litAt kI v1.heap.size (w0 := v1) (ys := ([] : List Int)) (inner := []) rfl rfl E.epn lit22n (Reps.none _ _) K K.size (by simp) fun u w3 r k l n => ⟨hh.trans (E.gbB l), ?_⟩)
        exact E.GH.meet (S1110001 g3 va vb u w3 (hh.trans (E.gbB l)) k ((hC.s13.make r l n).s13) (blk_below b3 l) h3) (by kernel_rfl) (E.subc rfl (E.subc rfl (E.subc rfl (E.subc rfl (E.subc rfl (E.subc rfl (E.subc rfl (E.subc rfl (E.subc rfl (E.subn))))))))))
    have S1011000 : ∀ (g3 : Nat) (va vb vc : Value) (W : World), v1.grownBy W none → Below v1.heap.size v1 W → E.Cb v1.heap.size W va (.slice none 0 0) vc V.ps [] [] → E.GH Try.prog cops cQ 43 (fun W => v1.grownBy W none) 6 #[true, true, true, true, false, true, true, false, true, true, true, false, false, false, false] [(1, .pointer (some ⟨g1, 0, none⟩)), (2, .pointer (some ⟨g2, 0, none⟩)), (8, .slice m.A V.ps.length m.a), (12, .slice m.B V.qs.length m.b), (16, .slice m.C V.ts.length m.c), (9, va), (14, vc)] W := by
      intro g3 va vb vc W hh K hC
      refine E.GH.all (rs := [4, 13]) (by rw [hops]; kernel_rfl) (by simp) (E.GHs.cons ((congrArg (fun (o : Array Oper) => o[4]?) hops).trans rfl) ?_ (E.GHs.cons ((congrArg (fun (o : Array Oper) => o[13]?) hops).trans rfl) ?_ (E.GHs.nil)))
      · refine E.GO.st rfl rfl rfl (E.ST.litAt kI v1.heap.size (w0 := v1) (ys := ([] : List Int)) (inner := []) rfl rfl E.epn lit22n (Reps.none _ _) K K.size (by simp) fun u w3 r k l n => ⟨hh.trans (E.gbB l), ?_⟩)
        exact E.GH.meet (S1111000 0 va u vc w3 (hh.trans (E.gbB l)) k ((hC.s12.make r l n).s12)) (by kernel_rfl) (E.subc rfl (E.subc rfl (E.subc rfl (E.subc rfl (E.subc rfl (E.subc rfl (E.subc rfl (E.subc rfl (E.subn)))))))))
      · refine E.GO.st rfl rfl rfl (E.ST.alloc rfl info25z fun g3 w3 e3 b3 l3 => ⟨hh.trans (E.gbB l3), ?_⟩)
        exact E.GH.meet (S1011001 g3 va vb vc w3 (hh.trans (E.gbB l3)) (below_step K l3) (hC.below l3) b3 (by rw [e3]; exact K.size)) (by kernel_rfl) (E.subc rfl (E.subc rfl (E.subc rfl (E.subc rfl (E.subc rfl (E.subc rfl (E.subc rfl (E.subc rfl (E.subn)))))))))
    have S1010001 : ∀ (g3 : Nat) (va vb vc : Value) (W : World), v1.grownBy W none → Below v1.heap.size v1 W → E.Cb v1.heap.size W va (.slice none 0 0) vc [] [] [] → W.heap[g3]? = some (.cells #[.slice none 0 0, .slice none 0 0, .slice none 0 0, .slice none 0 0] 25 (0, 0)) → v1.heap.size ≤ g3 → E.GH Try.prog cops cQ 43 (fun W => v1.grownBy W none) 6 #[true, true, true, false, false, true, true, false, true, true, true, false, false, true, false] [(1, .pointer (some ⟨g1, 0, none⟩)), (2, .pointer (some ⟨g2, 0, none⟩)), (8, .slice m.A V.ps.length m.a), (12, .slice m.B V.qs.length m.b), (16, .slice m.C V.ts.length m.c), (3, .pointer (some ⟨g3, 0, none⟩)), (6, va), (14, vc)] W := by
      intro g3 va vb vc W hh K hC b3 h3
      refine E.GH.all (rs := [3, 4]) (by rw [hops]; kernel_rfl) (by simp) (E.GHs.cons ((congrArg (fun (o : Array Oper) => o[3]?) hops).trans rfl) ?_ (E.GHs.cons ((congrArg (fun (o : Array Oper) => o[4]?) hops).trans rfl) ?_ (E.GHs.nil)))
      · refine E.GO.st rfl rfl rfl (E.ST.appendAt kI v1.heap.size (w0 := v1) (s := .tmp 6) (x := .tmp 8) rfl hu22 info3 rfl (by decide) (by decide) rfl rfl hC.a (Kd.C_below hVv.ps K) made22 K K.size (by have := hs.p; simp only [List.length_nil]; omega) fun u w3 r k gr n => ⟨E.gb_row hh gr (fun i hi => Kd.R_base hC.a i hi), ?_⟩)
        rw [List.nil_append] at r
        exact E.GH.meet (S1011001 g3 u vb vc w3 (E.gb_row hh gr (fun i hi => Kd.R_base hC.a i hi)) k ((hC.grow r gr n)) (blk_grown b3 gr (Kd.R_ne hC.a b3 (by decide))) h3) (by kernel_rfl) (E.subc rfl (E.subc rfl (E.subc rfl (E.subc rfl (E.subc rfl (E.subc rfl (E.subc rfl (E.subc rfl (E.subn)))))))))
      · refine E.GO.st rfl rfl rfl (E.ST.litAt kI v1.heap.size (w0 := v1) (ys := ([] : List Int)) (inner := []) rfl rfl E.epn lit22n (Reps.none _ _) K K.size (by simp) fun u w3 r k l n => ⟨hh.trans (E.gbB l), ?_⟩)
        exact E.GH.meet (S1110001 g3 va u vc w3 (hh.trans (E.gbB l)) k ((hC.s12.make r l n).s12) (blk_below b3 l) h3) (by kernel_rfl) (E.subc rfl (E.subc rfl (E.subc rfl (E.subc rfl (E.subc rfl (E.subc rfl (E.subc rfl (E.subc rfl (E.subc rfl (E.subn))))))))))
    have S1001001 : ∀ (g3 : Nat) (va vb vc : Value) (W : World), v1.grownBy W none → Below v1.heap.size v1 W → E.Cb v1.heap.size W va (.slice none 0 0) (.slice none 0 0) V.ps [] [] → W.heap[g3]? = some (.cells #[.slice none 0 0, .slice none 0 0, .slice none 0 0, .slice none 0 0] 25 (0, 0)) → v1.heap.size ≤ g3 → E.GH Try.prog cops cQ 43 (fun W => v1.grownBy W none) 6 #[true, true, true, true, false, true, true, false, false, true, true, false, false, true, false] [(1, .pointer (some ⟨g1, 0, none⟩)), (2, .pointer (some ⟨g2, 0, none⟩)), (8, .slice m.A V.ps.length m.a), (12, .slice m.B V.qs.length m.b), (16, .slice m.C V.ts.length m.c), (3, .pointer (some ⟨g3, 0, none⟩)), (9, va)] W := by
      intro g3 va vb vc W hh K hC b3 h3
      refine E.GH.all (rs := [4, 8]) (by rw [hops]; kernel_rfl) (by simp) (E.GHs.cons ((congrArg (fun (o : Array Oper) => o[4]?) hops).trans rfl) ?_ (E.GHs.cons ((congrArg (fun (o : Array Oper) => o[8]?) hops).trans rfl) ?_ (E.GHs.nil)))
      · refine E.GO.st rfl rfl rfl (E.ST.litAt kI v1.heap.size (w0 := v1) (ys := ([] : List Int)) (inner := []) rfl rfl E.epn lit22n (Reps.none _ _) K K.size (by simp) fun u w3 r k l n => ⟨hh.trans (E.gbB l), ?_⟩)
        exact E.GH.meet (S1101001 g3 va u vc w3 (hh.trans (E.gbB l)) k ((hC.s12.make r l n).s12) (blk_below b3 l) h3) (by kernel_rfl) (E.subc rfl (E.subc rfl (E.subc rfl (E.subc rfl (E.subc rfl (E.subc rfl (E.subc rfl (E.subc rfl (E.subn)))))))))
      · refine E.GO.st rfl rfl rfl (E.ST.litAt kI v1.heap.size (w0 := v1) (ys := ([] : List Int)) (inner := []) rfl rfl E.epn lit22n (Reps.none _ _) K K.size (by simp) fun u w3 r k l n => ⟨hh.trans (E.gbB l), ?_⟩)
        exact E.GH.meet (S1011001 g3 va vb u w3 (hh.trans (E.gbB l)) k ((hC.s13.make r l n).s13) (blk_below b3 l) h3) (by kernel_rfl) (E.subc rfl (E.subc rfl (E.subc rfl (E.subc rfl (E.subc rfl (E.subc rfl (E.subc rfl (E.subc rfl (E.subn)))))))))
    have S0110001 : ∀ (g3 : Nat) (va vb vc : Value) (W : World), v1.grownBy W none → Below v1.heap.size v1 W → E.Cb v1.heap.size W (.slice none 0 0) vb vc [] [] [] → W.heap[g3]? = some (.cells #[.slice none 0 0, .slice none 0 0, .slice none 0 0, .slice none 0 0] 25 (0, 0)) → v1.heap.size ≤ g3 → E.GH Try.prog cops cQ 43 (fun W => v1.grownBy W none) 6 #[false, true, true, false, true, true, true, false, true, true, true, false, false, true, false] [(1, .pointer (some ⟨g1, 0, none⟩)), (2, .pointer (some ⟨g2, 0, none⟩)), (8, .slice m.A V.ps.length m.a), (12, .slice m.B V.qs.length m.b), (16, .slice m.C V.ts.length m.c), (3, .pointer (some ⟨g3, 0, none⟩)), (10, vb), (14, vc)] W := by
      intro g3 va vb vc W hh K hC b3 h3
      refine E.GH.all (rs := [0]) (by rw [hops]; kernel_rfl) (by simp) (E.GHs.cons ((congrArg (fun (o : Array Oper) => o[0]?) hops).trans rfl) ?_ (E.GHs.nil))
      · refine E.GO.st rfl rfl rfl (E.ST.litAt kI v1.heap.size (w0 := v1) (ys := ([] : List Int)) (inner := []) rfl rfl E.epn lit22n (Reps.none _ _) K K.size (by simp) fun u w3 r k l n => ⟨hh.trans (E.gbB l), ?_⟩)
        exact E.GH.meet (S1110001 g3 u vb vc w3 (hh.trans (E.gbB l)) k ((hC.make r l n)) (blk_below b3 l) h3) (by kernel_rfl) (E.subc rfl (E.subc rfl (E.subc rfl (E.subc rfl (E.subc rfl (E.subc rfl (E.subc rfl (E.subc rfl (E.subc rfl (E.subn))))))))))
    have S1100000 : ∀ (g3 : Nat) (va vb vc : Value) (W : World), v1.grownBy W none → Below v1.heap.size v1 W → E.Cb v1.heap.size W va vb (.slice none 0 0) [] [] [] → E.GH Try.prog cops cQ 43 (fun W => v1.grownBy W none) 7 #[true, true, true, false, true, true, true, false, false, true, true, false, false, false, false] [(1, .pointer (some ⟨g1, 0, none⟩)), (2, .pointer (some ⟨g2, 0, none⟩)), (8, .slice m.A V.ps.length m.a), (12, .slice m.B V.qs.length m.b), (16, .slice m.C V.ts.length m.c), (6, va), (10, vb)] W := by
      intro g3 va vb vc W hh K hC
      refine E.GH.all (rs := [3, 8, 13]) (by rw [hops]; kernel_rfl) (by simp) (E.GHs.cons ((congrArg (fun (o : Array Oper) => o[3]?) hops).trans rfl) ?_ (E.GHs.cons ((congrArg (fun (o : Array Oper) => o[8]?) hops).trans rfl) ?_ (E.GHs.cons ((congrArg (fun (o : Array Oper) => o[13]?) hops).trans rfl) ?_ (E.GHs.nil))))
      · refine E.GO.st rfl rfl rfl (E.ST.appendAt kI v1.heap.size (w0 := v1) (s := .tmp 6) (x := .tmp 8) rfl hu22 info3 rfl (by decide) (by decide) rfl rfl hC.a (Kd.C_below hVv.ps K) made22 K K.size (by have := hs.p; simp only [List.length_nil]; omega) fun u w3 r k gr n => ⟨E.gb_row hh gr (fun i hi => Kd.R_base hC.a i hi), ?_⟩)
        rw [List.nil_append] at r
        exact E.GH.meet (S1101000 0 u vb vc w3 (E.gb_row hh gr (fun i hi => Kd.R_base hC.a i hi)) k ((hC.grow r gr n))) (by kernel_rfl) (E.subc rfl (E.subc rfl (E.subc rfl (E.subc rfl (E.subc rfl (E.subc rfl (E.subc rfl (E.subn))))))))
      · refine E.GO.st rfl rfl rfl (E.ST.litAt kI v1.heap.size (w0 := v1) (ys := ([] : List Int)) (inner := []) rfl rfl E.epn lit22n (Reps.none _ _) K K.size (by simp) fun u w3 r k l n => ⟨hh.trans (E.gbB l), ?_⟩)
        exact E.GH.meet (S1110000 0 va vb u w3 (hh.trans (E.gbB l)) k ((hC.s13.make r l n).s13)) (by kernel_rfl) (E.subc rfl (E.subc rfl (E.subc rfl (E.subc rfl (E.subc rfl (E.subc rfl (E.subc rfl (E.subc rfl (E.subn)))))))))
      · refine E.GO.st rfl rfl rfl (E.ST.alloc rfl info25z fun g3 w3 e3 b3 l3 => ⟨hh.trans (E.gbB l3), ?_⟩)
        exact E.GH.meet (S1100001 g3 va vb vc w3 (hh.trans (E.gbB l3)) (below_step K l3) (hC.below l3) b3 (by rw [e3]; exact K.size)) (by kernel_rfl) (E.subc rfl (E.subc rfl (E.subc rfl (E.subc rfl (E.subc rfl (E.subc rfl (E.subc rfl (E.subc rfl (E.subn)))))))))
    have S1010000 : ∀ (g3 : Nat) (va vb vc : Value) (W : World), v1.grownBy W none → Below v1.heap.size v1 W → E.Cb v1.heap.size W va (.slice none 0 0) vc [] [] [] → E.GH Try.prog cops cQ 43 (fun W => v1.grownBy W none) 7 #[true, true, true, false, false, true, true, false, true, true, true, false, false, false, false] [(1, .pointer (some ⟨g1, 0, none⟩)), (2, .pointer (some ⟨g2, 0, none⟩)), (8, .slice m.A V.ps.length m.a), (12, .slice m.B V.qs.length m.b), (16, .slice m.C V.ts.length m.c), (6, va), (14, vc)] W := by
      intro g3 va vb vc W hh K hC
      refine E.GH.all (rs := [3, 4, 13]) (by rw [hops]; kernel_rfl) (by simp) (E.GHs.cons ((congrArg (fun (o : Array Oper) => o[3]?) hops).trans rfl) ?_ (E.GHs.cons ((congrArg (fun (o : Array Oper) => o[4]?) hops).trans rfl) ?_ (E.GHs.cons ((congrArg (fun (o : Array Oper) => o[13]?) hops).trans rfl) ?_ (E.GHs.nil))))
      · refine E.GO.st rfl rfl rfl (E.ST.appendAt kI v1.heap.size (w0 := v1) (s := .tmp 6) (x := .tmp 8) rfl hu22 info3 rfl (by decide) (by decide) rfl rfl hC.a (Kd.C_below hVv.ps K) made22 K K.size (by have := hs.p; simp only [List.length_nil]; omega) fun u w3 r k gr n => ⟨E.gb_row hh gr (fun i hi => Kd.R_base hC.a i hi), ?_⟩)
        rw [List.nil_append] at r
        exact E.GH.meet (S1011000 0 u vb vc w3 (E.gb_row hh gr (fun i hi => Kd.R_base hC.a i hi)) k ((hC.grow r gr n))) (by kernel_rfl) (E.subc rfl (E.subc rfl (E.subc rfl (E.subc rfl (E.subc rfl (E.subc rfl (E.subc rfl (E.subn))))))))
      · refine E.GO.st rfl rfl rfl (E.ST.litAt kI v1.heap.size (w0 := v1) (ys := ([] : List Int)) (inner := []) rfl rfl E.epn lit22n (Reps.none _ _) K K.size (by simp) fun u w3 r k l n => ⟨hh.trans (E.gbB l), ?_⟩)
        exact E.GH.meet (S1110000 0 va u vc w3 (hh.trans (E.gbB l)) k ((hC.s12.make r l n).s12)) (by kernel_rfl) (E.subc rfl (E.subc rfl (E.subc rfl (E.subc rfl (E.subc rfl (E.subc rfl (E.subc rfl (E.subc rfl (E.subn)))))))))
      · refine E.GO.st rfl rfl rfl (E.ST.alloc rfl info25z fun g3 w3 e3 b3 l3 => ⟨hh.trans (E.gbB l3), ?_⟩)
        exact E.GH.meet (S1010001 g3 va vb vc w3 (hh.trans (E.gbB l3)) (below_step K l3) (hC.below l3) b3 (by rw [e3]; exact K.size)) (by kernel_rfl) (E.subc rfl (E.subc rfl (E.subc rfl (E.subc rfl (E.subc rfl (E.subc rfl (E.subc rfl (E.subc rfl (E.subn)))))))))
    have S1001000 : ∀ (g3 : Nat) (va vb vc : Value) (W : World), v1.grownBy W none → Below v1.heap.size v1 W → E.Cb v1.heap.size W va (.slice none 0 0) (.slice none 0 0) V.ps [] [] → E.GH Try.prog cops cQ 43 (fun W => v1.grownBy W none) 7 #[true, true, true, true, false, true, true, false, false, true, true, false, false, false, false] [(1, .pointer (some ⟨g1, 0, none⟩)), (2, .pointer (some ⟨g2, 0, none⟩)), (8, .slice m.A V.ps.length m.a), (12, .slice m.B V.qs.length m.b), (16, .slice m.C V.ts.length m.c), (9, va)] W := by
      intro g3 va vb vc W hh K hC
      refine E.GH.all (rs := [4, 8, 13]) (by rw [hops]; kernel_rfl) (by simp) (E.GHs.cons ((congrArg (fun (o : Array Oper) => o[4]?) hops).trans rfl) ?_ (E.GHs.cons ((congrArg (fun (o : Array Oper) => o[8]?) hops).trans rfl) ?_ (E.GHs.cons ((congrArg (fun (o : Array Oper) => o[13]?) hops).trans rfl) ?_ (E.GHs.nil))))
      · refine E.GO.st rfl rfl rfl (E.ST.litAt kI v1.heap.size (w0 := v1) (ys := ([] : List Int)) (inner := []) rfl rfl E.epn lit22n (Reps.none _ _) K K.size (by simp) fun u w3 r k l n => ⟨hh.trans (E.gbB l), ?_⟩)
        exact E.GH.meet (S1101000 0 va u vc w3 (hh.trans (E.gbB l)) k ((hC.s12.make r l n).s12)) (by kernel_rfl) (E.subc rfl (E.subc rfl (E.subc rfl (E.subc rfl (E.subc rfl (E.subc rfl (E.subc rfl (E.subn))))))))
      · refine E.GO.st rfl rfl rfl (E.ST.litAt kI v1.heap.size (w0 := v1) (ys := ([] : List Int)) (inner := []) rfl rfl E.epn lit22n (Reps.none _ _) K K.size (by simp) fun u w3 r k l n => ⟨hh.trans (E.gbB l), ?_⟩)
        exact E.GH.meet (S1011000 0 va vb u w3 (hh.trans (E.gbB l)) k ((hC.s13.make r l n).s13)) (by kernel_rfl) (E.subc rfl (E.subc rfl (E.subc rfl (E.subc rfl (E.subc rfl (E.subc rfl (E.subc rfl (E.subn))))))))
      · refine E.GO.st rfl rfl rfl (E.ST.alloc rfl info25z fun g3 w3 e3 b3 l3 => ⟨hh.trans (E.gbB l3), ?_⟩)
        exact E.GH.meet (S1001001 g3 va vb vc w3 (hh.trans (E.gbB l3)) (below_step K l3) (hC.below l3) b3 (by rw [e3]; exact K.size)) (by kernel_rfl) (E.subc rfl (E.subc rfl (E.subc rfl (E.subc rfl (E.subc rfl (E.subc rfl (E.subc rfl (E.subn))))))))
    have S1000001 : ∀ (g3 : Nat) (va vb vc : Value) (W : World), v1.grownBy W none → Below v1.heap.size v1 W → E.Cb v1.heap.size W va (.slice none 0 0) (.slice none 0 0) [] [] [] → W.heap[g3]? = some (.cells #[.slice none 0 0, .slice none 0 0, .slice none 0 0, .slice none 0 0] 25 (0, 0)) → v1.heap.size ≤ g3 → E.GH Try.prog cops cQ 43 (fun W => v1.grownBy W none) 7 #[true, true, true, false, false, true, true, false, false, true, true, false, false, true, false] [(1, .pointer (some ⟨g1, 0, none⟩)), (2, .pointer (some ⟨g2, 0, none⟩)), (8, .slice m.A V.ps.length m.a), (12, .slice m.B V.qs.length m.b), (16, .slice m.C V.ts.length m.c), (3, .pointer (some ⟨g3, 0, none⟩)), (6, va)] W := by
      intro g3 va vb vc W hh K hC b3 h3
      refine E.GH.all (rs := [3, 4, 8]) (by rw [hops]; kernel_rfl) (by simp) (E.GHs.cons ((congrArg (fun (o : Array Oper) => o[3]?) hops).trans rfl) ?_ (E.GHs.cons ((congrArg (fun (o : Array Oper) => o[4]?) hops).trans rfl) ?_ (E.GHs.cons ((congrArg (fun (o : Array Oper) => o[8]?) hops).trans rfl) ?_ (E.GHs.nil))))
      · refine E.GO.st rfl rfl rfl (E.ST.appendAt kI v1.heap.size (w0 := v1) (s := .tmp 6) (x := .tmp 8) rfl hu22 info3 rfl (by decide) (by decide) rfl rfl hC.a (Kd.C_below hVv.ps K) made22 K K.size (by have := hs.p; simp only [List.length_nil]; omega) fun u w3 r k gr n => ⟨E.gb_row hh gr (fun i hi => Kd.R_base hC.a i hi), ?_⟩)
        rw [List.nil_append] at r
        exact E.GH.meet (S1001001 g3 u vb vc w3 (E.gb_row hh gr (fun i hi => Kd.R_base hC.a i hi)) k ((hC.grow r gr n)) (blk_grown b3 gr (Kd.R_ne hC.a b3 (by decide))) h3) (by kernel_rfl) (E.subc rfl (E.subc rfl (E.subc rfl (E.subc rfl (E.subc rfl (E.subc rfl (E.subc rfl (E.subn))))))))
      · refine E.GO.st rfl rfl rfl (E.ST.litAt kI v1.heap.size (w0 := v1) (ys := ([] : List Int)) (inner := []) rfl rfl E.epn lit22n (Reps.none _ _) K K.size (by simp) fun u w3 r k l n => ⟨hh.trans (E.gbB l), ?_⟩)
        exact E.GH.meet (S1100001 g3 va u vc w3 (hh.trans (E.gbB l)) k ((hC.s12.make r l n).s12) (blk_below b3 l) h3) (by kernel_rfl) (E.subc rfl (E.subc rfl (E.subc rfl (E.subc rfl (E.subc rfl (E.subc rfl (E.subc rfl (E.subc rfl (E.subn)))))))))
      · refine E.GO.st rfl rfl rfl (E.ST.litAt kI v1.heap.size (w0 := v1) (ys := ([] : List Int)) (inner := []) rfl rfl E.epn lit22n (Reps.none _ _) K K.size (by simp) fun u w3 r k l n => ⟨hh.trans (E.gbB l), ?_⟩)
        exact E.GH.meet (S1010001 g3 va vb u w3 (hh.trans (E.gbB l)) k ((hC.s13.make r l n).s13) (blk_below b3 l) h3) (by kernel_rfl) (E.subc rfl (E.subc rfl (E.subc rfl (E.subc rfl (E.subc rfl (E.subc rfl (E.subc rfl (E.subc rfl (E.subn)))))))))
    have S0110000 : ∀ (g3 : Nat) (va vb vc : Value) (W : World), v1.grownBy W none → Below v1.heap.size v1 W → E.Cb v1.heap.size W (.slice none 0 0) vb vc [] [] [] → E.GH Try.prog cops cQ 43 (fun W => v1.grownBy W none) 7 #[false, true, true, false, true, true, true, false, true, true, true, false, false, false, false] [(1, .pointer (some ⟨g1, 0, none⟩)), (2, .pointer (some ⟨g2, 0, none⟩)), (8, .slice m.A V.ps.length m.a), (12, .slice m.B V.qs.length m.b), (16, .slice m.C V.ts.length m.c), (10, vb), (14, vc)] W := by
      intro g3 va vb vc W hh K hC
      refine E.GH.all (rs := [0, 13]) (by rw [hops]; kernel_rfl) (by simp) (E.GHs.cons ((congrArg (fun (o : Array Oper) => o[0]?) hops).trans rfl) ?_ (E.GHs.cons ((congrArg (fun (o : Array Oper) => o[13]?) hops).trans rfl) ?_ (E.GHs.nil)))
      · refine E.GO.st rfl rfl rfl (E.ST.litAt kI v1.heap.size (w0 := v1) (ys := ([] : List Int)) (inner := []) rfl rfl E.epn lit22n (Reps.none _ _) K K.size (by simp) fun u w3 r k l n => ⟨hh.trans (E.gbB l), ?_⟩)
        exact E.GH.meet (S1110000 0 u vb vc w3 (hh.trans (E.gbB l)) k ((hC.make r l n))) (by kernel_rfl) (E.subc rfl (E.subc rfl (E.subc rfl (E.subc rfl (E.subc rfl (E.subc rfl (E.subc rfl (E.subc rfl (E.subn)))))))))
      · refine E.GO.st rfl rfl rfl (E.ST.alloc rfl info25z fun g3 w3 e3 b3 l3 => ⟨hh.trans (E.gbB l3), ?_⟩)
        exact E.GH.meet (S0110001 g3 va vb vc w3 (hh.trans (E.gbB l3)) (below_step K l3) (hC.below l3) b3 (by rw [e3]; exact K.size)) (by kernel_rfl) (E.subc rfl (E.subc rfl (E.subc rfl (E.subc rfl (E.subc rfl (E.subc rfl (E.subc rfl (E.subc rfl (E.subn)))))))))
    have S0100001 : ∀ (g3 : Nat) (va vb vc : Value) (W : World), v1.grownBy W none → Below v1.heap.size v1 W → E.Cb v1.heap.size W (.slice none 0 0) vb (.slice none 0 0) [] [] [] → W.heap[g3]? = some (.cells #[.slice none 0 0, .slice none 0 0, .slice none 0 0, .slice none 0 0] 25 (0, 0)) → v1.heap.size ≤ g3 → E.GH Try.prog cops cQ 43 (fun W => v1.grownBy W none) 7 #[false, true, true, false, true, true, true, false, false, true, true, false, false, true, false] [(1, .pointer (some ⟨g1, 0, none⟩)), (2, .pointer (some ⟨g2, 0, none⟩)), (8, .slice m.A V.ps.length m.a), (12, .slice m.B V.qs.length m.b), (16, .slice m.C V.ts.length m.c), (3, .pointer (some ⟨g3, 0, none⟩)), (10, vb)] W := by
      intro g3 va vb vc W hh K hC b3 h3
      refine E.GH.all (rs := [0, 8]) (by rw [hops]; kernel_rfl) (by simp) (E.GHs.cons ((congrArg (fun (o : Array Oper) => o[0]?) hops).trans rfl) ?_ (E.GHs.cons ((congrArg (fun (o : Array Oper) => o[8]?) hops).trans rfl) ?_ (E.GHs.nil)))
      · refine E.GO.st rfl rfl rfl (E.ST.litAt kI v1.heap.size (w0 := v1) (ys := ([] : List Int)) (inner := []) rfl rfl E.epn lit22n (Reps.none _ _) K K.size (by simp) fun u w3 r k l n => ⟨hh.trans (E.gbB l), ?_⟩)
        exact E.GH.meet (S1100001 g3 u vb vc w3 (hh.trans (E.gbB l)) k ((hC.make r l n)) (blk_below b3 l) h3) (by kernel_rfl) (E.subc rfl (E.subc rfl (E.subc rfl (E.subc rfl (E.subc rfl (E.subc rfl (E.subc rfl (E.subc rfl (E.subn)))))))))
      · refine E.GO.st rfl rfl rfl (E.ST.litAt kI v1.heap.size (w0 := v1) (ys := ([] : List Int)) (inner := []) rfl rfl E.epn lit22n (Reps.none _ _) K K.size (by simp) fun u w3 r k l n => ⟨hh.trans (E.gbB l), ?_⟩)
        exact E.GH.meet (S0110001 g3 va vb u w3 (hh.trans (E.gbB l)) k ((hC.s13.make r l n).s13) (blk_below b3 l) h3) (by kernel_rfl) (E.subc rfl (E.subc rfl (E.subc rfl (E.subc rfl (E.subc rfl (E.subc rfl (E.subc rfl (E.subc rfl (E.subn)))))))))
    have S0010001 : ∀ (g3 : Nat) (va vb vc : Value) (W : World), v1.grownBy W none → Below v1.heap.size v1 W → E.Cb v1.heap.size W (.slice none 0 0) (.slice none 0 0) vc [] [] [] → W.heap[g3]? = some (.cells #[.slice none 0 0, .slice none 0 0, .slice none 0 0, .slice none 0 0] 25 (0, 0)) → v1.heap.size ≤ g3 → E.GH Try.prog cops cQ 43 (fun W => v1.grownBy W none) 7 #[false, true, true, false, false, true, true, false, true, true, true, false, false, true, false] [(1, .pointer (some ⟨g1, 0, none⟩)), (2, .pointer (some ⟨g2, 0, none⟩)), (8, .slice m.A V.ps.length m.a), (12, .slice m.B V.qs.length m.b), (16, .slice m.C V.ts.length m.c), (3, .pointer (some ⟨g3, 0, none⟩)), (14, vc)] W := by
      intro g3 va vb vc W hh K hC b3 h3
      refine E.GH.all (rs := [0, 4]) (by rw [hops]; kernel_rfl) (by simp) (E.GHs.cons ((congrArg (fun (o : Array Oper) => o[0]?) hops).trans rfl) ?_ (E.GHs.cons ((congrArg (fun (o : Array Oper) => o[4]?) hops).trans rfl) ?_ (E.GHs.nil)))
      · refine E.GO.st rfl rfl rfl (E.ST.litAt kI v1.heap.size (w0 := v1) (ys := ([] : List Int)) (inner := []) rfl rfl E.epn lit22n (Reps.none _ _) K K.size (by simp) fun u w3 r k l n => ⟨hh.trans (E.gbB l), ?_⟩)
        exact E.GH.meet (S1010001 g3 u vb vc w3 (hh.trans (E.gbB l)) k ((hC.make r l n)) (blk_below b3 l) h3) (by kernel_rfl) (E.subc rfl (E.subc rfl (E.subc rfl (E.subc rfl (E.subc rfl (E.subc rfl (E.subc rfl (E.subc rfl (E.subn)))))))))
      · refine E.GO.st rfl rfl rfl (E.ST.litAt kI v1.heap.size (w0 := v1) (ys := ([] : List Int)) (inner := []) rfl rfl E.epn lit22n (Reps.none _ _) K K.size (by simp) fun u w3 r k l n => ⟨hh.trans (E.gbB l), ?_⟩)
        exact E.GH.meet (S0110001 g3 va u vc w3 (hh.trans (E.gbB l)) k ((hC.s12.make r l n).s12) (blk_below b3 l) h3) (by kernel_rfl) (E.subc rfl (E.subc rfl (E.subc rfl (E.subc rfl (E.subc rfl (E.subc rfl (E.subc rfl (E.subc rfl (E.subn)))))))))
    have S1000000 : ∀ (g3 : Nat) (va vb vc : Value) (W : World), v1.grownBy W none → Below v1.heap.size v1 W → E.Cb v1.heap.size W va (.slice none 0 0) (.slice none 0 0) [] [] [] → E.GH Try.prog cops cQ 43 (fun W => v1.grownBy W none) 8 #[true, true, true, false, false, true, true, false, false, true, true, false, false, false, false] [(1, .pointer (some ⟨g1, 0, none⟩)), (2, .pointer (some ⟨g2, 0, none⟩)), (8, .slice m.A V.ps.length m.a), (12, .slice m.B V.qs.length m.b), (16, .slice m.C V.ts.length m.c), (6, va)] W := by
      intro g3 va vb vc W hh K hC
      refine E.GH.all (rs := [3, 4, 8, 13]) (by rw [hops]; kernel_rfl) (by simp) (E.GHs.cons ((congrArg (fun (o : Array Oper) => o[3]?) hops).trans rfl) ?_ (E.GHs.cons ((congrArg (fun (o : Array Oper) => o[4]?) hops).trans rfl) ?_ (E.GHs.cons ((congrArg (fun (o : Array Oper) => o[8]?) hops).trans rfl) ?_ (E.GHs.cons ((congrArg (fun (o : Array Oper) => o[13]?) hops).trans rfl) ?_ (E.GHs.nil)))))
      · refine E.GO.st rfl rfl rfl (E.ST.appendAt kI v1.heap.size (w0 := v1) (s := .tmp 6) (x := .tmp 8) rfl hu22 info3 rfl (by decide) (by decide) rfl rfl hC.a (Kd.C_below hVv.ps K) made22 K K.size (by have := hs.p; simp only [List.length_nil]; omega) fun u w3 r k gr n => ⟨E.gb_row hh gr (fun i hi => Kd.R_base hC.a i hi), ?_⟩)
        rw [List.nil_append] at r
        exact E.GH.meet (S1001000 0 u vb vc w3 (E.gb_row hh gr (fun i hi => Kd.R_base hC.a i hi)) k ((hC.grow r gr n))) (by kernel_rfl) (E.subc rfl (E.subc rfl (E.subc rfl (E.subc rfl (E.subc rfl (E.subc rfl (E.subn)))))))
      · refine E.GO.st rfl rfl rfl (E.ST.litAt kI v1.heap.size (w0 := v1) (ys := ([] : List Int)) (inner := []) rfl rfl E.epn lit22n (Reps.none _ _) K K.size (by simp) fun u w3 r k l n => ⟨hh.trans (E.gbB l), ?_⟩)
        exact E.GH.meet (S1100000 0 va u vc w3 (hh.trans (E.gbB l)) k ((hC.s12.make r l n).s12)) (by kernel_rfl) (E.subc rfl (E.subc rfl (E.subc rfl (E.subc rfl (E.subc rfl (E.subc rfl (E.subc rfl (E.subn))))))))
      · refine E.GO.st rfl rfl rfl (E.ST.litAt kI v1.heap.size (w0 := v1) (ys := ([] : List Int)) (inner := []) rfl rfl E.epn lit22n (Reps.none _ _) K K.size (by simp) fun u w3 r k l n => ⟨hh.trans (E.gbB l), ?_⟩)
        exact E.GH.meet (S1010000 0 va vb u w3 (hh.trans (E.gbB l)) k ((hC.s13.make r l n).s13)) (by kernel_rfl) (E.subc rfl (E.subc rfl (E.subc rfl (E.subc rfl (E.subc rfl (E.subc rfl (E.subc rfl (E.subn))))))))
      · refine E.GO.st rfl rfl rfl (E.ST.alloc rfl info25z fun g3 w3 e3 b3 l3 => ⟨hh.trans (E.gbB l3), ?_⟩)
        exact E.GH.meet (S1000001 g3 va vb vc w3 (hh.trans (E.gbB l3)) (below_step K l3) (hC.below l3) b3 (by rw [e3]; exact K.size)) (by kernel_rfl) (E.subc rfl (E.subc rfl (E.subc rfl (E.subc rfl (E.subc rfl (E.subc rfl (E.subc rfl (E.subn))))))))
    have S0100000 : ∀ (g3 : Nat) (va vb vc : Value) (W : World), v1.grownBy W none → Below v1.heap.size v1 W → E.Cb v1.heap.size W (.slice none 0 0) vb (.slice none 0 0) [] [] [] → E.GH Try.prog cops cQ 43 (fun W => v1.grownBy W none) 8 #[false, true, true, false, true, true, true, false, false, true, true, false, false, false, false] [(1, .pointer (some ⟨g1, 0, none⟩)), (2, .pointer (some ⟨g2, 0, none⟩)), (8, .slice m.A V.ps.length m.a), (12, .slice m.B V.qs.length m.b), (16, .slice m.C V.ts.length m.c), (10, vb)] W := by
      intro g3 va vb vc W hh K hC
      refine E.GH.all (rs := [0, 8, 13]) (by rw [hops]; kernel_rfl) (by simp) (E.GHs.cons ((congrArg (fun (o : Array Oper) => o[0]?) hops).trans rfl) ?_ (E.GHs.cons ((congrArg (fun (o : Array Oper) => o[8]?) hops).trans rfl) ?_ (E.GHs.cons ((congrArg (fun (o : Array Oper) => o[13]?) hops).trans rfl) ?_ (E.GHs.nil))))
      · refine E.GO.st rfl rfl rfl (E.ST.litAt kI v1.heap.size (w0 := v1) (ys := ([] : List Int)) (inner := []) rfl rfl E.epn lit22n (Reps.none _ _) K K.size (by simp) fun u w3 r k l n => ⟨hh.trans (E.gbB l), ?_⟩)
        exact E.GH.meet (S1100000 0 u vb vc w3 (hh.trans (E.gbB l)) k ((hC.make r l n))) (by kernel_rfl) (E.subc rfl (E.subc rfl (E.subc rfl (E.subc rfl (E.subc rfl (E.subc rfl (E.subc rfl (E.subn))))))))
      · refine E.GO.st rfl rfl rfl (E.ST.litAt kI v1.heap.size (w0 := v1) (ys := ([] : List Int)) (inner := []) rfl rfl E.epn lit22n (Reps.none _ _) K K.size (by simp) fun u w3 r k l n => ⟨hh.trans (E.gbB l), ?_⟩)
        exact E.GH.meet (S0110000 0 va vb u w3 (hh.trans (E.gbB l)) k ((hC.s13.make r l n).s13)) (by kernel_rfl) (E.subc rfl (E.subc rfl (E.subc rfl (E.subc rfl (E.subc rfl (E.subc rfl (E.subc rfl (E.subn))))))))
      · refine E.GO.st rfl rfl rfl (E.ST.alloc rfl info25z fun g3 w3 e3 b3 l3 => ⟨hh.trans (E.gbB l3), ?_⟩)
        exact E.GH.meet (S0100001 g3 va vb vc w3 (hh.trans (E.gbB l3)) (below_step K l3) (hC.below l3) b3 (by rw [e3]; exact K.size)) (by kernel_rfl) (E.subc rfl (E.subc rfl (E.subc rfl (E.subc rfl (E.subc rfl (E.subc rfl (E.subc rfl (E.subn))))))))
    have S0010000 : ∀ (g3 : Nat) (va vb vc : Value) (W : World), v1.grownBy W none → Below v1.heap.size v1 W → E.Cb v1.heap.size W (.slice none 0 0) (.slice none 0 0) vc [] [] [] → E.GH Try.prog cops cQ 43 (fun W => v1.grownBy W none) 8 #[false, true, true, false, false, true, true, false, true, true, true, false, false, false, false] [(1, .pointer (some ⟨g1, 0, none⟩)), (2, .pointer (some ⟨g2, 0, none⟩)), (8, .slice m.A V.ps.length m.a), (12, .slice m.B V.qs.length m.b), (16, .slice m.C V.ts.length m.c), (14, vc)] W := by
      intro g3 va vb vc W hh K hC
      refine E.GH.all (rs := [0, 4, 13]) (by rw [hops]; kernel_rfl) (by simp) (E.GHs.cons ((congrArg (fun (o : Array Oper) => o[0]?) hops).trans rfl) ?_ (E.GHs.cons ((congrArg (fun (o : Array Oper) => o[4]?) hops).trans rfl) ?_ (E.GHs.cons ((congrArg (fun (o : Array Oper) => o[13]?) hops).trans rfl) ?_ (E.GHs.nil))))
      · refine E.GO.st rfl rfl rfl (E.ST.litAt kI v1.heap.size (w0 := v1) (ys := ([] : List Int)) (inner := []) rfl rfl E.epn lit22n (Reps.none _ _) K K.size (by simp) fun u w3 r k l n => ⟨hh.trans (E.gbB l), ?_⟩)
        exact E.GH.meet (S1010000 0 u vb vc w3 (hh.trans (E.gbB l)) k ((hC.make r l n))) (by kernel_rfl) (E.subc rfl (E.subc rfl (E.subc rfl (E.subc rfl (E.subc rfl (E.subc rfl (E.subc rfl (E.subn))))))))
      · refine E.GO.st rfl rfl rfl (E.ST.litAt kI v1.heap.size (w0 := v1) (ys := ([] : List Int)) (inner := []) rfl rfl E.epn lit22n (Reps.none _ _) K K.size (by simp) fun u w3 r k l n => ⟨hh.trans (E.gbB l), ?_⟩)
        exact E.GH.meet (S0110000 0 va u vc w3 (hh.trans (E.gbB l)) k ((hC.s12.make r l n).s12)) (by kernel_rfl) (E.subc rfl (E.subc rfl (E.subc rfl (E.subc rfl (E.subc rfl (E.subc rfl (E.subc rfl (E.subn))))))))
      · refine E.GO.st rfl rfl rfl (E.ST.alloc rfl info25z fun g3 w3 e3 b3 l3 => ⟨hh.trans (E.gbB l3), ?_⟩)
        exact E.GH.meet (S0010001 g3 va vb vc w3 (hh.trans (E.gbB l3)) (below_step K l3) (hC.below l3) b3 (by rw [e3]; exact K.size)) (by kernel_rfl) (E.subc rfl (E.subc rfl (E.subc rfl (E.subc rfl (E.subc rfl (E.subc rfl (E.subc rfl (E.subn))))))))
    have S0000001 : ∀ (g3 : Nat) (va vb vc : Value) (W : World), v1.grownBy W none → Below v1.heap.size v1 W → E.Cb v1.heap.size W (.slice none 0 0) (.slice none 0 0) (.slice none 0 0) [] [] [] → W.heap[g3]? = some (.cells #[.slice none 0 0, .slice none 0 0, .slice none 0 0, .slice none 0 0] 25 (0, 0)) → v1.heap.size ≤ g3 → E.GH Try.prog cops cQ 43 (fun W => v1.grownBy W none) 8 #[false, true, true, false, false, true, true, false, false, true, true, false, false, true, false] [(1, .pointer (some ⟨g1, 0, none⟩)), (2, .pointer (some ⟨g2, 0, none⟩)), (8, .slice m.A V.ps.length m.a), (12, .slice m.B V.qs.length m.b), (16, .slice m.C V.ts.length m.c), (3, .pointer (some ⟨g3, 0, none⟩))] W := by
      intro g3 va vb vc W hh K hC b3 h3
      refine E.GH.all (rs := [0, 4, 8]) (by rw [hops]; kernel_rfl) (by simp) (E.GHs.cons ((congrArg (fun (o : Array Oper) => o[0]?) hops).trans rfl) ?_ (E.GHs.cons ((congrArg (fun (o : Array Oper) => o[4]?) hops).trans rfl) ?_ (E.GHs.cons ((congrArg (fun (o : Array Oper) => o[8]?) hops).trans rfl) ?_ (E.GHs.nil))))
      · refine E.GO.st rfl rfl rfl (E.ST.litAt kI v1.heap.size (w0 := v1) (ys := ([] : List Int)) (inner := []) rfl rfl E.epn lit22n (Reps.none _ _) K K.size (by simp) fun u w3 r k l n => ⟨hh.trans (E.gbB l), ?_⟩)
        exact E.GH.meet (S1000001 g3 u vb vc w3 (hh.trans (E.gbB l)) k ((hC.make r l n)) (blk_below b3 l) h3) (by kernel_rfl) (E.subc rfl (E.subc rfl (E.subc rfl (E.subc rfl (E.subc rfl (E.subc rfl (E.subc rfl (E.subn))))))))
      · refine E.GO.st rfl rfl rfl (E.ST.litAt kI v1.heap.size (w0 := v1) (ys := ([] : List Int)) (inner := []) rfl rfl E.epn lit22n (Reps.none _ _) K K.size (by simp) fun u w3 r k l n => ⟨hh.trans (E.gbB l), ?_⟩)
        exact E.GH.meet (S0100001 g3 va u vc w3 (hh.trans (E.gbB l)) k ((hC.s12.make r l n).s12) (blk_below b3 l) h3) (by kernel_rfl) (E.subc rfl (E.subc rfl (E.subc rfl (E.subc rfl (E.subc rfl (E.subc rfl (E.subc rfl (E.subn))))))))
      · refine E.GO.st rfl rfl rfl (E.ST.litAt kI v1.heap.size (w0 := v1) (ys := ([] : List Int)) (inner := []) rfl rfl E.epn lit22n (Reps.none _ _) K K.size (by simp) fun u w3 r k l n => ⟨hh.trans (E.gbB l), ?_⟩)
        exact E.GH.meet (S0010001 g3 va vb u w3 (hh.trans (E.gbB l)) k ((hC.s13.make r l n).s13) (blk_below b3 l) h3) (by kernel_rfl) (E.subc rfl (E.subc rfl (E.subc rfl (E.subc rfl (E.subc rfl (E.subc rfl (E.subc rfl (E.subn))))))))
    have S0000000 : ∀ (g3 : Nat) (va vb vc : Value) (W : World), v1.grownBy W none → Below v1.heap.size v1 W → E.Cb v1.heap.size W (.slice none 0 0) (.slice none 0 0) (.slice none 0 0) [] [] [] → E.GH Try.prog cops cQ 43 (fun W => v1.grownBy W none) 9 #[false, true, true, false, false, true, true, false, false, true, true, false, false, false, false] [(1, .pointer (some ⟨g1, 0, none⟩)), (2, .pointer (some ⟨g2, 0, none⟩)), (8, .slice m.A V.ps.length m.a), (12, .slice m.B V.qs.length m.b), (16, .slice m.C V.ts.length m.c)] W := by
      intro g3 va vb vc W hh K hC
      refine E.GH.all (rs := [0, 4, 8, 13]) (by rw [hops]; kernel_rfl) (by simp) (E.GHs.cons ((congrArg (fun (o : Array Oper) => o[0]?) hops).trans rfl) ?_ (E.GHs.cons ((congrArg (fun (o : Array Oper) => o[4]?) hops).trans rfl) ?_ (E.GHs.cons ((congrArg (fun (o : Array Oper) => o[8]?) hops).trans rfl) ?_ (E.GHs.cons ((congrArg (fun (o : Array Oper) => o[13]?) hops).trans rfl) ?_ (E.GHs.nil)))))
      · refine E.GO.st rfl rfl rfl (E.ST.litAt kI v1.heap.size (w0 := v1) (ys := ([] : List Int)) (inner := []) rfl rfl E.epn lit22n (Reps.none _ _) K K.size (by simp) fun u w3 r k l n => ⟨hh.trans (E.gbB l), ?_⟩)
        exact E.GH.meet (S1000000 0 u vb vc w3 (hh.trans (E.gbB l)) k ((hC.make r l n))) (by kernel_rfl) (E.subc rfl (E.subc rfl (E.subc rfl (E.subc rfl (E.subc rfl (E.subc rfl (E.subn)))))))
      · refine E.GO.st rfl rfl rfl (E.ST.litAt kI v1.heap.size (w0 := v1) (ys := ([] : List Int)) (inner := []) rfl rfl E.epn lit22n (Reps.none _ _) K K.size (by simp) fun u w3 r k l n => ⟨hh.trans (E.gbB l), ?_⟩)
        exact E.GH.meet (S0100000 0 va u vc w3 (hh.trans (E.gbB l)) k ((hC.s12.make r l n).s12)) (by kernel_rfl) (E.subc rfl (E.subc rfl (E.subc rfl (E.subc rfl (E.subc rfl (E.subc rfl (E.subn)))))))
      · refine E.GO.st rfl rfl rfl (E.ST.litAt kI v1.heap.size (w0 := v1) (ys := ([] : List Int)) (inner := []) rfl rfl E.epn lit22n (Reps.none _ _) K K.size (by simp) fun u w3 r k l n => ⟨hh.trans (E.gbB l), ?_⟩)
        exact E.GH.meet (S0010000 0 va vb u w3 (hh.trans (E.gbB l)) k ((hC.s13.make r l n).s13)) (by kernel_rfl) (E.subc rfl (E.subc rfl (E.subc rfl (E.subc rfl (E.subc rfl (E.subc rfl (E.subn)))))))
      · refine E.GO.st rfl rfl rfl (E.ST.alloc rfl info25z fun g3 w3 e3 b3 l3 => ⟨hh.trans (E.gbB l3), ?_⟩)
        exact E.GH.meet (S0000001 g3 va vb vc w3 (hh.trans (E.gbB l3)) (below_step K l3) (hC.below l3) b3 (by rw [e3]; exact K.size)) (by kernel_rfl) (E.subc rfl (E.subc rfl (E.subc rfl (E.subc rfl (E.subc rfl (E.subc rfl (E.subn)))))))
    refine E.GH.take (i := 1) ((congrArg (fun (o : Array Oper) => o[1]?) hops).trans rfl) (by rw [hops]; kernel_rfl) (by rw [hops]; kernel_rfl) (by rw [hops]; kernel_rfl) hcalm rfl rfl rfl (fun w' hS => E.Runs.fieldAddr rfl rfl hu25 rfl (by assumption) rfl) ?_
    refine E.GH.take (i := 2) ((congrArg (fun (o : Array Oper) => o[2]?) hops).trans rfl) (by rw [hops]; kernel_rfl) (by rw [hops]; kernel_rfl) (by rw [hops]; kernel_rfl) hcalm rfl rfl rfl (fun w' hS => E.Runs.load1 rfl rfl hu22 rfl (E.blkc (blk_grown b1 hS E.nen) rfl)) ?_
    refine E.GH.take (i := 5) ((congrArg (fun (o : Array Oper) => o[5]?) hops).trans rfl) (by rw [hops]; kernel_rfl) (by rw [hops]; kernel_rfl) (by rw [hops]; kernel_rfl) hcalm rfl rfl rfl (fun w' hS => E.Runs.fieldAddr rfl rfl hu25 rfl (by assumption) rfl) ?_
    refine E.GH.take (i := 6) ((congrArg (fun (o : Array Oper) => o[6]?) hops).trans rfl) (by rw [hops]; kernel_rfl) (by rw [hops]; kernel_rfl) (by rw [hops]; kernel_rfl) hcalm rfl rfl rfl (fun w' hS => E.Runs.load1 rfl rfl hu22 rfl (E.blkc (blk_grown b1 hS E.nen) rfl)) ?_
    refine E.GH.take (i := 9) ((congrArg (fun (o : Array Oper) => o[9]?) hops).trans rfl) (by rw [hops]; kernel_rfl) (by rw [hops]; kernel_rfl) (by rw [hops]; kernel_rfl) hcalm rfl rfl rfl (fun w' hS => E.Runs.fieldAddr rfl rfl hu25 rfl (by assumption) rfl) ?_
    refine E.GH.take (i := 10) ((congrArg (fun (o : Array Oper) => o[10]?) hops).trans rfl) (by rw [hops]; kernel_rfl) (by rw [hops]; kernel_rfl) (by rw [hops]; kernel_rfl) hcalm rfl rfl rfl (fun w' hS => E.Runs.load1 rfl rfl hu22 rfl (E.blkc (blk_grown b1 hS E.nen) rfl)) ?_
    exact E.GH.meet (S0000000 0 (.slice none 0 0) (.slice none 0 0) (.slice none 0 0) v1 (World.grownBy.refl _ _) (Below.refl _ _) (E.Cb.start _ _)) (by kernel_rfl) (E.subc rfl (E.subc rfl (E.subc rfl (E.subc rfl (E.subc rfl (E.subn))))))
  rintro g3 w11 ⟨m', hCb, b3, h3K, K⟩
  replace b1 := blk_below b1 K
  replace b2 := blk_below b2 K
  have h3_b1 : g1 ≠ g3 := by have := blk_lt s1b1; omega
  have h3_b2 : g2 ≠ g3 := by have := blk_lt s1b2; omega
  have h3_L : w.heap.size ≤ g3 := Nat.le_trans hwv0 h3K
  replace L := below_step L K
  refine E.QG.code ?_
  refine E.CG.seq ?_
  refine E.CG.seq ?_
  refine E.CG.list ?_
  refine E.GL.run rfl rfl rfl (E.Runs.assign rfl rfl) ?_
  refine E.GL.done ?_
  refine E.QG.code ?_
  refine E.CG.block ?_
  have s3_b1 := b1
  have s3_b2 := b2
  have s3_b3 := b3
  have s3_L := L
  refine E.CG.loop2 (fun (i : Nat) (v3 : Value) => [(1, .pointer (some ⟨g1, 0, none⟩)), (2, .pointer (some ⟨g2, 0, none⟩)), (3, .pointer (some ⟨g3, 0, none⟩)), (4, .int .i64 (i : Int))]) (fun i v3 w' => i ≤ V.cs.length ∧ w'.heap[g1]? = some (.cells #[.slice m.A V.ps.length m.a, .slice m.B V.qs.length m.b, .slice m.C V.ts.length m.c, .slice m.D V.cs.length m.d] 25 (0, 0)) ∧ w'.heap[g2]? = some (.cells #[.slice none 0 0, .slice none 0 0, .slice none 0 0, .slice none 0 0] 25 (0, 0)) ∧ w'.heap[g3]? = some (.cells #[.slice m'.A V.ps.length m'.a, .slice m'.B V.qs.length m'.b, .slice m'.C V.ts.length m'.c, v3] 25 (0, 0)) ∧ Kd.R k40 40 w' w.heap.size (fun _ => True) (v3) (V.cs.take i) ∧ E.Cb w.heap.size w' (.slice m'.A V.ps.length m'.a) (.slice m'.B V.qs.length m'.b) (.slice m'.C V.ts.length m'.c) V.ps V.qs V.ts ∧ Below w.heap.size w w') (fun i v3 => V.cs.length - i) 0 (.slice none 0 0) (E.subc rfl (E.subc rfl (E.subc rfl (E.subc rfl E.subn)))) ⟨Nat.zero_le _, b1, b2, b3, Kd.R_nil _ _ _ _ _, hCb, L⟩ ?_
  rintro i v3 w3 ⟨hi, b1, b2, b3, hD, hCb, L⟩
  refine E.CG.seq ?_
  refine E.CG.seq ?_
  refine E.CG.list ?_
  refine E.GL.run rfl rfl rfl (E.Runs.move rfl rfl) ?_
  refine E.GL.run rfl rfl rfl (E.Runs.fieldAddr rfl rfl hu25 rfl (by assumption) rfl) ?_
  refine E.GL.run rfl rfl rfl (E.Runs.load1 rfl rfl hu23 rfl (by first | assumption | exact E.blkc (by assumption) rfl | exact pw_cell_below L (by assumption))) ?_
  refine E.GL.run rfl rfl rfl (E.Runs.len rfl rfl hu23) ?_
  refine E.GL.cmp rfl rfl rfl (fun _ h => (E.Runs.lss rfl rfl rfl h)) (fun h23 => ?_) (fun h23 => ?_)
  · obtain ⟨c, hc⟩ := get_ex (show i < V.cs.length by omega)
    obtain ⟨ad, a0, k0, eA, _, hx0, X⟩ := till_at hV.cs hc
    have hsz := hs.s c (List.mem_of_getElem? hc)
    have Kr := Below.refl w3.heap.size w3
    have hL3 := L.size
    have s5b1 := b1
    have s5b2 := b2
    have s5b3 := b3
    have s5hD := hD
    have s5hCb := hCb
    have s5L := L
    refine E.GL.done ?_
    refine E.QG.code ?_
    refine E.CG.cond_t rfl ?_
    refine E.CG.skip ?_
    refine E.QG.code ?_
    refine E.CG.seq ?_
    refine E.CG.block ?_
    refine E.CG.seq ?_
    refine E.CG.list ?_
    refine E.GL.run rfl rfl rfl (E.Runs.fieldAddr rfl rfl hu25 rfl (by assumption) rfl) ?_
    refine E.GL.run rfl rfl rfl (E.Runs.load1 rfl rfl hu23 rfl (by first | assumption | exact E.blkc (by assumption) rfl | exact pw_cell_below L (by assumption) | exact pw_cell_below Kr (by assumption))) ?_
    refine E.GL.run rfl rfl rfl (E.Runs.move rfl rfl) ?_
    refine E.GL.run rfl rfl rfl (E.Runs.indexAddrA (i := i) rfl rfl rfl hu23 z40 o40 (by omega) eA rfl) ?_
    refine E.GL.run rfl rfl rfl (E.Runs.loads (cs := [.slice a0 c.f0.length k0, .int .i64 c.f1, .int .i64 c.f2, .int .i64 c.f3, .int .i64 c.f4, .int .i64 c.f5]) rfl rfl hu40 rfl info40s (fun j v hv => pw_cell_below L (X j v hv))) ?_
    refine E.GL.st rfl rfl rfl (E.ST.alloc rfl info40z fun g5 w5 e5 b5 l5 => ?_)
    have h5_L : w.heap.size ≤ g5 := by rw [e5]; exact L.size
    have h5_Kr : w3.heap.size ≤ g5 := by rw [e5]; exact Kr.size
    have n5_b1 : g1 ≠ g5 := by have := blk_lt b1; omega
    have n5_b2 : g2 ≠ g5 := by have := blk_lt b2; omega
    have n5_b3 : g3 ≠ g5 := by have := blk_lt b3; omega
    replace b1 := blk_below b1 l5
    replace b2 := blk_below b2 l5
    replace b3 := blk_below b3 l5
    replace L := below_step L l5
    replace Kr := below_step Kr l5
    refine E.GL.store_whole rfl rfl rfl rfl rfl b5 rfl info40s (cells6_one _ _ _ _ _ _ _ _) fun wS5_6 c5 lS5_6 => ?_
    replace b1 := blk_grown b1 lS5_6 (E.nes (by first | assumption | exact Ne.symm (by assumption)))
    replace b2 := blk_grown b2 lS5_6 (E.nes (by first | assumption | exact Ne.symm (by assumption)))
    replace b3 := blk_grown b3 lS5_6 (E.nes (by first | assumption | exact Ne.symm (by assumption)))
    replace L := E.below_own L h5_L lS5_6
    replace Kr := E.below_own Kr h5_Kr lS5_6
    replace b5 := c5
    clear c5
    refine E.GL.done ?_
    refine E.QG.code ?_
    refine E.CG.seq ?_
    refine E.CG.list ?_
    refine E.GL.st rfl rfl rfl (E.ST.litAt kI w3.heap.size (w0 := w3) (ys := ([] : List Int)) (inner := []) rfl rfl E.epn lit22n (Reps.none _ _) Kr Kr.size (by simp) fun u31 w31 r31 k31 l31 n31 => ?_)
    replace b5 := blk_below b5 l31
    replace L := below_step L l31
    replace Kr := k31
    refine E.GL.run rfl rfl rfl (E.Runs.fieldAddr rfl rfl hu40 rfl (by assumption) rfl) ?_
    refine E.GL.run rfl rfl rfl (E.Runs.load1 rfl rfl hu22 rfl (by first | assumption | exact E.blkc (by assumption) rfl | exact pw_cell_below L (by assumption) | exact pw_cell_below Kr (by assumption))) ?_
    refine E.GL.st rfl rfl rfl (E.ST.appendRows kI w3.heap.size (w0 := w3) (s := .tmp 31) (x := .tmp 33) rfl hu22 info3 rfl (by decide) (by decide) rfl rfl r31 (Kd.C_below hx0 L) made22 Kr Kr.size (by simp only [List.length_nil]; omega) fun u34 w34 R34 k34 g34 => ?_)
    replace b5 := blk_grown b5 g34 (Kd.R_ne r31 b5 (by decide))
    replace Kr := k34
    rw [List.nil_append] at R34
    obtain ⟨A34, c34, hv34⟩ := Kd.R_slice R34
    subst hv34
    refine E.GL.run rfl rfl rfl (E.Runs.fieldAddr rfl rfl hu40 rfl (by assumption) rfl) ?_
    refine E.GL.sn rfl rfl (E.ST.storeSl (cs := [.slice a0 c.f0.length k0, .int .i64 c.f1, .int .i64 c.f2, .int .i64 c.f3, .int .i64 c.f4, .int .i64 c.f5]) rfl z22 o22 rfl rfl b5 rfl rfl fun wS6 c5 lS6 => ?_)
    replace Kr := E.below_own Kr h5_Kr lS6
    replace R34 := Kd.R_grown1 R34 rfl lS6 (Kd.R_ne R34 b5 (by decide))
    replace b5 := c5
    replace b1 := blk_below s5b1 Kr
    replace b2 := blk_below s5b2 Kr
    replace b3 := blk_below s5b3 Kr
    replace hD := Kd.R_below s5hD Kr
    replace hCb := s5hCb.below Kr
    replace L := below_step s5L Kr
    refine E.GL.done ?_
    refine E.QG.code ?_
    refine E.CG.list ?_
    refine E.GL.run rfl rfl rfl (E.Runs.fieldAddr rfl rfl hu25 rfl (by assumption) rfl) ?_
    refine E.GL.run rfl rfl rfl (E.Runs.load1 rfl rfl hu23 rfl (by first | assumption | exact E.blkc (by assumption) rfl | exact pw_cell_below L (by assumption) | exact pw_cell_below Kr (by assumption))) ?_
    refine E.GL.run rfl rfl rfl (E.Runs.loads (cs := [.slice A34 c.f0.length c34, .int .i64 c.f1, .int .i64 c.f2, .int .i64 c.f3, .int .i64 c.f4, .int .i64 c.f5]) rfl rfl hu40 rfl info40s (blk_cells b5)) ?_
    refine E.GL.st rfl rfl rfl (E.ST.lit rfl (E.epc rfl E.epn) (lit23 _ _ _ _ _ _ _ _) ?_)
    refine E.GL.st rfl rfl rfl (E.ST.appendR k40 w.heap.size (w0 := w) (s := .tmp 37) (x := .tmp 39) rfl hu23 info40b rfl (by decide) (by decide) c rfl rfl (k40_mkM _ _ _ c (E.apart_R (Kd.R_lower R34 hL3) hD (by decide))) hD L L.size (by rw [List.length_take]; omega) fun u40 w40 r40 k40' gr40 at40 => ?_)
    replace b1 := blk_grown b1 gr40 (Kd.R_ne hD b1 (by decide))
    replace b2 := blk_grown b2 gr40 (Kd.R_ne hD b2 (by decide))
    replace b3 := blk_grown b3 gr40 (Kd.R_ne hD b3 (by decide))
    replace hCb := hCb.rowed hD (by decide) gr40
    replace L := k40'
    replace hD := r40
    rw [E.take_snoc hc] at hD
    obtain ⟨D', d', hv40⟩ := Kd.R_slice hD
    rw [List.length_take, Nat.min_eq_left (show i + 1 ≤ V.cs.length by omega)] at hv40
    subst hv40
    refine E.GL.run rfl rfl rfl (E.Runs.fieldAddr rfl rfl hu25 rfl (by assumption) rfl) ?_
    refine E.GL.sn rfl rfl (E.ST.storeSl (cs := [.slice m'.A V.ps.length m'.a, .slice m'.B V.qs.length m'.b, .slice m'.C V.ts.length m'.c, v3]) rfl z23 o23 rfl rfl b3 rfl rfl fun wS7 c3 lS7 => ?_)
    replace b1 := blk_grown b1 lS7 (E.nes h3_b1)
    replace b2 := blk_grown b2 lS7 (E.nes h3_b2)
    replace hD := E.R_over hD b3 (by decide) lS7
    replace hCb := hCb.over b3 (by decide) lS7
    replace L := E.below_own L h3_L lS7
    replace b3 := c3
    refine E.GL.done ?_
    refine E.QG.block_normal ?_
    refine E.QG.code ?_
    refine E.CG.list ?_
    refine E.GL.run rfl rfl rfl (E.Runs.move rfl rfl) ?_
    refine E.GL.run rfl rfl rfl (E.Runs.add rfl rfl rfl (IntWalk.i64_in _ (by omega))) ?_
    refine E.GL.run rfl rfl rfl (E.Runs.assign rfl rfl) ?_
    refine E.GL.done ?_
    exact E.QG.round2 (d := .slice none 0 0) (i + 1) _ (E.subc rfl (E.subc rfl (E.subc rfl (E.subc rfl E.subn)))) ⟨by omega, b1, b2, b3, hD, hCb, L⟩ (by omega)
  · obtain rfl : i = V.cs.length := by omega
    rw [List.take_length] at hD
    obtain ⟨D, d, rfl⟩ := Kd.R_slice hD
    refine E.GL.done ?_
    refine E.QG.code ?_
    refine E.CG.cond_f rfl ?_
    refine E.CG.exit ?_
    refine E.QG.pass_exit ?_
    refine E.QG.pass_exit ?_
    refine E.QG.block_here ?_
    refine E.QG.code ?_
    refine E.CG.seq ?_
    have s8b2 := b2
    refine E.CG.list ?_
    refine E.GL.run rfl rfl rfl (E.Runs.loads (cs := [.slice m'.A V.ps.length m'.a, .slice m'.B V.qs.length m'.b, .slice m'.C V.ts.length m'.c, .slice D V.cs.length d]) rfl rfl hu25 rfl info25s (blk_cells b3)) ?_
    refine E.GL.store_whole rfl rfl rfl rfl rfl b2 rfl info25s (slices4_one _ _ _ _ _ _ _ _ _ _ _ _) fun wS8_1 c2 lS8_1 => ?_
    replace b1 := blk_grown b1 lS8_1 (E.nes (by first | assumption | exact Ne.symm (by assumption)))
    replace b3 := blk_grown b3 lS8_1 (E.nes (by first | assumption | exact Ne.symm (by assumption)))
    replace L := E.below_own L h2_L lS8_1
    replace b2 := c2
    clear c2
    refine E.GL.done ?_
    refine E.QG.code ?_
    refine E.CG.ret ?_
    exact E.QG.result_c rfl rfl b2 hu25 rfl info25s ⟨⟨m'.A, m'.a, m'.B, m'.b, m'.C, m'.c, D, d⟩, rfl, ⟨hCb.over s8b2 (by decide) lS8_1, E.R_over hD s8b2 (by decide) lS8_1⟩, L⟩

end Go.Proofs.Ytiplichdhcmjdaa.T
namespace Go.Proofs.Ytiplichdhcmjdaa.T
open Go.RowKit Go.Proofs.YtiplichdhcmjdaaW.PrintWords Go.Proofs.YtiplichdhcmjdaaW.PrintMore
open Go.Proofs.Ytiplichdhcmjdaa.P
set_option linter.unusedVariables false
set_option linter.unusedSimpArgs false

/-- The chapter's example. -/
abbrev eV : Ev := ⟨[5, 8], [7, 6], [7, 5], [⟨[4, 2], 100, 106, 0, 10, 46⟩, ⟨[3, 3], 200, 208, 1, 0, 47⟩]⟩
def eL : List (List (List Int)) := [[[4, 2], [3, 4]]]
theorem ex_ok : VOk eV := by decide
theorem ex_sz : Sz eV := ex_ok.sz
theorem ex_parts : partsA eV = (1, 1) := by kernel_rfl
theorem ex_chk : chkV eV = 0 := chkV_yes ex_ok
theorem ex_0 : trL eV eV.cs.length 0 ((0 : Nat) : Int) (bl eV.qs) = [] := by kernel_rfl
theorem ex_1 : trL eV eV.cs.length 0 ((1 : Nat) : Int) (bl eV.qs) = eL := by kernel_rfl
theorem ex_lik : LikR eV eL 1 := by
  have h0 : ∀ t, Truth eV t → ((0 : Nat) : Int) ≤ flT eV 0 t := fun t _ => (flT_01 eV t 0).1
  have h1 := tr_none ex_ok h0 ex_0
  have h2 := tr_some ex_ok h1 (by rw [ex_1]; exact List.cons_ne_nil _ _)
  rw [ex_1] at h2
  exact h2
theorem ex_lk : (∃ t, Truth eV t) ∧ fewN eV = 1 ∧ LkS eV eL := by
  rcases ex_lik with h | h
  · exact absurd h.2.1 (List.cons_ne_nil _ _)
  · exact ⟨h.1, h.2.2.1.symm, h.2.2.2.1⟩
theorem ex_err : errV eV = 0 := by
  obtain ⟨⟨t, ht⟩, _⟩ := ex_lk
  exact errV_ok ex_ok ht
theorem ex_few : fewA eV = 1 := by unfold fewA; rw [if_pos ex_err, ex_lk.2.1]
theorem ex_errT : errT eV 1 1 = 0 := by
  obtain ⟨⟨t, ht⟩, _⟩ := ex_lk
  exact errT_ok ex_ok (by decide) ht
theorem ex_span : loV eV 1 1 (fun b => b.get (1 : Int).toNat) = 4 ∧ hiV eV 1 1 (fun b => b.get (1 : Int).toNat) = 4 := by
  have h := span_r (q := fun b => b.get (1 : Int).toNat) (till := 1) (sh := 1) ex_ok ex_lk.2.2 (by decide) ex_errT (f := fRe 1 1) (fun t b _ k1 _ => fRe_q (by decide) (by decide) k1) (o0 := [[4, 2], [3, 4]]) (List.mem_singleton.mpr rfl)
  exact ⟨h.1.trans (by kernel_rfl), h.2.trans (by kernel_rfl)⟩
theorem ex_susp : tA eV (suspP eV) = [1] := by
  obtain ⟨⟨t, ht⟩, _, hS⟩ := ex_lk
  have h0 : ¬ suspP eV 0 := fun h => absurd ((cnt_susp ex_ok hS (by decide)).mpr h) (by decide)
  have h1 : suspP eV 1 := (cnt_susp ex_ok hS (by decide)).mp (by decide)
  rw [tA_ok ex_ok ht]
  show tL eV (suspP eV) 2 = _
  rw [tL_yes h1, tL_no h0]
  rfl
set_option maxRecDepth 100000 in
theorem lit22_2 (a b : Int) (W : World) : (Instr.buildSlice 22 2 #[(0, .int .i64 a), (1, .int .i64 b)]).run Try.prog W = .ok (.slice (some ⟨W.heap.size, 0, none⟩) 2 2) (W.alloc (.cells (([a, b] : List Int).map (Value.int .i64)).toArray 3 (0, 0))) := by
  have hu22 := Try.underlying22
  go_simp
def six40 (A : Option Addr) (x : S40) (k : Nat) : List Value := [.slice A x.f0.length k, .int .i64 x.f1, .int .i64 x.f2, .int .i64 x.f3, .int .i64 x.f4, .int .i64 x.f5]
set_option maxRecDepth 100000 in
theorem lit23_2 (A B : Option Addr) (n c m d a1 a2 a3 a4 a5 b1 b2 b3 b4 b5 : Nat) (W : World) : (Instr.buildSlice 23 2 #[(0, .agg #[.slice A n c, .int .i64 a1, .int .i64 a2, .int .i64 a3, .int .i64 a4, .int .i64 a5]), (1, .agg #[.slice B m d, .int .i64 b1, .int .i64 b2, .int .i64 b3, .int .i64 b4, .int .i64 b5])]).run Try.prog W = .ok (.slice (some ⟨W.heap.size, 0, none⟩) 2 2) (W.alloc (.cells #[.slice A n c, .int .i64 a1, .int .i64 a2, .int .i64 a3, .int .i64 a4, .int .i64 a5, .slice B m d, .int .i64 b1, .int .i64 b2, .int .i64 b3, .int .i64 b4, .int .i64 b5] 40 (0, 0))) := by
  have hu23 := Try.underlying23
  go_simp
set_option maxRecDepth 100000 in
theorem build40a (A : Option Addr) (n c : Nat) (a b d e : Int) (W : World) : (Instr.build 40 #[(0, .slice A n c), (1, .int .i64 a), (2, .int .i64 b), (4, .int .i64 d), (5, .int .i64 e)]).run Try.prog W = .ok (.agg #[.slice A n c, .int .i64 a, .int .i64 b, .int .i64 0, .int .i64 d, .int .i64 e]) W := by
  have hu3 := Try.underlying3
  have hu22 := Try.underlying22
  have hu40 := Try.underlying40
  go_simp
set_option maxRecDepth 100000 in
theorem build40b (A : Option Addr) (n c : Nat) (a b d e : Int) (W : World) : (Instr.build 40 #[(0, .slice A n c), (1, .int .i64 a), (2, .int .i64 b), (3, .int .i64 d), (5, .int .i64 e)]).run Try.prog W = .ok (.agg #[.slice A n c, .int .i64 a, .int .i64 b, .int .i64 d, .int .i64 0, .int .i64 e]) W := by
  have hu3 := Try.underlying3
  have hu22 := Try.underlying22
  have hu40 := Try.underlying40
  go_simp
set_option maxRecDepth 100000 in
theorem build25f (A B C D : Option Addr) (n c m d k e l f : Nat) (W : World) : (Instr.build 25 #[(0, .slice A n c), (1, .slice B m d), (2, .slice C k e), (3, .slice D l f)]).run Try.prog W = .ok (.agg #[.slice A n c, .slice B m d, .slice C k e, .slice D l f]) W := by
  have hu22 := Try.underlying22
  have hu23 := Try.underlying23
  have hu25 := Try.underlying25
  go_simp
theorem C_tills {w : World} {g : Nat} {A B : Option Addr} {x y : S40} {k k' : Nat} (hx : Kd.C kI w A x.f0.length x.f0) (hy : Kd.C kI w B y.f0.length y.f0) (h1 : x.f0.length ≤ k) (h2 : y.f0.length ≤ k') (hb : w.heap[g]? = some (.cells (six40 A x k ++ six40 B y k').toArray 40 (0, 0))) : Kd.C k40 w (some ⟨g, 0, none⟩) 2 [x, y] := by
  refine ⟨rfl, by omega, fun _ => ⟨_, rfl, ?_⟩⟩
  intro j p hj
  rcases j with _ | _ | j
  · obtain rfl : x = p := by simpa using hj
    refine ⟨six40 A x k, rfl, k40_mk w x h1 hx, fun i u hu => ?_⟩
    have hi : i < 6 := (List.getElem?_eq_some_iff.1 hu).1
    rw [Addr.add_mid, Nat.zero_add, blk_cell hb]
    rw [List.getElem?_toArray, List.getElem?_append_left (by show _ < 6; omega)]
    rw [Nat.zero_mul, Nat.zero_add]
    exact hu
  · obtain rfl : y = p := by simpa using hj
    refine ⟨six40 B y k', rfl, k40_mk w y h2 hy, fun i u hu => ?_⟩
    have hi : i < 6 := (List.getElem?_eq_some_iff.1 hu).1
    rw [Addr.add_mid, Nat.zero_add, blk_cell hb]
    rw [List.getElem?_toArray, List.getElem?_append_right (by show 6 ≤ _; show 6 ≤ (0 + 1) * 6 + i; omega)]
    show (six40 B y k')[(0 + 1) * 6 + i - 6]? = some u
    rw [show (0 + 1) * 6 + i - 6 = i by omega]
    exact hu
  · simp at hj
set_option maxRecDepth 100000 in
set_option maxHeartbeats 8000000 in

theorem example_calls (w : World) :
    Calls Try.prog 43 #[] w fun e w' => ∃ m, e = .returned (hv eV m) ∧ EvM w' eV m ∧ Below w.heap.size w w' := by
  have hu25 := Try.underlying25
  refine E.enter (N := 10) Try.func43 rfl Try.ntmps43 (args := []) (by simp) ?_
  have L := Below.refl w.heap.size w
  refine E.CG.seq ?_
  refine E.CG.list ?_
  refine E.GL.st rfl rfl rfl (E.ST.alloc rfl info25z fun g0 w0 e0 b0 l0 => ?_)
  have h0_L : w.heap.size ≤ g0 := by rw [e0]; exact L.size
  replace L := below_step L l0
  refine E.GL.done ?_
  refine E.QG.code ?_
  refine E.CG.seq ?_
  refine E.CG.list ?_
  refine E.GL.st rfl rfl rfl (E.ST.litB (cs := (([5, 8] : List Int).map (Value.int .i64)).toArray) rfl (E.epc rfl (E.epc rfl E.epn)) (lit22_2 _ _) fun g1 w1 e1 b1 l1 => ?_)
  have h1_L : w.heap.size ≤ g1 := by rw [e1]; exact L.size
  have n1_b0 : g0 ≠ g1 := by have := blk_lt b0; omega
  replace b0 := blk_below b0 l1
  replace L := below_step L l1
  refine E.GL.st rfl rfl rfl (E.ST.litB (cs := (([7, 6] : List Int).map (Value.int .i64)).toArray) rfl (E.epc rfl (E.epc rfl E.epn)) (lit22_2 _ _) fun g2 w2 e2 b2 l2 => ?_)
  have h2_L : w.heap.size ≤ g2 := by rw [e2]; exact L.size
  have n2_b0 : g0 ≠ g2 := by have := blk_lt b0; omega
  have n2_b1 : g1 ≠ g2 := by have := blk_lt b1; omega
  replace b0 := blk_below b0 l2
  replace b1 := blk_below b1 l2
  replace L := below_step L l2
  refine E.GL.st rfl rfl rfl (E.ST.litB (cs := (([7, 5] : List Int).map (Value.int .i64)).toArray) rfl (E.epc rfl (E.epc rfl E.epn)) (lit22_2 _ _) fun g3 w3 e3 b3 l3 => ?_)
  have h3_L : w.heap.size ≤ g3 := by rw [e3]; exact L.size
  have n3_b0 : g0 ≠ g3 := by have := blk_lt b0; omega
  have n3_b1 : g1 ≠ g3 := by have := blk_lt b1; omega
  have n3_b2 : g2 ≠ g3 := by have := blk_lt b2; omega
  replace b0 := blk_below b0 l3
  replace b1 := blk_below b1 l3
  replace b2 := blk_below b2 l3
  replace L := below_step L l3
  refine E.GL.st rfl rfl rfl (E.ST.litB (cs := (([4, 2] : List Int).map (Value.int .i64)).toArray) rfl (E.epc rfl (E.epc rfl E.epn)) (lit22_2 _ _) fun g4 w4 e4 b4 l4 => ?_)
  have h4_L : w.heap.size ≤ g4 := by rw [e4]; exact L.size
  have n4_b0 : g0 ≠ g4 := by have := blk_lt b0; omega
  have n4_b1 : g1 ≠ g4 := by have := blk_lt b1; omega
  have n4_b2 : g2 ≠ g4 := by have := blk_lt b2; omega
  have n4_b3 : g3 ≠ g4 := by have := blk_lt b3; omega
  replace b0 := blk_below b0 l4
  replace b1 := blk_below b1 l4
  replace b2 := blk_below b2 l4
  replace b3 := blk_below b3 l4
  replace L := below_step L l4
  refine E.GL.run rfl rfl rfl (E.Runs.build rfl (E.epc rfl (E.epc rfl (E.epc rfl (E.epc rfl (E.epc rfl E.epn))))) (build40a _ _ _ _ _ _ _)) ?_
  refine E.GL.st rfl rfl rfl (E.ST.litB (cs := (([3, 3] : List Int).map (Value.int .i64)).toArray) rfl (E.epc rfl (E.epc rfl E.epn)) (lit22_2 _ _) fun g6 w6 e6 b6 l6 => ?_)
  have h6_L : w.heap.size ≤ g6 := by rw [e6]; exact L.size
  have n6_b0 : g0 ≠ g6 := by have := blk_lt b0; omega
  have n6_b1 : g1 ≠ g6 := by have := blk_lt b1; omega
  have n6_b2 : g2 ≠ g6 := by have := blk_lt b2; omega
  have n6_b3 : g3 ≠ g6 := by have := blk_lt b3; omega
  have n6_b4 : g4 ≠ g6 := by have := blk_lt b4; omega
  replace b0 := blk_below b0 l6
  replace b1 := blk_below b1 l6
  replace b2 := blk_below b2 l6
  replace b3 := blk_below b3 l6
  replace b4 := blk_below b4 l6
  replace L := below_step L l6
  refine E.GL.run rfl rfl rfl (E.Runs.build rfl (E.epc rfl (E.epc rfl (E.epc rfl (E.epc rfl (E.epc rfl E.epn))))) (build40b _ _ _ _ _ _ _)) ?_
  refine E.GL.st rfl rfl rfl (E.ST.litB (cs := (six40 (some ⟨g4, 0, none⟩) (⟨[4, 2], 100, 106, 0, 10, 46⟩ : S40) 2 ++ six40 (some ⟨g6, 0, none⟩) (⟨[3, 3], 200, 208, 1, 0, 47⟩ : S40) 2).toArray) rfl (E.epc rfl (E.epc rfl E.epn)) (lit23_2 (some ⟨g4, 0, none⟩) (some ⟨g6, 0, none⟩) 2 2 2 2 100 106 0 10 46 200 208 1 0 47) fun g8 w8 e8 b8 l8 => ?_)
  have h8_L : w.heap.size ≤ g8 := by rw [e8]; exact L.size
  have n8_b0 : g0 ≠ g8 := by have := blk_lt b0; omega
  have n8_b1 : g1 ≠ g8 := by have := blk_lt b1; omega
  have n8_b2 : g2 ≠ g8 := by have := blk_lt b2; omega
  have n8_b3 : g3 ≠ g8 := by have := blk_lt b3; omega
  have n8_b4 : g4 ≠ g8 := by have := blk_lt b4; omega
  have n8_b6 : g6 ≠ g8 := by have := blk_lt b6; omega
  replace b0 := blk_below b0 l8
  replace b1 := blk_below b1 l8
  replace b2 := blk_below b2 l8
  replace b3 := blk_below b3 l8
  replace b4 := blk_below b4 l8
  replace b6 := blk_below b6 l8
  replace L := below_step L l8
  refine E.GL.run rfl rfl rfl (E.Runs.build rfl (E.epc rfl (E.epc rfl (E.epc rfl (E.epc rfl E.epn)))) (build25f _ _ _ _ _ _ _ _ _ _ _ _)) ?_
  refine E.GL.store_whole rfl rfl rfl rfl rfl b0 rfl info25s (slices4_one _ _ _ _ _ _ _ _ _ _ _ _) fun wS1_9 c0 lS1_9 => ?_
  replace b1 := blk_grown b1 lS1_9 (E.nes (by first | assumption | exact Ne.symm (by assumption)))
  replace b2 := blk_grown b2 lS1_9 (E.nes (by first | assumption | exact Ne.symm (by assumption)))
  replace b3 := blk_grown b3 lS1_9 (E.nes (by first | assumption | exact Ne.symm (by assumption)))
  replace b4 := blk_grown b4 lS1_9 (E.nes (by first | assumption | exact Ne.symm (by assumption)))
  replace b6 := blk_grown b6 lS1_9 (E.nes (by first | assumption | exact Ne.symm (by assumption)))
  replace b8 := blk_grown b8 lS1_9 (E.nes (by first | assumption | exact Ne.symm (by assumption)))
  replace L := E.below_own L h0_L lS1_9
  replace b0 := c0
  clear c0
  refine E.GL.done ?_
  refine E.QG.code ?_
  refine E.CG.ret ?_
  exact E.QG.result_c rfl rfl b0 hu25 rfl info25s ⟨⟨some ⟨g1, 0, none⟩, 2, some ⟨g2, 0, none⟩, 2, some ⟨g3, 0, none⟩, 2, some ⟨g8, 0, none⟩, 2⟩, rfl, ⟨C_nums [5, 8] b1 (by decide), C_nums [7, 6] b2 (by decide), C_nums [7, 5] b3 (by decide), C_tills (x := (⟨[4, 2], 100, 106, 0, 10, 46⟩ : S40)) (y := (⟨[3, 3], 200, 208, 1, 0, 47⟩ : S40)) (C_nums [4, 2] b4 (by decide)) (C_nums [3, 3] b6 (by decide)) (by decide) (by decide) b8⟩, L⟩

end Go.Proofs.Ytiplichdhcmjdaa.T
namespace Go.Proofs.Ytiplichdhcmjdaa.T
open Go.RowKit Go.Proofs.YtiplichdhcmjdaaW.PrintWords Go.Proofs.YtiplichdhcmjdaaW.PrintMore
open Go.Proofs.Ytiplichdhcmjdaa.P
set_option linter.unusedVariables false
set_option linter.unusedSimpArgs false

set_option maxRecDepth 100000 in
theorem equal34 (a b : Int) (W : World) : (Op.equal 34 (.agg #[.int .i64 a, .int .i64 b]) (.agg #[.int .i64 a, .int .i64 b])).run Try.prog W = .ok true W := by
  have hu3 := Try.underlying3
  have hu34 := Try.underlying34
  have h34 := Try.stoodInHeld34
  unfold Op.equal Op.maxDepth
  go_simp
set_option maxRecDepth 100000 in
theorem lit22_1 (a : Int) (W : World) : (Instr.buildSlice 22 1 #[(0, .int .i64 a)]).run Try.prog W = .ok (.slice (some ⟨W.heap.size, 0, none⟩) 1 1) (W.alloc (.cells (([a] : List Int).map (Value.int .i64)).toArray 3 (0, 0))) := lit22 a W
set_option maxRecDepth 100000 in
set_option maxHeartbeats 8000000 in

theorem works_calls (w : World) :
    Calls Try.prog 13 #[] w fun e w' => e = .returned (.bool true) ∧ Below w.heap.size w w' := by
  have hu3 := Try.underlying3
  have hu22 := Try.underlying22
  have hu25 := Try.underlying25
  have hu28 := Try.underlying28
  have hu34 := Try.underlying34
  refine E.enter (N := 69) Try.func13 rfl Try.ntmps13 (args := []) (by simp) ?_
  have L := Below.refl w.heap.size w
  refine E.CG.seq ?_
  refine E.CG.list ?_
  refine E.GL.run rfl rfl rfl (E.Runs.assign rfl rfl) ?_
  refine E.GL.done ?_
  refine E.QG.code ?_
  refine E.CG.seq ?_
  refine E.CG.list ?_
  refine E.GL.st rfl rfl rfl (E.ST.call rfl ent43 E.evn ((example_calls _).mono ?_))
  rintro e w11 ⟨m, rfl, hEv, l11⟩
  refine ⟨_, rfl, ?_⟩
  replace L := below_step L l11
  have lo := Below.refl w11.heap.size w11
  refine E.GL.st rfl rfl rfl (E.ST.alloc rfl info25z fun g1 w1 e1 b1 l1 => ?_)
  have h1_L : w.heap.size ≤ g1 := by rw [e1]; exact L.size
  have h1_lo : w11.heap.size ≤ g1 := by rw [e1]; exact lo.size
  replace L := below_step L l1
  replace lo := below_step lo l1
  refine E.GL.store_whole rfl rfl rfl rfl rfl b1 rfl info25s (slices4_one _ _ _ _ _ _ _ _ _ _ _ _) fun wS1_2 c1 lS1_2 => ?_
  replace L := E.below_own L h1_L lS1_2
  replace lo := E.below_own lo h1_lo lS1_2
  replace b1 := c1
  clear c1
  refine E.GL.done ?_
  refine E.QG.code ?_
  refine E.CG.seq ?_
  refine E.CG.list ?_
  refine E.GL.run rfl rfl rfl (E.Runs.loads (cs := [.slice m.A 2 m.a, .slice m.B 2 m.b, .slice m.C 2 m.c, .slice m.D 2 m.d]) rfl rfl hu25 rfl info25s (blk_cells b1)) ?_
  refine E.GL.st rfl rfl rfl (E.ST.call rfl ent14 (E.evc rfl E.evn) ((parts14 eV m _ (hEv.below lo) ex_sz).mono ?_))
  rintro e w14 ⟨rfl, l14⟩
  refine ⟨_, rfl, ?_⟩
  replace b1 := blk_below b1 l14
  replace L := below_step L l14
  replace lo := below_step lo l14
  rw [ex_parts, ex_chk]
  refine E.GL.run rfl rfl rfl (E.Runs.move rfl rfl) ?_
  refine E.GL.run rfl rfl rfl (E.Runs.extract rfl rfl rfl) ?_
  refine E.GL.run rfl rfl rfl (E.Runs.extract rfl rfl rfl) ?_
  refine E.GL.run rfl rfl rfl (E.Runs.extract rfl rfl rfl) ?_
  refine E.GL.run rfl rfl rfl (E.Runs.assign rfl rfl) ?_
  refine E.GL.run rfl rfl rfl (E.Runs.assign rfl rfl) ?_
  refine E.GL.run rfl rfl rfl (E.Runs.assign rfl rfl) ?_
  refine E.GL.done ?_
  refine E.QG.code ?_
  refine E.CG.seq ?_
  refine E.CG.list ?_
  refine E.GL.run rfl rfl rfl (E.Runs.loads (cs := [.slice m.A 2 m.a, .slice m.B 2 m.b, .slice m.C 2 m.c, .slice m.D 2 m.d]) rfl rfl hu25 rfl info25s (blk_cells b1)) ?_
  refine E.GL.st rfl rfl rfl (E.ST.call rfl ent15 (E.evc rfl E.evn) ((fewest_calls eV m _ (hEv.below lo) ex_sz).mono ?_))
  rintro e w20 ⟨rfl, l20⟩
  refine ⟨_, rfl, ?_⟩
  replace b1 := blk_below b1 l20
  replace L := below_step L l20
  replace lo := below_step lo l20
  rw [ex_few, ex_err]
  refine E.GL.run rfl rfl rfl (E.Runs.move rfl rfl) ?_
  refine E.GL.run rfl rfl rfl (E.Runs.extract rfl rfl rfl) ?_
  refine E.GL.run rfl rfl rfl (E.Runs.extract rfl rfl rfl) ?_
  refine E.GL.run rfl rfl rfl (E.Runs.assign rfl rfl) ?_
  refine E.GL.run rfl rfl rfl (E.Runs.assign rfl rfl) ?_
  refine E.GL.done ?_
  refine E.QG.code ?_
  refine E.CG.seq ?_
  refine E.CG.list ?_
  refine E.GL.run rfl rfl rfl (E.Runs.loads (cs := [.slice m.A 2 m.a, .slice m.B 2 m.b, .slice m.C 2 m.c, .slice m.D 2 m.d]) rfl rfl hu25 rfl info25s (blk_cells b1)) ?_
  refine E.GL.st rfl rfl rfl (E.ST.call rfl ent16 (E.evc rfl (E.evc rfl (E.evc rfl E.evn))) ((really_calls eV m 1 1 _ (hEv.below lo) ex_sz).mono ?_))
  rintro e w25 ⟨rfl, l25⟩
  refine ⟨_, rfl, ?_⟩
  replace b1 := blk_below b1 l25
  replace L := below_step L l25
  replace lo := below_step lo l25
  rw [ex_span.1, ex_span.2, ex_errT]
  refine E.GL.run rfl rfl rfl (E.Runs.move rfl rfl) ?_
  refine E.GL.run rfl rfl rfl (E.Runs.extract rfl rfl rfl) ?_
  refine E.GL.run rfl rfl rfl (E.Runs.extract rfl rfl rfl) ?_
  refine E.GL.st rfl rfl rfl (E.ST.alloc rfl info34z fun g7 w7 e7 b7 l7 => ?_)
  have h7_L : w.heap.size ≤ g7 := by rw [e7]; exact L.size
  have h7_lo : w11.heap.size ≤ g7 := by rw [e7]; exact lo.size
  have n7_b1 : g1 ≠ g7 := by have := blk_lt b1; omega
  replace b1 := blk_below b1 l7
  replace L := below_step L l7
  replace lo := below_step lo l7
  refine E.GL.store_whole rfl rfl rfl rfl rfl b7 rfl info34s (two_one _ _) fun wS4_6 c7 lS4_6 => ?_
  replace b1 := blk_grown b1 lS4_6 (E.nes (by first | assumption | exact Ne.symm (by assumption)))
  replace L := E.below_own L h7_L lS4_6
  replace lo := E.below_own lo h7_lo lS4_6
  replace b7 := c7
  clear c7
  refine E.GL.run rfl rfl rfl (E.Runs.assign rfl rfl) ?_
  refine E.GL.done ?_
  refine E.QG.code ?_
  refine E.CG.seq ?_
  refine E.CG.list ?_
  refine E.GL.run rfl rfl rfl (E.Runs.loads (cs := [.slice m.A 2 m.a, .slice m.B 2 m.b, .slice m.C 2 m.c, .slice m.D 2 m.d]) rfl rfl hu25 rfl info25s (blk_cells b1)) ?_
  refine E.GL.st rfl rfl rfl (E.ST.call rfl ent17 (E.evc rfl E.evn) ((suspects_calls eV m _ (hEv.below lo) ex_sz).mono ?_))
  rintro e w30 ⟨v30, rfl, R30, l30⟩
  refine ⟨_, rfl, ?_⟩
  replace b1 := blk_below b1 l30
  replace b7 := blk_below b7 l30
  replace L := below_step L l30
  replace lo := below_step lo l30
  have lx := Below.refl w30.heap.size w30
  rw [ex_susp] at R30
  rw [ex_err]
  obtain ⟨A30, c30, hv30⟩ := Kd.R_slice R30
  subst hv30
  obtain ⟨_, _, C30⟩ := Kd.R_reads' R30
  refine E.GL.run rfl rfl rfl (E.Runs.move rfl rfl) ?_
  refine E.GL.run rfl rfl rfl (E.Runs.extract rfl rfl rfl) ?_
  refine E.GL.run rfl rfl rfl (E.Runs.extract rfl rfl rfl) ?_
  refine E.GL.run rfl rfl rfl (E.Runs.assign rfl rfl) ?_
  refine E.GL.run rfl rfl rfl (E.Runs.assign rfl rfl) ?_
  refine E.GL.done ?_
  refine E.QG.code ?_
  refine E.CG.seq ?_
  refine E.CG.list ?_
  refine E.GL.run rfl rfl rfl (E.Runs.move rfl rfl) ?_
  refine E.GL.run rfl rfl rfl (E.Runs.eql rfl rfl rfl (decide_eq_true rfl)) ?_
  refine E.GL.run rfl rfl rfl (E.Runs.move rfl rfl) ?_
  refine E.GL.run rfl rfl rfl (E.Runs.move rfl rfl) ?_
  refine E.GL.run rfl rfl rfl (E.Runs.eql rfl rfl rfl (decide_eq_true rfl)) ?_
  refine E.GL.run rfl rfl rfl (E.Runs.pick_t rfl rfl rfl) ?_
  refine E.GL.run rfl rfl rfl (E.Runs.move rfl rfl) ?_
  refine E.GL.run rfl rfl rfl (E.Runs.move rfl rfl) ?_
  refine E.GL.run rfl rfl rfl (E.Runs.eql rfl rfl rfl (decide_eq_true rfl)) ?_
  refine E.GL.run rfl rfl rfl (E.Runs.pick_t rfl rfl rfl) ?_
  refine E.GL.run rfl rfl rfl (E.Runs.move rfl rfl) ?_
  refine E.GL.run rfl rfl rfl (E.Runs.move rfl rfl) ?_
  refine E.GL.run rfl rfl rfl (E.Runs.eql rfl rfl rfl (decide_eq_true rfl)) ?_
  refine E.GL.run rfl rfl rfl (E.Runs.pick_t rfl rfl rfl) ?_
  refine E.GL.run rfl rfl rfl (E.Runs.move rfl rfl) ?_
  refine E.GL.run rfl rfl rfl (E.Runs.move rfl rfl) ?_
  refine E.GL.run rfl rfl rfl (E.Runs.eql rfl rfl rfl (decide_eq_true rfl)) ?_
  refine E.GL.run rfl rfl rfl (E.Runs.pick_t rfl rfl rfl) ?_
  refine E.GL.run rfl rfl rfl (E.Runs.move rfl rfl) ?_
  refine E.GL.run rfl rfl rfl (E.Runs.move rfl rfl) ?_
  refine E.GL.run rfl rfl rfl (E.Runs.eql rfl rfl rfl (decide_eq_true rfl)) ?_
  refine E.GL.run rfl rfl rfl (E.Runs.pick_t rfl rfl rfl) ?_
  refine E.GL.run rfl rfl rfl (E.Runs.move rfl rfl) ?_
  refine E.GL.run rfl rfl rfl (E.Runs.move rfl rfl) ?_
  refine E.GL.run rfl rfl rfl (E.Runs.eql rfl rfl rfl (decide_eq_true rfl)) ?_
  refine E.GL.run rfl rfl rfl (E.Runs.pick_t rfl rfl rfl) ?_
  refine E.GL.run rfl rfl rfl (E.Runs.move rfl rfl) ?_
  refine E.GL.run rfl rfl rfl (E.Runs.loads (cs := [.int .i64 4, .int .i64 4]) rfl rfl hu34 rfl info34s (blk_cells b7)) ?_
  refine E.GL.run rfl rfl rfl (E.Runs.build rfl (E.epc rfl (E.epc rfl E.epn)) (build34 _ _)) ?_
  refine E.GL.run rfl rfl rfl (E.Runs.eqlv rfl rfl rfl rfl (fun _ _ W => run_eqGuard_agg W _ _ _ _ _ _ Try.eqGuardType34) (equal34 _ _)) ?_
  refine E.GL.run rfl rfl rfl (E.Runs.pick_t rfl rfl rfl) ?_
  refine E.GL.run rfl rfl rfl (E.Runs.move rfl rfl) ?_
  refine E.GL.run rfl rfl rfl (E.Runs.move rfl rfl) ?_
  refine E.GL.st rfl rfl rfl (E.ST.litB (cs := (([1] : List Int).map (Value.int .i64)).toArray) rfl (E.epc rfl E.epn) (lit22_1 _) fun g66 w66 e66 b66 l66 => ?_)
  have h66_L : w.heap.size ≤ g66 := by rw [e66]; exact L.size
  have h66_lo : w11.heap.size ≤ g66 := by rw [e66]; exact lo.size
  have h66_lx : w30.heap.size ≤ g66 := by rw [e66]; exact lx.size
  have n66_b1 : g1 ≠ g66 := by have := blk_lt b1; omega
  have n66_b7 : g7 ≠ g66 := by have := blk_lt b7; omega
  replace b1 := blk_below b1 l66
  replace b7 := blk_below b7 l66
  replace L := below_step L l66
  replace lo := below_step lo l66
  replace lx := below_step lx l66
  refine E.GL.st rfl rfl rfl (E.ST.call rfl ent26 (E.evc rfl (E.evc rfl E.evn)) ((same_calls [1] [1] A30 _ c30 1 _ true (by simp) (Kd.C_below C30 lx) (C_nums [1] b66 (by decide)) (by decide)).mono ?_))
  rintro e w67 ⟨rfl, l67⟩
  refine ⟨_, rfl, ?_⟩
  replace b1 := blk_below b1 l67
  replace b7 := blk_below b7 l67
  replace b66 := blk_below b66 l67
  replace L := below_step L l67
  replace lo := below_step lo l67
  replace lx := below_step lx l67
  refine E.GL.run rfl rfl rfl (E.Runs.pick_t rfl rfl rfl) ?_
  refine E.GL.run rfl rfl rfl (E.Runs.assign rfl rfl) ?_
  refine E.GL.done ?_
  refine E.QG.code ?_
  refine E.CG.ret ?_
  exact E.QG.result rfl rfl ⟨rfl, L⟩

end Go.Proofs.Ytiplichdhcmjdaa.T
namespace Go.Proofs.Ytiplichdhcmjdaa.T
open Go.RowKit Go.Proofs.YtiplichdhcmjdaaW.PrintWords Go.Proofs.YtiplichdhcmjdaaW.PrintMore
open Go.Proofs.Ytiplichdhcmjdaa.P
set_option linter.unusedVariables false
set_option linter.unusedSimpArgs false

end Go.Proofs.Ytiplichdhcmjdaa.T
namespace Go.Proofs.Ytiplichdhcmjdaa.T
open Go.RowKit Go.Proofs.YtiplichdhcmjdaaW.PrintWords Go.Proofs.YtiplichdhcmjdaaW.PrintMore
open Go.Proofs.Ytiplichdhcmjdaa.P
set_option linter.unusedVariables false
set_option linter.unusedSimpArgs false

theorem tA_len {V : Ev} {P : Nat → Prop} (hs : Sz V) : (tA V P).length ≤ 1000000 := by
  unfold tA
  split
  · have := tL_len V P V.cs.length; have := hs.c; omega
  · simp
end Go.Proofs.Ytiplichdhcmjdaa.T
namespace Go.Proofs.Ytiplichdhcmjdaa.T
open Go.RowKit Go.Proofs.YtiplichdhcmjdaaW.PrintWords Go.Proofs.YtiplichdhcmjdaaW.PrintMore
open Go.Proofs.Ytiplichdhcmjdaa.P
set_option linter.unusedVariables false
set_option linter.unusedSimpArgs false

theorem bool_equal (a b : Bool) (W : World) : (Op.equal 4 (.bool a) (.bool b)).run Try.prog W = .ok (a == b) W := run_equal_bool W 4 a b Try.underlying4
end Go.Proofs.Ytiplichdhcmjdaa.T
namespace Go.Proofs.Ytiplichdhcmjdaa.T
open Go.RowKit Go.Proofs.YtiplichdhcmjdaaW.PrintWords Go.Proofs.YtiplichdhcmjdaaW.PrintMore
open Go.Proofs.Ytiplichdhcmjdaa.P
set_option linter.unusedVariables false
set_option linter.unusedSimpArgs false

end Go.Proofs.Ytiplichdhcmjdaa.T
namespace Go.Proofs.Ytiplichdhcmjdaa.T
open Go.RowKit Go.Proofs.YtiplichdhcmjdaaW.PrintWords Go.Proofs.YtiplichdhcmjdaaW.PrintMore
open Go.Proofs.Ytiplichdhcmjdaa.P
set_option linter.unusedVariables false
set_option linter.unusedSimpArgs false

end Go.Proofs.Ytiplichdhcmjdaa.T
namespace Go.Proofs.Ytiplichdhcmjdaa.T
open Go.RowKit Go.Proofs.YtiplichdhcmjdaaW.PrintWords Go.Proofs.YtiplichdhcmjdaaW.PrintMore
open Go.Proofs.Ytiplichdhcmjdaa.P
set_option linter.unusedVariables false
set_option linter.unusedSimpArgs false

end Go.Proofs.Ytiplichdhcmjdaa.T
namespace Go.Proofs.Ytiplichdhcmjdaa.T
open Go.RowKit Go.Proofs.YtiplichdhcmjdaaW.PrintWords Go.Proofs.YtiplichdhcmjdaaW.PrintMore
open Go.Proofs.Ytiplichdhcmjdaa.P
set_option linter.unusedVariables false
set_option linter.unusedSimpArgs false

end Go.Proofs.Ytiplichdhcmjdaa.T
namespace Go.Proofs.Ytiplichdhcmjdaa.E
open Go.RowKit Go.Proofs.YtiplichdhcmjdaaW.PrintWords Go.Proofs.YtiplichdhcmjdaaW.PrintMore
open Go.Proofs.Ytiplichdhcmjdaa.P
open Go.Proofs.Ytiplichdhcmjdaa.T
set_option linter.unusedVariables false
set_option linter.unusedSimpArgs false
section
variable {P : Program} {w w' : World} {N : Nat} {env : Env} {o : Oper} {Q : Exit → Act → World → Prop} {K : Value → World → Prop}
end
end Go.Proofs.Ytiplichdhcmjdaa.E
namespace Go.Proofs.Ytiplichdhcmjdaa.T
open Go.RowKit Go.Proofs.YtiplichdhcmjdaaW.PrintWords Go.Proofs.YtiplichdhcmjdaaW.PrintMore
open Go.Proofs.Ytiplichdhcmjdaa.P
end Go.Proofs.Ytiplichdhcmjdaa.T
namespace Go.Proofs.Ytiplichdhcmjdaa.T
open Go.RowKit Go.Proofs.YtiplichdhcmjdaaW.PrintWords Go.Proofs.YtiplichdhcmjdaaW.PrintMore
open Go.Proofs.Ytiplichdhcmjdaa.P
set_option linter.unusedVariables false
set_option linter.unusedSimpArgs false

end Go.Proofs.Ytiplichdhcmjdaa.T
namespace Go.Proofs.Ytiplichdhcmjdaa.E
open Go.RowKit Go.Proofs.YtiplichdhcmjdaaW.PrintWords Go.Proofs.YtiplichdhcmjdaaW.PrintMore
theorem Cb.grown {b g : Nat} {W w1 : World} {va vb vc : Value} {la lb lc : List Int} (h : Cb b W va vb vc la lb lc) (hg : W.grownBy w1 (some g)) (p : ∃ cs t, W.heap[g]? = some (.cells cs t (0, 0)) ∧ 3 ≠ t ∧ 40 ≠ t) : Cb b w1 va vb vc la lb lc := by
  obtain ⟨cs, t, hb, h1, _⟩ := p
  exact h.over hb h1 hg
end Go.Proofs.Ytiplichdhcmjdaa.E
namespace Go.Proofs.Ytiplichdhcmjdaa.T
open Go.RowKit Go.Proofs.YtiplichdhcmjdaaW.PrintWords Go.Proofs.YtiplichdhcmjdaaW.PrintMore
open Go.Proofs.Ytiplichdhcmjdaa.P
structure RT (b : Nat) (w : World) (v : Value) (xs : List S40) : Prop where
  r : Kd.R k40 40 w b (fun _ => True) v xs
theorem RT.below {b : Nat} {w w' : World} {v : Value} {xs : List S40} (h : RT b w v xs) (l : Below w.heap.size w w') : RT b w' v xs := ⟨Kd.R_below h.r l⟩
theorem RT.grown {b g : Nat} {w w' : World} {v : Value} {xs : List S40} (h : RT b w v xs) (hg : w.grownBy w' (some g)) (p : ∃ cs t, w.heap[g]? = some (.cells cs t (0, 0)) ∧ 3 ≠ t ∧ 40 ≠ t) : RT b w' v xs := by
  obtain ⟨cs, t, hb, h1, h2⟩ := p
  refine ⟨E.R_over h.r hb (fun q hq => ?_) hg⟩
  rcases List.mem_cons.mp hq with rfl | hq
  · exact h2
  · rcases List.mem_cons.mp hq with rfl | hq
    · exact h1
    · cases hq
end Go.Proofs.Ytiplichdhcmjdaa.T
namespace Go.Proofs.Ytiplichdhcmjdaa.T
open Go.RowKit Go.Proofs.YtiplichdhcmjdaaW.PrintWords Go.Proofs.YtiplichdhcmjdaaW.PrintMore
open Go.Proofs.Ytiplichdhcmjdaa.P
set_option linter.unusedVariables false
set_option linter.unusedSimpArgs false
def rot {α : Type} (k : Nat) (l : List α) : List α := l.drop k ++ l.take k
abbrev rotV (V : Ev) (k : Nat) : Ev := { V with cs := rot k V.cs }
/-- Where the one at i stands then. -/
def nw (n k i : Nat) : Nat := if k ≤ i then i - k else i + n - k
theorem rot_len {α : Type} {l : List α} {k : Nat} (hk : k ≤ l.length) : (rot k l).length = l.length := by unfold rot; rw [List.length_append, List.length_drop, List.length_take]; omega
theorem rot_rot {α : Type} {l : List α} {k : Nat} (hk : k ≤ l.length) : rot (l.length - k) (rot k l) = l := by
  unfold rot
  have h : (l.drop k).length = l.length - k := List.length_drop
  rw [List.drop_left' h, List.take_left' h, List.take_append_drop]
theorem nw_lt {n k i : Nat} (hk : k ≤ n) (hi : i < n) : nw n k i < n := by unfold nw; split <;> omega
theorem nw_back {n k i : Nat} (hk : k ≤ n) (hi : i < n) : nw n k (nw n (n - k) i) = i := by unfold nw; split <;> split <;> omega
theorem rot_at {α : Type} {l : List α} {n k i : Nat} (hn : l.length = n) (hk : k ≤ n) (hi : i < n) : (rot k l)[nw n k i]? = l[i]? := by
  subst hn
  unfold rot nw
  split
  · rw [List.getElem?_append_left (by rw [List.length_drop]; omega), List.getElem?_drop, show k + (i - k) = i by omega]
  · rw [List.getElem?_append_right (by rw [List.length_drop]; omega), List.length_drop, List.getElem?_take, if_pos (by omega), show i + l.length - k - (l.length - k) = i by omega]
theorem ct_rot {V : Ev} {k i : Nat} (hk : k ≤ V.cs.length) (hi : i < V.cs.length) : ct (rotV V k) (nw V.cs.length k i) = ct V i := by
  unfold ct
  rw [List.getD_eq_getElem?_getD, List.getD_eq_getElem?_getD]
  show ((rot k V.cs)[_]?).getD _ = _
  rw [rot_at rfl hk hi]
theorem flT_shift {U V : Ev} : ∀ (t : List Bl) (a b : Nat), (∀ j x, j < t.length → fl U (ct U (a + j)) x = fl V (ct V (b + j)) x) → flT U a t = flT V b t
  | [], _, _, _ => rfl
  | x :: t, a, b, h => by
    have h0 := h 0 x (by simp)
    rw [Nat.add_zero, Nat.add_zero] at h0
    rw [flT, flT, h0, flT_shift t (a + 1) (b + 1) fun j y hj => by have := h (j + 1) y (by simpa using hj); rwa [show a + (j + 1) = a + 1 + j by omega, show b + (j + 1) = b + 1 + j by omega] at this]
theorem rot_truth {V : Ev} {k : Nat} (hk : k ≤ V.cs.length) {t : List Bl} (h : Truth V t) : Truth (rotV V k) (rot k t) ∧ flT (rotV V k) 0 (rot k t) = flT V 0 t := by
  have htl := h.1
  refine ⟨⟨?_, ?_, ?_⟩, ?_⟩
  · show (rot k t).length = (rot k V.cs).length
    rw [rot_len hk, rot_len (by omega), htl]
  · refine Ws_of fun j b hj => ?_
    have hjl := (List.getElem?_eq_some_iff.1 hj).1
    rw [rot_len (by omega), htl] at hjl
    have hb := nw_back hk hjl
    have hi := nw_lt (show V.cs.length - k ≤ V.cs.length by omega) hjl
    rw [← hb, rot_at htl hk hi] at hj
    have hw := Ws_get h.2.1 hj
    rw [Nat.zero_add] at hw ⊢
    rw [← hb, ct_rot hk hi]
    exact hw
  · unfold rot
    rw [sumT_append, Bl.add_comm, ← sumT_append, List.take_append_drop]
    exact h.2.2
  · have e1 : flT V 0 t = flT V 0 (t.take k) + flT V k (t.drop k) := by
      have := flT_append V (t.take k) (t.drop k) 0
      rw [List.take_append_drop, List.length_take, Nat.min_eq_left (by omega), Nat.zero_add] at this
      exact this
    unfold rot
    rw [flT_append, List.length_drop, Nat.zero_add, e1]
    have e2 : flT (rotV V k) 0 (t.drop k) = flT V k (t.drop k) := flT_shift _ _ _ fun j x hj => by
      rw [List.length_drop] at hj
      have hc := ct_rot (V := V) (i := k + j) hk (by omega)
      rw [show nw V.cs.length k (k + j) = 0 + j by unfold nw; rw [if_pos (by omega)]; omega] at hc
      rw [hc]
      rfl
    have e3 : flT (rotV V k) (t.length - k) (t.take k) = flT V 0 (t.take k) := flT_shift _ _ _ fun j x hj => by
      rw [List.length_take, Nat.min_eq_left (by omega)] at hj
      have hc := ct_rot (V := V) (i := 0 + j) hk (by omega)
      rw [show nw V.cs.length k (0 + j) = t.length - k + j by unfold nw; rw [if_neg (by omega)]; omega] at hc
      rw [hc]
      rfl
    rw [show rotV V k = { V with cs := rot k V.cs } from rfl] at e2 e3
    rw [e2, e3]
    omega
theorem rot_back {V : Ev} {k : Nat} (hk : k ≤ V.cs.length) : rotV (rotV V k) (V.cs.length - k) = V := by
  show ({ V with cs := rot (V.cs.length - k) (rot k V.cs) } : Ev) = V
  rw [rot_rot hk]
theorem rot_from {V : Ev} {k : Nat} (hk : k ≤ V.cs.length) {t : List Bl} (h : Truth (rotV V k) t) : ∃ s, Truth V s ∧ t = rot k s ∧ flT (rotV V k) 0 t = flT V 0 s := by
  have hl : (rotV V k).cs.length = V.cs.length := rot_len hk
  have htl : t.length = V.cs.length := h.1.trans hl
  obtain ⟨h1, h2⟩ := rot_truth (V := rotV V k) (k := V.cs.length - k) (by omega) h
  rw [rot_back hk] at h1 h2
  refine ⟨_, h1, ?_, h2.symm⟩
  have := rot_rot (l := t) (k := V.cs.length - k) (by omega)
  rw [htl, show V.cs.length - (V.cs.length - k) = k by omega] at this
  exact this.symm
theorem vok_rot {V : Ev} {k : Nat} (hk : k ≤ V.cs.length) (ok : VOk V) : VOk (rotV V k) := by
  have hl : (rotV V k).cs.length = V.cs.length := rot_len hk
  refine ⟨ok.n1, ok.n3, ok.nq, ok.nt, by rw [hl]; exact ok.c1, by rw [hl]; exact ok.c4, ok.p, ok.q, ok.t, fun x hx => ok.c x ?_⟩
  rcases List.mem_append.mp hx with h | h
  · exact List.mem_of_mem_drop h
  · exact List.mem_of_mem_take h
theorem sz_rot {V : Ev} {k : Nat} (hk : k ≤ V.cs.length) (hs : Sz V) : Sz (rotV V k) := by
  have hl : (rotV V k).cs.length = V.cs.length := rot_len hk
  refine ⟨hs.p, hs.q, hs.t, by rw [hl]; exact hs.c, fun x hx => hs.s x ?_⟩
  rcases List.mem_append.mp hx with h | h
  · exact List.mem_of_mem_drop h
  · exact List.mem_of_mem_take h
theorem err_rot {V : Ev} {k : Nat} (hk : k ≤ V.cs.length) (ok : VOk V) : errV (rotV V k) = errV V := by
  rcases errV_cases V with ⟨h, _⟩ | ⟨_, h, e⟩ | ⟨_, ⟨t, ht⟩, e⟩
  · exact absurd ok h
  · rw [e]
    exact errV_none (vok_rot hk ok) fun t ht => by
      obtain ⟨s, hs, _⟩ := rot_from hk ht
      exact h s hs
  · rw [e]
    exact errV_ok (vok_rot hk ok) (rot_truth hk ht).1
theorem few_rot {V : Ev} {k : Nat} (hk : k ≤ V.cs.length) {t : List Bl} (ht : Truth V t) : fewN (rotV V k) = fewN V := by
  obtain ⟨⟨s, hs, hn⟩, hm⟩ := fewN_is ht
  refine fewN_eq ⟨⟨rot k s, (rot_truth hk hs).1, by rw [(rot_truth hk hs).2]; exact hn⟩, fun u hu => ?_⟩
  obtain ⟨v, hv, _, e⟩ := rot_from hk hu
  rw [e]
  exact hm v hv
theorem fewA_rot {V : Ev} {k : Nat} (hk : k ≤ V.cs.length) (ok : VOk V) : fewA (rotV V k) = fewA V := by
  rcases errV_cases V with ⟨h, _⟩ | ⟨_, h, e⟩ | ⟨_, ⟨t, ht⟩, e⟩
  · exact absurd ok h
  · unfold fewA
    rw [err_rot hk ok, if_neg (by omega), if_neg (by omega)]
  · unfold fewA
    rw [err_rot hk ok, few_rot hk ht]
theorem lkly_rot {V : Ev} {k : Nat} (hk : k ≤ V.cs.length) {t : List Bl} (h : Lkly V t) : Lkly (rotV V k) (rot k t) := ⟨(rot_truth hk h.1).1, by rw [(rot_truth hk h.1).2, few_rot hk h.1]; exact h.2⟩
theorem lkly_from {V : Ev} {k : Nat} (hk : k ≤ V.cs.length) {t : List Bl} (h : Lkly (rotV V k) t) : ∃ s, Lkly V s ∧ t = rot k s := by
  obtain ⟨s, hs, e, f⟩ := rot_from hk h.1
  exact ⟨s, ⟨hs, by rw [← f, h.2, few_rot hk hs]⟩, e⟩
theorem likely_rot {V : Ev} {k i : Nat} (hk : k ≤ V.cs.length) (hi : i < V.cs.length) {b : Bl} : (∃ t, Lkly (rotV V k) t ∧ t[nw V.cs.length k i]? = some b) ↔ ∃ t, Lkly V t ∧ t[i]? = some b := by
  constructor
  · rintro ⟨t, ht, hb⟩
    obtain ⟨s, hs, rfl⟩ := lkly_from hk ht
    rw [rot_at hs.1.1 hk hi] at hb
    exact ⟨s, hs, hb⟩
  · rintro ⟨t, ht, hb⟩
    exact ⟨_, lkly_rot hk ht, by rw [rot_at ht.1.1 hk hi]; exact hb⟩
theorem susp_rot {V : Ev} {k i : Nat} (hk : k ≤ V.cs.length) (hi : i < V.cs.length) : suspP (rotV V k) (nw V.cs.length k i) ↔ suspP V i := by
  constructor
  · rintro ⟨t, b, h1, h2, h3⟩
    obtain ⟨s, k1, k2⟩ := (likely_rot hk hi).mp ⟨t, h1, h2⟩
    rw [ct_rot hk hi] at h3
    exact ⟨s, b, k1, k2, h3⟩
  · rintro ⟨t, b, h1, h2, h3⟩
    obtain ⟨s, k1, k2⟩ := (likely_rot hk hi).mpr ⟨t, h1, h2⟩
    exact ⟨s, b, k1, k2, by rw [ct_rot hk hi]; exact h3⟩
theorem guilt_rot {V : Ev} {k i : Nat} (hk : k ≤ V.cs.length) (hi : i < V.cs.length) : guiltP (rotV V k) (nw V.cs.length k i) ↔ guiltP V i := by
  constructor
  · intro h t b h1 h2
    obtain ⟨s, k1, k2⟩ := (likely_rot hk hi).mpr ⟨t, h1, h2⟩
    have := h s b k1 k2
    rw [ct_rot hk hi] at this
    exact this
  · intro h t b h1 h2
    obtain ⟨s, k1, k2⟩ := (likely_rot hk hi).mp ⟨t, h1, h2⟩
    rw [ct_rot hk hi]
    exact h s b k1 k2
theorem val_rot {V : Ev} {k i : Nat} (hk : k ≤ V.cs.length) (hi : i < V.cs.length) {q : Bl → Int} : valP (rotV V k) (nw V.cs.length k i) q = valP V i q := by
  funext n
  refine propext ⟨?_, ?_⟩
  · rintro ⟨t, b, h1, h2, h3⟩
    obtain ⟨s, k1, k2⟩ := (likely_rot hk hi).mp ⟨t, h1, h2⟩
    exact ⟨s, b, k1, k2, h3⟩
  · rintro ⟨t, b, h1, h2, h3⟩
    obtain ⟨s, k1, k2⟩ := (likely_rot hk hi).mpr ⟨t, h1, h2⟩
    exact ⟨s, b, k1, k2, h3⟩
theorem lackQ_rot {V : Ev} {k i : Nat} (hk : k ≤ V.cs.length) (hi : i < V.cs.length) : lackQ (rotV V k) ((nw V.cs.length k i : Nat) : Int) = lackQ V (i : Int) := by
  funext b
  unfold lackQ
  rw [Int.toNat_natCast, Int.toNat_natCast, ct_rot hk hi]
  rfl
theorem errT_val {U : Ev} (ok : VOk U) {i : Nat} (hi : i < U.cs.length) : errT U (i : Int) 0 = @ite Int (∃ t, Truth U t) (Classical.propDecidable _) 0 3 := by
  have h2 := ok.n1
  unfold errT
  rw [if_pos ok, if_pos (by omega)]
theorem errT_rot {V : Ev} {k i : Nat} (hk : k ≤ V.cs.length) (hi : i < V.cs.length) (ok : VOk V) : errT (rotV V k) ((nw V.cs.length k i : Nat) : Int) 0 = errT V (i : Int) 0 := by
  have hl : (rotV V k).cs.length = V.cs.length := rot_len hk
  have hx : (∃ t, Truth (rotV V k) t) ↔ ∃ t, Truth V t := ⟨fun ⟨t, ht⟩ => by obtain ⟨s, hs, _⟩ := rot_from hk ht; exact ⟨s, hs⟩, fun ⟨t, ht⟩ => ⟨_, (rot_truth hk ht).1⟩⟩
  rw [errT_val ok hi, errT_val (vok_rot hk ok) (by rw [hl]; exact nw_lt hk hi)]
  by_cases h : ∃ t, Truth V t
  · rw [if_pos h, if_pos (hx.mpr h)]
  · rw [if_neg h, if_neg fun q => h (hx.mp q)]
theorem lo_rot {V : Ev} {k i : Nat} (hk : k ≤ V.cs.length) (hi : i < V.cs.length) (ok : VOk V) : loV (rotV V k) ((nw V.cs.length k i : Nat) : Int) 0 (lackQ (rotV V k) ((nw V.cs.length k i : Nat) : Int)) = loV V (i : Int) 0 (lackQ V (i : Int)) := by
  unfold loV
  rw [errT_rot hk hi ok, lackQ_rot hk hi, Int.toNat_natCast, Int.toNat_natCast, val_rot hk hi]
theorem hi_rot {V : Ev} {k i : Nat} (hk : k ≤ V.cs.length) (hi : i < V.cs.length) (ok : VOk V) : hiV (rotV V k) ((nw V.cs.length k i : Nat) : Int) 0 (lackQ (rotV V k) ((nw V.cs.length k i : Nat) : Int)) = hiV V (i : Int) 0 (lackQ V (i : Int)) := by
  unfold hiV
  rw [errT_rot hk hi ok, lackQ_rot hk hi, Int.toNat_natCast, Int.toNat_natCast, val_rot hk hi]
theorem range_rot {n k : Nat} (hk : k ≤ n) : (List.range n).map (nw n (n - k)) = rot k (List.range n) := by
  refine List.ext_getElem? fun j => ?_
  by_cases hj : j < n
  · have hi := nw_lt (show n - k ≤ n by omega) hj
    have h := rot_at (l := List.range n) (n := n) (k := k) (by simp) hk hi
    rw [nw_back hk hj, List.getElem?_range hi] at h
    rw [h, List.getElem?_map, List.getElem?_range hj]
    rfl
  · rw [List.getElem?_eq_none (by simp; omega), List.getElem?_eq_none (by rw [rot_len (by simp; omega), List.length_range]; omega)]
theorem tA_rot_len {V : Ev} {k : Nat} (hk : k ≤ V.cs.length) (ok : VOk V) {P Q : Nat → Prop} (h : ∀ i, i < V.cs.length → (Q (nw V.cs.length k i) ↔ P i)) : (tA (rotV V k) Q).length = (tA V P).length := by
  have hl : (rotV V k).cs.length = V.cs.length := rot_len hk
  unfold tA
  rw [err_rot hk ok, hl]
  split
  · unfold tL
    rw [List.length_map, List.length_map]
    have e1 : (List.range V.cs.length).filter (fun i => @decide (Q i) (Classical.propDecidable _)) = (List.range V.cs.length).filter ((fun i => @decide (P i) (Classical.propDecidable _)) ∘ nw V.cs.length (V.cs.length - k)) := by
      refine List.filter_congr fun j hj => ?_
      have hj := List.mem_range.mp hj
      have hi := nw_lt (show V.cs.length - k ≤ V.cs.length by omega) hj
      have := h _ hi
      rw [nw_back hk hj] at this
      simp only [Function.comp]
      rw [decide_eq_decide]
      exact this
    rw [e1]
    have e2 : (((List.range V.cs.length).filter ((fun i => @decide (P i) (Classical.propDecidable _)) ∘ nw V.cs.length (V.cs.length - k))).map (nw V.cs.length (V.cs.length - k))).length = _ := List.length_map ..
    rw [← e2, ← List.filter_map, range_rot hk]
    unfold rot
    rw [List.filter_append, List.length_append, Nat.add_comm, ← List.length_append, ← List.filter_append, List.take_append_drop]
  · rfl
theorem tA_rot_mem {V : Ev} {k i : Nat} (hk : k ≤ V.cs.length) (ok : VOk V) (hi : i < V.cs.length) {P Q : Nat → Prop} (h : Q (nw V.cs.length k i) ↔ P i) : ((nw V.cs.length k i : Nat) : Int) ∈ tA (rotV V k) Q ↔ (i : Int) ∈ tA V P := by
  have hl : (rotV V k).cs.length = V.cs.length := rot_len hk
  have hn := nw_lt hk hi
  unfold tA
  rw [err_rot hk ok, hl]
  split
  · rw [tL_mem, tL_mem]
    constructor
    · rintro ⟨j, h1, h2, h3⟩
      obtain rfl : nw V.cs.length k i = j := by omega
      exact ⟨i, hi, h.mp h2, rfl⟩
    · rintro ⟨j, h1, h2, h3⟩
      obtain rfl : i = j := by omega
      exact ⟨_, hn, h.mpr h2, rfl⟩
  · simp
theorem nw_mod {n k i : Nat} (hk : k < n) (hi : i < n) : ((i : Int) + n - k).tmod n = (nw n k i : Nat) := by
  have e : (i : Int) + n - k = ((i + n - k : Nat) : Int) := by omega
  rw [e, ← Int.ofNat_tmod]
  congr 1
  unfold nw
  split
  · rw [show i + n - k = i - k + n by omega, Nat.add_mod_right, Nat.mod_eq_of_lt (by omega)]
  · rw [Nat.mod_eq_of_lt (by omega)]
end Go.Proofs.Ytiplichdhcmjdaa.T
namespace Go.Proofs.Ytiplichdhcmjdaa.E
open Go.RowKit Go.Proofs.YtiplichdhcmjdaaW.PrintWords Go.Proofs.YtiplichdhcmjdaaW.PrintMore
open Go.Proofs.Ytiplichdhcmjdaa.T
set_option linter.unusedVariables false
set_option linter.unusedSimpArgs false
theorem reps_append {α : Type} {R : α → List Value → Prop} {size : Nat} {ps qs : List α} {cs ds : List Value} (h : Reps R size ps cs) (k : Reps R size qs ds) : Reps R size (ps ++ qs) (cs ++ ds) := by
  refine ⟨by rw [List.length_append, h.1, k.1, List.length_append, Nat.add_mul], fun j q hq => ?_⟩
  rcases Nat.lt_or_ge j ps.length with hj | hj
  · rw [List.getElem?_append_left hj] at hq
    have := h.2 j q hq
    have hle : j * size + size ≤ cs.length := by rw [h.1, ← Nat.succ_mul]; exact Nat.mul_le_mul_right _ hj
    rw [List.drop_append_of_le_length (by omega), List.take_append_of_le_length (by rw [List.length_drop]; omega)]
    exact this
  · rw [List.getElem?_append_right hj] at hq
    have := k.2 _ q hq
    have e : j * size = cs.length + (j - ps.length) * size := by rw [h.1, ← Nat.add_mul]; congr 1; omega
    rw [e, List.drop_append, List.drop_eq_nil_of_le (by omega), List.nil_append, Nat.add_sub_cancel_left]
    exact this
theorem Q_over {α : Type} {d : Kd α} {e base g t : Nat} {w w1 : World} {v : Value} {xs : List α} {cs : Array Value} (h : d.Q e w base (fun _ => True) v xs) (hb : w.heap[g]? = some (.cells cs t (0, 0))) (ht : ∀ q, q ∈ e :: d.E → q ≠ t) (hg : w.grownBy w1 (some g)) : d.Q e w1 base (fun _ => True) v xs :=
  Kd.Q_mono (Kd.Q_grown (Kd.Q_mono (ok' := fun k => k ≠ g) (Kd.Q_bound h) (fun k hk => by
    rintro rfl
    obtain ⟨q, hq, c2, hc⟩ := hk.2.2.2
    rw [hb] at hc
    simp only [Option.some.injEq, Obj.cells.injEq] at hc
    exact ht q hq hc.2.1.symm)) hg (fun k hk q => hk (Option.some.inj q))) (fun _ _ => trivial)
theorem Runs.rem {P : Program} {w : World} {N : Nat} {env : Env} {o : Oper} {t u : TypeId} {x y : Operand} {k : IntKind} {m n r : Int} (ho : o.op = .binOp .rem t x y u) (hx : Ev env x (.int k m)) (hy : Ev env y (.int k n)) (h0 : n ≠ 0) (hb : m.tmod n = r) : Runs P N env o w (.int k r) := fun a w' ha hw => by
  unfold execOp; rw [ho]; simp only []; rw [ha.eval hx, ha.eval hy]
  subst hb
  simp [go_sem, h0]
section
variable {P : Program} {w w' : World} {N : Nat} {env : Env} {o : Oper} {Q : Exit → Act → World → Prop} {K : Value → World → Prop}
theorem ST.rotate {α : Type} (d : Kd α) {W : World} (base k : Nat) {s x : Operand} {t e : TypeId} {z : Value} {bytes : Nat}
    (ho : o.op = .call { callee := .builtin .append, args := #[s, x], argTypes := #[t, t] })
    (ht : P.underlying t = some (.slice e)) (hinfo : (P.info? e).map (fun i => (i.zero, i.size, i.bytes)) = some (some z, d.sz, bytes)) (hz : z.cells.size = d.sz) (hs0 : 0 < d.sz) (hb0 : 0 < bytes)
    {g n c : Nat} {xs : List α} (hn : n = xs.length) (hk : k < n) (hs : Ev env s (.slice (if c = k then some ⟨g, 0, none⟩ else (some ⟨g, 0, none⟩ : Option Addr).map (·.add (k * d.sz))) (n - k) (c - k))) (hx : Ev env x (.slice (some ⟨g, 0, none⟩) k c))
    (HO : d.R e W base (fun _ => True) (.slice (some ⟨g, 0, none⟩) n c) xs) (hbase : base ≤ W.heap.size) (hl : n * bytes ≤ 140737488355328)
    (h : ∀ v1 w1 A1 c1, v1 = .slice A1 n c1 → d.Q e w1 base (fun _ => True) (.slice A1 n c1) (xs.drop k ++ xs.take k) → W.grownBy w1 (some g) → K v1 w1) : ST P Q N env W o K := by
  have hlen : (xs.drop k ++ xs.take k).length = n := by rw [List.length_append, List.length_drop, List.length_take]; omega
  have hnc := (Kd.R_reads' HO).2.1
  by_cases k0 : k = 0
  · subst k0
    have hc0 : ¬ c = 0 := by omega
    rw [if_neg hc0, Option.map_some, Nat.zero_mul, Go.Addr.add_mid, Nat.sub_zero, Nat.sub_zero] at hs
    refine ST.appendRowsR d base (w0 := W) (ys := ([] : List α)) (m := 0) (c := c) ho ht hinfo hz hs0 hb0 hs hx HO ⟨rfl, by omega, fun h => absurd h (Nat.lt_irrefl 0)⟩ ((Below.refl W.heap.size W).mono hbase) hbase (by rw [← hn]; simpa using hl) fun v1 w1 hR _ hg _ => ?_
    rw [List.append_nil] at hR
    subst hn
    obtain ⟨A1, c1, rfl⟩ := Kd.R_slice hR
    have hC := Kd.Q_of_R hR
    refine h _ w1 A1 c1 rfl ?_ hg
    rw [List.drop_zero, List.take_zero, List.append_nil]
    exact hC
  · intro a ha Kc hK
    obtain ⟨hok, inner, hown, hr⟩ := HO
    subst hn
    have hq := q_of_own hown
    have hd := q_drop hq (k := k) (by omega)
    have htk := q_take hq (m := k) (by omega)
    obtain ⟨ad, had, hcell⟩ := q_cells htk (by omega)
    obtain rfl := Option.some.inj had
    obtain ⟨i0, hi, hzz⟩ := Option.map_eq_some_iff.1 hinfo
    simp only [Prod.mk.injEq] at hzz
    obtain ⟨hz0, hz1, hz2⟩ := hzz
    have hrt := Kd.reps_take hr (m := k) (by omega)
    have hone : ∀ u ∈ inner.take (k * d.sz), u.oneCell' = true := by
      intro u hu
      obtain ⟨q, hq', rfl⟩ := List.mem_iff_getElem.1 hu
      have hql : q / d.sz < (xs.take k).length := by
        rw [Nat.div_lt_iff_lt_mul hs0, ← hrt.1]
        exact hq'
      have hc := hrt.2 (q / d.sz) _ (List.getElem?_eq_getElem hql)
      refine d.K_one (d.K_of_M hc) _ ?_
      rw [List.mem_iff_getElem?]
      refine ⟨q % d.sz, ?_⟩
      rw [List.getElem?_take, if_pos (Nat.mod_lt _ hs0), List.getElem?_drop, Nat.mul_comm (q / d.sz) d.sz, Nat.div_add_mod, List.getElem?_eq_getElem hq']
    have hmx : xs.length ≤ 140737488355328 := Nat.le_trans (Nat.le_mul_of_pos_right _ hb0) hl
    obtain ⟨v1, w1, hrun, hq1, hg, hat⟩ := q_append (P := P) W base t o.type e i0 z d.sz bytes ht hi hz0 hz1 hz2 hz hs0 _ (xs.length - k) _ hd ⟨g, 0, none⟩ k c (inner.take (k * d.sz)) (by rw [hrt.1, List.length_take, Nat.min_eq_left (by omega)]) hcell hone (by omega) (by simp only [maxLen]; omega) (by rw [Nat.sub_add_cancel (by omega)]; exact hl) hbase
    rw [Nat.sub_add_cancel (by omega)] at hq1
    have hob : (Value.slice (if c = k then some ⟨g, 0, none⟩ else (some ⟨g, 0, none⟩ : Option Addr).map (·.add (k * d.sz))) (xs.length - k) (c - k)).ownBlock = some g := by
      split
      · rfl
      · rw [Option.map_some, Go.Addr.add_mid]; rfl
    rw [hob] at hg hat
    obtain ⟨A1, c1, rfl, _⟩ := q_slice hq1
    have hmv : ∀ p cs, d.M W base (fun k => True ∧ some k ≠ some g) p cs → d.M w1 base (fun k => True ∧ some k ≠ (Value.slice A1 xs.length c1).ownBlock) p cs := fun p cs hp => by
      refine d.M_mono (fun j hj => ?_) (Kd.M_grown (d.M_bound hp) hg (fun j hj => hj.1.2))
      refine ⟨trivial, fun q => ?_⟩
      rcases hat with hat | ⟨b, hb, hle⟩
      · rw [hat] at q; exact hj.1.2 q
      · rw [hb] at q
        injection q with q
        have := hj.2.2.1
        omega
    have hrot := (reps_append (Kd.reps_drop hr (m := k)) hrt).imp_ hmv
    have hQ : d.Q e w1 base (fun _ => True) (.slice A1 xs.length c1) (xs.drop k ++ xs.take k) := ⟨fun _ _ => trivial, _, by rw [hlen]; exact hq1, hrot⟩
    have hC := hQ
    have e1 := ha.eval hs
    have e2 := ha.eval hx
    have hK' := hK _ _ (h _ w1 A1 c1 rfl hC hg)
    unfold Oper.wp execOp
    simp only [ho, resolve, invoke, builtin, Sem.run_bind, Sem.run_pure, Result.andThen_ok, List.map_toArray, List.map_cons, List.map_nil, e1, e2, hrun]
    exact hK'
end
end Go.Proofs.Ytiplichdhcmjdaa.E
namespace Go.Proofs.Ytiplichdhcmjdaa.T
open Go.RowKit Go.Proofs.YtiplichdhcmjdaaW.PrintWords Go.Proofs.YtiplichdhcmjdaaW.PrintMore
open Go.Proofs.Ytiplichdhcmjdaa.P
set_option linter.unusedVariables false
set_option linter.unusedSimpArgs false

theorem bool_for (p : Prop) : ∃ r : Bool, r = true ↔ p := by
  by_cases h : p
  · exact ⟨true, by simp [h]⟩
  · exact ⟨false, by simp [h]⟩
set_option maxRecDepth 100000 in
set_option maxHeartbeats 8000000 in

theorem order_law (V : Ev) (m : Ea) (rr : Int) (w : World) (hV : EvM w V m) :
    Calls Try.prog 6 #[hv V m, .int .i64 rr] w fun e w' => e = .returned (.bool true) ∧ Below w.heap.size w w' := by
  have hu3 := Try.underlying3
  have hu22 := Try.underlying22
  have hu23 := Try.underlying23
  have hu25 := Try.underlying25
  have hu28 := Try.underlying28
  have hu34 := Try.underlying34
  obtain ⟨z3, o3⟩ := info_some info3s (by decide)
  obtain ⟨z22, o22⟩ := info_some info22s (by decide)
  obtain ⟨z23, o23⟩ := info_some info23s (by decide)
  obtain ⟨z25, o25⟩ := info_some info25s (by decide)
  obtain ⟨z34, o34⟩ := info_some info34s (by decide)
  obtain ⟨z40, o40⟩ := info_some info40s (by decide)
  refine E.enter (N := 180) Try.func6 rfl Try.ntmps6 (args := [hv V m, .int .i64 rr]) (by simp) ?_
  have L := Below.refl w.heap.size w
  refine E.CG.seq ?_
  refine E.CG.list ?_
  refine E.GL.st rfl rfl rfl (E.ST.box rfl rfl fun g2 w2 e2 b2 l2 => ?_)
  have h2_L : w.heap.size ≤ g2 := by rw [e2]; exact L.size
  replace L := below_step L l2
  refine E.GL.run rfl rfl rfl (E.Runs.assign rfl rfl) ?_
  refine E.GL.done ?_
  refine E.QG.code ?_
  refine E.CG.seq ?_
  refine E.CG.seq ?_
  refine E.CG.list ?_
  refine E.GL.run rfl rfl rfl (E.Runs.loads (cs := [.slice m.A V.ps.length m.a, .slice m.B V.qs.length m.b, .slice m.C V.ts.length m.c, .slice m.D V.cs.length m.d]) rfl rfl hu25 rfl info25s (blk_cells b2)) ?_
  by_cases h25 : ¬ farV V ∧ VOk V
  · have ok : VOk V := h25.2
    have hs : Sz V := not_far h25.1
    have hc4 := ok.c4
    have hc1 := ok.c1
    refine E.GL.st rfl rfl rfl (E.ST.call rfl ent12 (E.evc rfl E.evn) ((valid_calls V m _ (hV.below L) true (iff_of_true rfl h25)).mono ?_))
    rintro e w25 ⟨rfl, l25⟩
    refine ⟨_, rfl, ?_⟩
    replace b2 := blk_below b2 l25
    replace L := below_step L l25
    refine E.GL.run rfl rfl rfl (E.Runs.not rfl rfl) ?_
    refine E.GL.run rfl rfl rfl (E.Runs.move rfl rfl) ?_
    refine E.GL.run rfl rfl rfl (E.Runs.move rfl rfl) ?_
    refine E.GL.cmp rfl rfl rfl (fun _ h => (E.Runs.lss rfl rfl rfl h)) (fun h29 => ?_) (fun h29 => ?_)
    · refine E.GL.run rfl rfl rfl (E.Runs.pick_f rfl rfl rfl) ?_
      refine E.GL.run rfl rfl rfl (E.Runs.move rfl rfl) ?_
      refine E.GL.skip rfl rfl rfl ?_
      refine E.GL.skip rfl rfl rfl ?_
      refine E.GL.skip rfl rfl rfl ?_
      refine E.GL.skip rfl rfl rfl ?_
      refine E.GL.skip rfl rfl rfl ?_
      refine E.GL.run rfl rfl rfl (E.Runs.pick_t rfl rfl rfl) ?_
      refine E.GL.done ?_
      refine E.QG.code ?_
      refine E.CG.cond_t rfl ?_
      refine E.CG.seq ?_
      refine E.CG.list ?_
      refine E.GL.st rfl rfl rfl (E.ST.call rfl ent13 E.evn ((works_calls _).mono ?_))
      rintro e w38 ⟨rfl, l38⟩
      refine ⟨_, rfl, ?_⟩
      replace b2 := blk_below b2 l38
      replace L := below_step L l38
      refine E.GL.run rfl rfl rfl (E.Runs.assign rfl rfl) ?_
      refine E.GL.done ?_
      refine E.QG.code ?_
      refine E.CG.ret ?_
      refine E.QG.pass_ret ?_
      exact E.QG.result rfl rfl ⟨rfl, L⟩
    · refine E.GL.run rfl rfl rfl (E.Runs.pick_f rfl rfl rfl) ?_
      refine E.GL.run rfl rfl rfl (E.Runs.move rfl rfl) ?_
      refine E.GL.run rfl rfl rfl (E.Runs.move rfl rfl) ?_
      refine E.GL.run rfl rfl rfl (E.Runs.fieldAddr rfl rfl hu25 rfl (by assumption) rfl) ?_
      refine E.GL.run rfl rfl rfl (E.Runs.load1 rfl rfl hu23 rfl (by first | assumption | exact E.blkc (by assumption) rfl | exact pw_cell_below L (by assumption))) ?_
      refine E.GL.run rfl rfl rfl (E.Runs.len rfl rfl hu23) ?_
      refine E.GL.cmp rfl rfl rfl (fun _ h => (E.Runs.geq rfl rfl rfl h)) (fun h36 => ?_) (fun h36 => ?_)
      · refine E.GL.run rfl rfl rfl (E.Runs.pick_f rfl rfl rfl) ?_
        refine E.GL.done ?_
        refine E.QG.code ?_
        refine E.CG.cond_t rfl ?_
        refine E.CG.seq ?_
        refine E.CG.list ?_
        refine E.GL.st rfl rfl rfl (E.ST.call rfl ent13 E.evn ((works_calls _).mono ?_))
        rintro e w38 ⟨rfl, l38⟩
        refine ⟨_, rfl, ?_⟩
        replace b2 := blk_below b2 l38
        replace L := below_step L l38
        refine E.GL.run rfl rfl rfl (E.Runs.assign rfl rfl) ?_
        refine E.GL.done ?_
        refine E.QG.code ?_
        refine E.CG.ret ?_
        refine E.QG.pass_ret ?_
        exact E.QG.result rfl rfl ⟨rfl, L⟩
      · refine E.GL.run rfl rfl rfl (E.Runs.pick_f rfl rfl rfl) ?_
        refine E.GL.done ?_
        refine E.QG.code ?_
        refine E.CG.cond_f rfl ?_
        refine E.CG.skip ?_
        refine E.QG.code ?_
        refine E.CG.seq ?_
        obtain ⟨r, rfl⟩ : ∃ r : Nat, rr = r := ⟨rr.toNat, by omega⟩
        have hk : r < V.cs.length := by omega
        have hkl : r ≤ V.cs.length := by omega
        refine E.CG.list ?_
        refine E.GL.run rfl rfl rfl (E.Runs.loads (cs := [.slice m.A V.ps.length m.a, .slice m.B V.qs.length m.b, .slice m.C V.ts.length m.c, .slice m.D V.cs.length m.d]) rfl rfl hu25 rfl info25s (blk_cells b2)) ?_
        have hpre := L.size
        refine E.GL.st rfl rfl rfl (E.ST.call rfl ent21 (E.evc rfl E.evn) ((copy_calls V m _ (hV.below L) hs).mono ?_))
        rintro e w40 ⟨mc, rfl, hR, l40⟩
        refine ⟨_, rfl, ?_⟩
        replace b2 := blk_below b2 l40
        replace L := below_step L l40
        obtain ⟨gC, capC, hDC, hgC, _, _⟩ := Kd.R_form hR.cs (by omega)
        have hDC1 : mc.D = some ⟨gC, 0, none⟩ := by injection hDC
        have hCb := hR.r
        have hRT : RT w25.heap.size w40 (.slice (some ⟨gC, 0, none⟩) V.cs.length mc.d) V.cs := ⟨by rw [← hDC1]; exact hR.cs⟩
        clear hDC
        refine E.GL.st rfl rfl rfl (E.ST.alloc rfl info25z fun g5 w5 e5 b5 l5 => ?_)
        have h5_L : w.heap.size ≤ g5 := by rw [e5]; exact L.size
        have n5_b2 : g2 ≠ g5 := by have := blk_lt b2; omega
        replace b2 := blk_below b2 l5
        replace hCb := hCb.below l5
        replace hRT := hRT.below l5
        replace L := below_step L l5
        refine E.GL.store_whole rfl rfl rfl rfl rfl b5 rfl info25s (slices4_one _ _ _ _ _ _ _ _ _ _ _ _) fun wS3_3 c5 lS3_3 => ?_
        replace b2 := blk_grown b2 lS3_3 (E.nes (by first | assumption | exact Ne.symm (by assumption)))
        replace hCb := hCb.grown lS3_3 ⟨_, _, b5, by decide, by decide⟩
        replace hRT := hRT.grown lS3_3 ⟨_, _, b5, by decide, by decide⟩
        replace L := E.below_own L h5_L lS3_3
        replace b5 := c5
        clear c5
        refine E.GL.done ?_
        refine E.QG.code ?_
        refine E.CG.seq ?_
        refine E.CG.heldJ 8 (fun v W => v.grownBy W (some gC)) (fun _ _ => True) (by kernel_rfl) (by kernel_rfl) (fun v => World.grownBy.refl _ _) fun v4 lD => ?_
        replace b2 := blk_below b2 lD
        replace b5 := blk_below b5 lD
        replace hCb := hCb.below lD
        replace hRT := hRT.below lD
        replace L := below_step L lD
        have lD4 := lD
        clear lD
        rw [hDC1] at b5
        obtain ⟨csC, bC⟩ := Kd.R_typed hRT.r gC rfl
        have n5C : g5 ≠ gC := blk_ne b5 bC (by decide)
        have n2C : g2 ≠ gC := blk_ne b2 bC (by decide)
        have hgCw : w.heap.size ≤ gC := Nat.le_trans hpre hgC
        have hgCl := blk_lt bC
        have hnc := (Kd.R_reads' hRT.r).2.1
        have s_b2 := b2
        have s_b5 := b5
        have s_L := L
        have s_hCb := hCb
        have s_hRT := hRT
        have hh : v4.grownBy v4 (some gC) := World.grownBy.refl _ _
        refine E.GJ.take2 (i := 0) rfl (by kernel_rfl) (by kernel_rfl) (by kernel_rfl) (by kernel_rfl) (by intro c a d v w h; first | (cases d <;> exact h) | exact nomatch (show _ ∧ _ from h).1) rfl rfl rfl (fun w' hS => (E.Runs.fieldAddr rfl rfl hu25 rfl (by assumption) rfl)) ?_
        refine E.GJ.take1t (i := 1) 3 rfl (by kernel_rfl) (by kernel_rfl) (by kernel_rfl) (by kernel_rfl) rfl (by kernel_rfl) rfl (by kernel_rfl) (by kernel_rfl) (by kernel_rfl) (by kernel_rfl) (by kernel_rfl) (by intro c a d v w h; first | (cases d <;> exact h) | exact nomatch (show _ ∧ _ from h).1) rfl rfl rfl (fun w' hS => (E.Runs.load1 rfl rfl hu23 rfl (by first | exact E.keeps hS (E.blkc (by assumption) rfl) (by first | exact E.nen | exact E.nes (by assumption) | exact E.nes (Ne.symm (by assumption))) | exact pw_cell_below (below_step s_L (E.belowG hS)) (by assumption)))) ?_
        refine E.GJ.take1t (i := 2) 3 rfl (by kernel_rfl) (by kernel_rfl) (by kernel_rfl) (by kernel_rfl) rfl (by kernel_rfl) rfl (by kernel_rfl) (by kernel_rfl) (by kernel_rfl) (by kernel_rfl) (by kernel_rfl) (by intro c a d v w h; first | (cases d <;> exact h) | exact nomatch (show _ ∧ _ from h).1) rfl rfl rfl (fun w' hS => (E.Runs.move rfl rfl)) ?_
        refine E.GJ.take1 (i := 3) rfl (by kernel_rfl) (by kernel_rfl) (by kernel_rfl) (by kernel_rfl) rfl (by kernel_rfl) (by kernel_rfl) (by intro c a d v w h; first | (cases d <;> exact h) | exact nomatch (show _ ∧ _ from h).1) rfl rfl rfl (fun w' hS => (E.Runs.sliceFrom (i := r) rfl rfl rfl hu23 z40 o40 (by omega) hnc rfl)) ?_
        refine E.GJ.take2 (i := 4) rfl (by kernel_rfl) (by kernel_rfl) (by kernel_rfl) (by kernel_rfl) (by intro c a d v w h; first | (cases d <;> exact h) | exact nomatch (show _ ∧ _ from h).1) rfl rfl rfl (fun w' hS => (E.Runs.fieldAddr rfl rfl hu25 rfl (by assumption) rfl)) ?_
        refine E.GJ.take1t (i := 5) 7 rfl (by kernel_rfl) (by kernel_rfl) (by kernel_rfl) (by kernel_rfl) rfl (by kernel_rfl) rfl (by kernel_rfl) (by kernel_rfl) (by kernel_rfl) (by kernel_rfl) (by kernel_rfl) (by intro c a d v w h; first | (cases d <;> exact h) | exact nomatch (show _ ∧ _ from h).1) rfl rfl rfl (fun w' hS => (E.Runs.load1 rfl rfl hu23 rfl (by first | exact E.keeps hS (E.blkc (by assumption) rfl) (by first | exact E.nen | exact E.nes (by assumption) | exact E.nes (Ne.symm (by assumption))) | exact pw_cell_below (below_step s_L (E.belowG hS)) (by assumption)))) ?_
        refine E.GJ.take1t (i := 6) 7 rfl (by kernel_rfl) (by kernel_rfl) (by kernel_rfl) (by kernel_rfl) rfl (by kernel_rfl) rfl (by kernel_rfl) (by kernel_rfl) (by kernel_rfl) (by kernel_rfl) (by kernel_rfl) (by intro c a d v w h; first | (cases d <;> exact h) | exact nomatch (show _ ∧ _ from h).1) rfl rfl rfl (fun w' hS => (E.Runs.move rfl rfl)) ?_
        refine E.GJ.take1 (i := 7) rfl (by kernel_rfl) (by kernel_rfl) (by kernel_rfl) (by kernel_rfl) rfl (by kernel_rfl) (by kernel_rfl) (by intro c a d v w h; first | (cases d <;> exact h) | exact nomatch (show _ ∧ _ from h).1) rfl rfl rfl (fun w' hS => (E.Runs.sliceTo rfl rfl rfl hu23 (by assumption) (by omega))) ?_
        refine E.GJ.one (i := 8) (by kernel_rfl) (E.OJ.st rfl rfl rfl rfl (E.ST.rotate k40 w25.heap.size r (s := .tmp 44) (x := .tmp 48) rfl hu23 info40 rfl (by decide) (by decide) rfl hk rfl rfl hRT.r (by omega) (by omega) fun u49 w49 A49 c49 hv49 Q49 gW => ⟨(E.SJ.behind (by kernel_rfl)).mpr trivial, ?_⟩))
        subst hv49
        replace b2 := blk_grown b2 gW (E.nes n2C)
        replace b5 := blk_grown b5 gW (E.nes n5C)
        replace L := E.below_own L hgCw gW
        replace hCb := hCb.over bC (by decide) gW
        clear hRT
        refine E.GJ.one (i := 9) (by kernel_rfl) (E.OJ.st rfl rfl rfl rfl (E.ST.reads (E.Runs.fieldAddr rfl rfl hu25 rfl (by assumption) rfl) ⟨(E.SJ.behind (by kernel_rfl)).mpr trivial, ?_⟩))
        refine E.GJ.one (i := 10) (by kernel_rfl) (E.OJ.sn rfl rfl rfl (E.ST.storeSl (cs := [.slice mc.A V.ps.length mc.a, .slice mc.B V.qs.length mc.b, .slice mc.C V.ts.length mc.c, .slice (some ⟨gC, 0, none⟩) V.cs.length mc.d]) rfl z23 o23 rfl rfl b5 rfl rfl fun wS c5 lS => ⟨(E.SJ.behind (by kernel_rfl)).mpr trivial, ?_⟩))
        have Q2 := E.Q_over Q49 b5 (by decide) lS
        replace b2 := blk_grown b2 lS (E.nes (by first | assumption | exact Ne.symm (by assumption)))
        replace hCb := hCb.grown lS ⟨_, _, b5, by decide, by decide⟩
        replace L := E.below_own L h5_L lS
        replace b5 := c5
        clear c5
        have hlen2 : (rot r V.cs).length = V.cs.length := rot_len (by omega)
        have hEV2 : EvM wS (rotV V r) ⟨mc.A, mc.a, mc.B, mc.b, mc.C, mc.c, A49, c49⟩ := ⟨(Kd.R_reads' hCb.a).2.2, (Kd.R_reads' hCb.b).2.2, (Kd.R_reads' hCb.c).2.2, (Kd.Q_reads' Q2).2.2⟩
        rw [← hlen2] at b5
        have hs2 : Sz (rotV V r) := sz_rot hkl hs
        clear hCb Q2 Q49
        refine E.GJ.done (by kernel_rfl) ?_
        refine E.QG.code ?_
        refine E.CG.seq ?_
        refine E.CG.list ?_
        refine E.GL.run rfl rfl rfl (E.Runs.loads (cs := [.slice m.A V.ps.length m.a, .slice m.B V.qs.length m.b, .slice m.C V.ts.length m.c, .slice m.D V.cs.length m.d]) rfl rfl hu25 rfl info25s (blk_cells b2)) ?_
        refine E.GL.st rfl rfl rfl (E.ST.call rfl ent15 (E.evc rfl E.evn) ((fewest_calls V m _ (hV.below L) hs).mono ?_))
        rintro e w53 ⟨rfl, l53⟩
        refine ⟨_, rfl, ?_⟩
        replace b2 := blk_below b2 l53
        replace b5 := blk_below b5 l53
        replace hEV2 := hEV2.below l53
        replace L := below_step L l53
        refine E.GL.run rfl rfl rfl (E.Runs.move rfl rfl) ?_
        refine E.GL.run rfl rfl rfl (E.Runs.extract rfl rfl rfl) ?_
        refine E.GL.run rfl rfl rfl (E.Runs.extract rfl rfl rfl) ?_
        refine E.GL.run rfl rfl rfl (E.Runs.assign rfl rfl) ?_
        refine E.GL.run rfl rfl rfl (E.Runs.assign rfl rfl) ?_
        refine E.GL.done ?_
        refine E.QG.code ?_
        refine E.CG.seq ?_
        refine E.CG.list ?_
        refine E.GL.run rfl rfl rfl (E.Runs.loads (cs := [.slice mc.A V.ps.length mc.a, .slice mc.B V.qs.length mc.b, .slice mc.C V.ts.length mc.c, .slice A49 (rot r V.cs).length c49]) rfl rfl hu25 rfl info25s (blk_cells b5)) ?_
        refine E.GL.st rfl rfl rfl (E.ST.call rfl ent15 (E.evc rfl E.evn) ((fewest_calls (rotV V r) ⟨mc.A, mc.a, mc.B, mc.b, mc.C, mc.c, A49, c49⟩ _ hEV2 hs2).mono ?_))
        rintro e w58 ⟨rfl, l58⟩
        refine ⟨_, rfl, ?_⟩
        replace b2 := blk_below b2 l58
        replace b5 := blk_below b5 l58
        replace hEV2 := hEV2.below l58
        replace L := below_step L l58
        refine E.GL.run rfl rfl rfl (E.Runs.move rfl rfl) ?_
        refine E.GL.run rfl rfl rfl (E.Runs.extract rfl rfl rfl) ?_
        refine E.GL.run rfl rfl rfl (E.Runs.extract rfl rfl rfl) ?_
        refine E.GL.run rfl rfl rfl (E.Runs.assign rfl rfl) ?_
        refine E.GL.run rfl rfl rfl (E.Runs.assign rfl rfl) ?_
        refine E.GL.done ?_
        refine E.QG.code ?_
        refine E.CG.seq ?_
        refine E.CG.list ?_
        refine E.GL.run rfl rfl rfl (E.Runs.loads (cs := [.slice m.A V.ps.length m.a, .slice m.B V.qs.length m.b, .slice m.C V.ts.length m.c, .slice m.D V.cs.length m.d]) rfl rfl hu25 rfl info25s (blk_cells b2)) ?_
        refine E.GL.st rfl rfl rfl (E.ST.call rfl ent23 (E.evc rfl E.evn) ((guilty_calls V m _ (hV.below L) hs).mono ?_))
        rintro e w63 ⟨v63, rfl, R63, l63⟩
        refine ⟨_, rfl, ?_⟩
        replace b2 := blk_below b2 l63
        replace b5 := blk_below b5 l63
        replace hEV2 := hEV2.below l63
        replace L := below_step L l63
        have la := Below.refl w63.heap.size w63
        obtain ⟨A63, c63, hv63⟩ := Kd.R_slice R63
        subst hv63
        obtain ⟨_, _, C63⟩ := Kd.R_reads' R63
        refine E.GL.run rfl rfl rfl (E.Runs.move rfl rfl) ?_
        refine E.GL.run rfl rfl rfl (E.Runs.extract rfl rfl rfl) ?_
        refine E.GL.run rfl rfl rfl (E.Runs.extract rfl rfl rfl) ?_
        refine E.GL.run rfl rfl rfl (E.Runs.assign rfl rfl) ?_
        refine E.GL.run rfl rfl rfl (E.Runs.assign rfl rfl) ?_
        refine E.GL.done ?_
        refine E.QG.code ?_
        refine E.CG.seq ?_
        refine E.CG.list ?_
        refine E.GL.run rfl rfl rfl (E.Runs.loads (cs := [.slice mc.A V.ps.length mc.a, .slice mc.B V.qs.length mc.b, .slice mc.C V.ts.length mc.c, .slice A49 (rot r V.cs).length c49]) rfl rfl hu25 rfl info25s (blk_cells b5)) ?_
        refine E.GL.st rfl rfl rfl (E.ST.call rfl ent23 (E.evc rfl E.evn) ((guilty_calls (rotV V r) ⟨mc.A, mc.a, mc.B, mc.b, mc.C, mc.c, A49, c49⟩ _ hEV2 hs2).mono ?_))
        rintro e w68 ⟨v68, rfl, R68, l68⟩
        refine ⟨_, rfl, ?_⟩
        replace b2 := blk_below b2 l68
        replace b5 := blk_below b5 l68
        replace hEV2 := hEV2.below l68
        replace L := below_step L l68
        replace la := below_step la l68
        have lb := Below.refl w68.heap.size w68
        obtain ⟨A68, c68, hv68⟩ := Kd.R_slice R68
        subst hv68
        obtain ⟨_, _, C68⟩ := Kd.R_reads' R68
        refine E.GL.run rfl rfl rfl (E.Runs.move rfl rfl) ?_
        refine E.GL.run rfl rfl rfl (E.Runs.extract rfl rfl rfl) ?_
        refine E.GL.run rfl rfl rfl (E.Runs.extract rfl rfl rfl) ?_
        refine E.GL.run rfl rfl rfl (E.Runs.assign rfl rfl) ?_
        refine E.GL.run rfl rfl rfl (E.Runs.assign rfl rfl) ?_
        refine E.GL.done ?_
        refine E.QG.code ?_
        refine E.CG.seq ?_
        refine E.CG.list ?_
        refine E.GL.run rfl rfl rfl (E.Runs.loads (cs := [.slice m.A V.ps.length m.a, .slice m.B V.qs.length m.b, .slice m.C V.ts.length m.c, .slice m.D V.cs.length m.d]) rfl rfl hu25 rfl info25s (blk_cells b2)) ?_
        refine E.GL.st rfl rfl rfl (E.ST.call rfl ent17 (E.evc rfl E.evn) ((suspects_calls V m _ (hV.below L) hs).mono ?_))
        rintro e w73 ⟨v73, rfl, R73, l73⟩
        refine ⟨_, rfl, ?_⟩
        replace b2 := blk_below b2 l73
        replace b5 := blk_below b5 l73
        replace hEV2 := hEV2.below l73
        replace L := below_step L l73
        replace la := below_step la l73
        replace lb := below_step lb l73
        have lc := Below.refl w73.heap.size w73
        obtain ⟨A73, c73, hv73⟩ := Kd.R_slice R73
        subst hv73
        obtain ⟨_, _, C73⟩ := Kd.R_reads' R73
        refine E.GL.run rfl rfl rfl (E.Runs.move rfl rfl) ?_
        refine E.GL.run rfl rfl rfl (E.Runs.extract rfl rfl rfl) ?_
        refine E.GL.run rfl rfl rfl (E.Runs.extract rfl rfl rfl) ?_
        refine E.GL.run rfl rfl rfl (E.Runs.assign rfl rfl) ?_
        refine E.GL.run rfl rfl rfl (E.Runs.assign rfl rfl) ?_
        refine E.GL.done ?_
        refine E.QG.code ?_
        refine E.CG.seq ?_
        refine E.CG.list ?_
        refine E.GL.run rfl rfl rfl (E.Runs.loads (cs := [.slice mc.A V.ps.length mc.a, .slice mc.B V.qs.length mc.b, .slice mc.C V.ts.length mc.c, .slice A49 (rot r V.cs).length c49]) rfl rfl hu25 rfl info25s (blk_cells b5)) ?_
        refine E.GL.st rfl rfl rfl (E.ST.call rfl ent17 (E.evc rfl E.evn) ((suspects_calls (rotV V r) ⟨mc.A, mc.a, mc.B, mc.b, mc.C, mc.c, A49, c49⟩ _ hEV2 hs2).mono ?_))
        rintro e w78 ⟨v78, rfl, R78, l78⟩
        refine ⟨_, rfl, ?_⟩
        replace b2 := blk_below b2 l78
        replace b5 := blk_below b5 l78
        replace hEV2 := hEV2.below l78
        replace L := below_step L l78
        replace la := below_step la l78
        replace lb := below_step lb l78
        replace lc := below_step lc l78
        have lx := Below.refl w78.heap.size w78
        obtain ⟨A78, c78, hv78⟩ := Kd.R_slice R78
        subst hv78
        obtain ⟨_, _, C78⟩ := Kd.R_reads' R78
        have D63 := Kd.C_below C63 la
        have D68 := Kd.C_below C68 lb
        have D73 := Kd.C_below C73 lc
        have D78 := C78
        have hEV := hEV2
        refine E.GL.run rfl rfl rfl (E.Runs.move rfl rfl) ?_
        refine E.GL.run rfl rfl rfl (E.Runs.extract rfl rfl rfl) ?_
        refine E.GL.run rfl rfl rfl (E.Runs.extract rfl rfl rfl) ?_
        refine E.GL.run rfl rfl rfl (E.Runs.assign rfl rfl) ?_
        refine E.GL.run rfl rfl rfl (E.Runs.assign rfl rfl) ?_
        refine E.GL.done ?_
        refine E.QG.code ?_
        refine E.CG.seq ?_
        refine E.CG.seq ?_
        refine E.CG.list ?_
        refine E.GL.run rfl rfl rfl (E.Runs.move rfl rfl) ?_
        refine E.GL.run rfl rfl rfl (E.Runs.move rfl rfl) ?_
        refine E.GL.run rfl rfl rfl (E.Runs.neq rfl rfl rfl (E.ne_f (fewA_rot hkl ok).symm)) ?_
        refine E.GL.run rfl rfl rfl (E.Runs.move rfl rfl) ?_
        refine E.GL.run rfl rfl rfl (E.Runs.move rfl rfl) ?_
        refine E.GL.run rfl rfl rfl (E.Runs.move rfl rfl) ?_
        refine E.GL.run rfl rfl rfl (E.Runs.neq rfl rfl rfl (E.ne_f (err_rot hkl ok).symm)) ?_
        refine E.GL.run rfl rfl rfl (E.Runs.pick_f rfl rfl rfl) ?_
        refine E.GL.run rfl rfl rfl (E.Runs.move rfl rfl) ?_
        refine E.GL.run rfl rfl rfl (E.Runs.move rfl rfl) ?_
        refine E.GL.run rfl rfl rfl (E.Runs.move rfl rfl) ?_
        refine E.GL.run rfl rfl rfl (E.Runs.neq rfl rfl rfl (E.ne_f rfl)) ?_
        refine E.GL.run rfl rfl rfl (E.Runs.pick_f rfl rfl rfl) ?_
        refine E.GL.run rfl rfl rfl (E.Runs.move rfl rfl) ?_
        refine E.GL.run rfl rfl rfl (E.Runs.move rfl rfl) ?_
        refine E.GL.run rfl rfl rfl (E.Runs.move rfl rfl) ?_
        refine E.GL.run rfl rfl rfl (E.Runs.neq rfl rfl rfl (E.ne_f (err_rot hkl ok).symm)) ?_
        refine E.GL.run rfl rfl rfl (E.Runs.pick_f rfl rfl rfl) ?_
        refine E.GL.run rfl rfl rfl (E.Runs.move rfl rfl) ?_
        refine E.GL.run rfl rfl rfl (E.Runs.move rfl rfl) ?_
        refine E.GL.run rfl rfl rfl (E.Runs.move rfl rfl) ?_
        refine E.GL.run rfl rfl rfl (E.Runs.neq rfl rfl rfl (E.ne_f rfl)) ?_
        refine E.GL.run rfl rfl rfl (E.Runs.pick_f rfl rfl rfl) ?_
        refine E.GL.run rfl rfl rfl (E.Runs.move rfl rfl) ?_
        refine E.GL.run rfl rfl rfl (E.Runs.move rfl rfl) ?_
        refine E.GL.run rfl rfl rfl (E.Runs.move rfl rfl) ?_
        refine E.GL.run rfl rfl rfl (E.Runs.neq rfl rfl rfl (E.ne_f (err_rot hkl ok).symm)) ?_
        refine E.GL.run rfl rfl rfl (E.Runs.pick_f rfl rfl rfl) ?_
        refine E.GL.run rfl rfl rfl (E.Runs.move rfl rfl) ?_
        refine E.GL.run rfl rfl rfl (E.Runs.move rfl rfl) ?_
        refine E.GL.run rfl rfl rfl (E.Runs.len rfl rfl hu22) ?_
        refine E.GL.run rfl rfl rfl (E.Runs.move rfl rfl) ?_
        refine E.GL.run rfl rfl rfl (E.Runs.len rfl rfl hu22) ?_
        refine E.GL.run rfl rfl rfl (E.Runs.neq rfl rfl rfl (E.ne_f (by rw [tA_rot_len hkl ok fun i hi => guilt_rot hkl hi]))) ?_
        refine E.GL.run rfl rfl rfl (E.Runs.pick_f rfl rfl rfl) ?_
        refine E.GL.run rfl rfl rfl (E.Runs.move rfl rfl) ?_
        refine E.GL.run rfl rfl rfl (E.Runs.move rfl rfl) ?_
        refine E.GL.run rfl rfl rfl (E.Runs.len rfl rfl hu22) ?_
        refine E.GL.run rfl rfl rfl (E.Runs.move rfl rfl) ?_
        refine E.GL.run rfl rfl rfl (E.Runs.len rfl rfl hu22) ?_
        refine E.GL.run rfl rfl rfl (E.Runs.neq rfl rfl rfl (E.ne_f (by rw [tA_rot_len hkl ok fun i hi => susp_rot hkl hi]))) ?_
        refine E.GL.run rfl rfl rfl (E.Runs.pick_f rfl rfl rfl) ?_
        refine E.GL.done ?_
        refine E.QG.code ?_
        refine E.CG.cond_f rfl ?_
        refine E.CG.skip ?_
        refine E.QG.code ?_
        refine E.CG.seq ?_
        refine E.CG.seq ?_
        refine E.CG.list ?_
        refine E.GL.run rfl rfl rfl (E.Runs.assign rfl rfl) ?_
        refine E.GL.done ?_
        refine E.QG.code ?_
        refine E.CG.block ?_
        have s14_b2 := b2
        have s14_b5 := b5
        have s14_L := L
        have s14_la := la
        have s14_lb := lb
        have s14_lc := lc
        have s14_lx := lx
        refine E.CG.loop (fun (i : Nat) => [(1, .int .i64 (r : Int)), (2, .pointer (some ⟨g2, 0, none⟩)), (5, .pointer (some ⟨g5, 0, none⟩)), (10, .slice A63 (tA V (guiltP V)).length c63), (12, .slice A68 (tA (rotV V r) (guiltP (rotV V r))).length c68), (14, .slice A73 (tA V (suspP V)).length c73), (16, .slice A78 (tA (rotV V r) (suspP (rotV V r))).length c78), (18, .int .i64 (i : Int))]) (fun i w' => i ≤ V.cs.length ∧ w'.heap[g2]? = some (.cells #[.slice m.A V.ps.length m.a, .slice m.B V.qs.length m.b, .slice m.C V.ts.length m.c, .slice m.D V.cs.length m.d] 25 (0, 0)) ∧ w'.heap[g5]? = some (.cells #[.slice mc.A V.ps.length mc.a, .slice mc.B V.qs.length mc.b, .slice mc.C V.ts.length mc.c, .slice A49 (rot r V.cs).length c49] 25 (0, 0)) ∧ Below w.heap.size w w' ∧ Below w78.heap.size w78 w') (fun i => V.cs.length - i) 0 (E.subc rfl (E.subc rfl (E.subc rfl (E.subc rfl (E.subc rfl (E.subc rfl (E.subc rfl (E.subc rfl E.subn)))))))) ⟨Nat.zero_le _, b2, b5, L, lx⟩ ?_
        rintro i w14 ⟨hi, b2, b5, L, lx⟩
        refine E.CG.seq ?_
        refine E.CG.seq ?_
        refine E.CG.list ?_
        refine E.GL.run rfl rfl rfl (E.Runs.move rfl rfl) ?_
        refine E.GL.run rfl rfl rfl (E.Runs.fieldAddr rfl rfl hu25 rfl (by assumption) rfl) ?_
        refine E.GL.run rfl rfl rfl (E.Runs.load1 rfl rfl hu23 rfl (by first | assumption | exact E.blkc (by assumption) rfl | exact pw_cell_below L (by assumption) | exact pw_cell_below lx (by assumption))) ?_
        refine E.GL.run rfl rfl rfl (E.Runs.len rfl rfl hu23) ?_
        refine E.GL.cmp rfl rfl rfl (fun _ h => (E.Runs.lss rfl rfl rfl h)) (fun h127 => ?_) (fun h127 => ?_)
        · have hil : i < V.cs.length := by omega
          have hnl := nw_lt hkl hil
          obtain ⟨r1, hr1⟩ : ∃ r1 : Bool, r1 = true ↔ (i : Int) ∈ tA V (guiltP V) := bool_for _
          obtain ⟨r2, hr2⟩ : ∃ r2 : Bool, r2 = true ↔ (i : Int) ∈ tA V (suspP V) := bool_for _
          refine E.GL.done ?_
          refine E.QG.code ?_
          refine E.CG.cond_t rfl ?_
          refine E.CG.skip ?_
          refine E.QG.code ?_
          refine E.CG.seq ?_
          refine E.CG.block ?_
          refine E.CG.seq ?_
          refine E.CG.list ?_
          refine E.GL.run rfl rfl rfl (E.Runs.move rfl rfl) ?_
          refine E.GL.run rfl rfl rfl (E.Runs.fieldAddr rfl rfl hu25 rfl (by assumption) rfl) ?_
          refine E.GL.run rfl rfl rfl (E.Runs.load1 rfl rfl hu23 rfl (by first | assumption | exact E.blkc (by assumption) rfl | exact pw_cell_below L (by assumption) | exact pw_cell_below lx (by assumption))) ?_
          refine E.GL.run rfl rfl rfl (E.Runs.len rfl rfl hu23) ?_
          refine E.GL.run rfl rfl rfl (E.Runs.add rfl rfl rfl (IntWalk.i64_in _ (by omega))) ?_
          refine E.GL.run rfl rfl rfl (E.Runs.move rfl rfl) ?_
          refine E.GL.run rfl rfl rfl (E.Runs.sub rfl rfl rfl (IntWalk.i64_in _ (by omega))) ?_
          refine E.GL.run rfl rfl rfl (E.Runs.fieldAddr rfl rfl hu25 rfl (by assumption) rfl) ?_
          refine E.GL.run rfl rfl rfl (E.Runs.load1 rfl rfl hu23 rfl (by first | assumption | exact E.blkc (by assumption) rfl | exact pw_cell_below L (by assumption) | exact pw_cell_below lx (by assumption))) ?_
          refine E.GL.run rfl rfl rfl (E.Runs.len rfl rfl hu23) ?_
          refine E.GL.run rfl rfl rfl (E.Runs.rem rfl rfl rfl (by omega) (nw_mod hk hil)) ?_
          refine E.GL.run rfl rfl rfl (E.Runs.assign rfl rfl) ?_
          refine E.GL.done ?_
          refine E.QG.code ?_
          refine E.CG.seq ?_
          refine E.CG.list ?_
          refine E.GL.run rfl rfl rfl (E.Runs.loads (cs := [.slice m.A V.ps.length m.a, .slice m.B V.qs.length m.b, .slice m.C V.ts.length m.c, .slice m.D V.cs.length m.d]) rfl rfl hu25 rfl info25s (blk_cells b2)) ?_
          refine E.GL.run rfl rfl rfl (E.Runs.move rfl rfl) ?_
          refine E.GL.st rfl rfl rfl (E.ST.call rfl ent31 (E.evc rfl (E.evc rfl E.evn)) ((missing_calls V m (i : Int) _ (hV.below L) hs).mono ?_))
          rintro e w144 ⟨rfl, l144⟩
          refine ⟨_, rfl, ?_⟩
          replace b2 := blk_below b2 l144
          replace b5 := blk_below b5 l144
          replace L := below_step L l144
          replace lx := below_step lx l144
          refine E.GL.run rfl rfl rfl (E.Runs.move rfl rfl) ?_
          refine E.GL.run rfl rfl rfl (E.Runs.extract rfl rfl rfl) ?_
          refine E.GL.run rfl rfl rfl (E.Runs.extract rfl rfl rfl) ?_
          refine E.GL.st rfl rfl rfl (E.ST.alloc rfl info34z fun g20 w20 e20 b20 l20 => ?_)
          have h20_L : w.heap.size ≤ g20 := by rw [e20]; exact L.size
          have h20_lx : w78.heap.size ≤ g20 := by rw [e20]; exact lx.size
          have n20_b2 : g2 ≠ g20 := by have := blk_lt b2; omega
          have n20_b5 : g5 ≠ g20 := by have := blk_lt b5; omega
          replace b2 := blk_below b2 l20
          replace b5 := blk_below b5 l20
          replace L := below_step L l20
          replace lx := below_step lx l20
          refine E.GL.store_whole rfl rfl rfl rfl rfl b20 rfl info34s (two_one _ _) fun wS17_7 c20 lS17_7 => ?_
          replace b2 := blk_grown b2 lS17_7 (E.nes (by first | assumption | exact Ne.symm (by assumption)))
          replace b5 := blk_grown b5 lS17_7 (E.nes (by first | assumption | exact Ne.symm (by assumption)))
          replace L := E.below_own L h20_L lS17_7
          replace lx := E.below_own lx h20_lx lS17_7
          replace b20 := c20
          clear c20
          refine E.GL.run rfl rfl rfl (E.Runs.assign rfl rfl) ?_
          refine E.GL.done ?_
          refine E.QG.code ?_
          refine E.CG.seq ?_
          refine E.CG.list ?_
          refine E.GL.run rfl rfl rfl (E.Runs.loads (cs := [.slice mc.A V.ps.length mc.a, .slice mc.B V.qs.length mc.b, .slice mc.C V.ts.length mc.c, .slice A49 (rot r V.cs).length c49]) rfl rfl hu25 rfl info25s (blk_cells b5)) ?_
          refine E.GL.run rfl rfl rfl (E.Runs.move rfl rfl) ?_
          refine E.GL.st rfl rfl rfl (E.ST.call rfl ent31 (E.evc rfl (E.evc rfl E.evn)) ((missing_calls (rotV V r) ⟨mc.A, mc.a, mc.B, mc.b, mc.C, mc.c, A49, c49⟩ ((nw V.cs.length r i : Nat) : Int) _ (hEV.below lx) hs2).mono ?_))
          rintro e w150 ⟨rfl, l150⟩
          refine ⟨_, rfl, ?_⟩
          replace b2 := blk_below b2 l150
          replace b5 := blk_below b5 l150
          replace b20 := blk_below b20 l150
          replace L := below_step L l150
          replace lx := below_step lx l150
          rw [lo_rot hkl hil ok, hi_rot hkl hil ok, errT_rot hkl hil ok]
          refine E.GL.run rfl rfl rfl (E.Runs.move rfl rfl) ?_
          refine E.GL.run rfl rfl rfl (E.Runs.extract rfl rfl rfl) ?_
          refine E.GL.run rfl rfl rfl (E.Runs.extract rfl rfl rfl) ?_
          refine E.GL.st rfl rfl rfl (E.ST.alloc rfl info34z fun g22 w22 e22 b22 l22 => ?_)
          have h22_L : w.heap.size ≤ g22 := by rw [e22]; exact L.size
          have h22_lx : w78.heap.size ≤ g22 := by rw [e22]; exact lx.size
          have n22_b2 : g2 ≠ g22 := by have := blk_lt b2; omega
          have n22_b5 : g5 ≠ g22 := by have := blk_lt b5; omega
          have n22_b20 : g20 ≠ g22 := by have := blk_lt b20; omega
          replace b2 := blk_below b2 l22
          replace b5 := blk_below b5 l22
          replace b20 := blk_below b20 l22
          replace L := below_step L l22
          replace lx := below_step lx l22
          refine E.GL.store_whole rfl rfl rfl rfl rfl b22 rfl info34s (two_one _ _) fun wS18_7 c22 lS18_7 => ?_
          replace b2 := blk_grown b2 lS18_7 (E.nes (by first | assumption | exact Ne.symm (by assumption)))
          replace b5 := blk_grown b5 lS18_7 (E.nes (by first | assumption | exact Ne.symm (by assumption)))
          replace b20 := blk_grown b20 lS18_7 (E.nes (by first | assumption | exact Ne.symm (by assumption)))
          replace L := E.below_own L h22_L lS18_7
          replace lx := E.below_own lx h22_lx lS18_7
          replace b22 := c22
          clear c22
          refine E.GL.run rfl rfl rfl (E.Runs.assign rfl rfl) ?_
          refine E.GL.done ?_
          refine E.QG.code ?_
          refine E.CG.seq ?_
          refine E.CG.list ?_
          refine E.GL.run rfl rfl rfl (E.Runs.move rfl rfl) ?_
          refine E.GL.run rfl rfl rfl (E.Runs.move rfl rfl) ?_
          refine E.GL.st rfl rfl rfl (E.ST.call rfl ent30 (E.evc rfl (E.evc rfl E.evn)) ((in_calls (tA V (guiltP V)) A63 c63 (i : Int) _ r1 hr1 (Kd.C_below D63 lx) (tA_len hs)).mono ?_))
          rintro e w155 ⟨rfl, l155⟩
          refine ⟨_, rfl, ?_⟩
          replace b2 := blk_below b2 l155
          replace b5 := blk_below b5 l155
          replace b20 := blk_below b20 l155
          replace b22 := blk_below b22 l155
          replace L := below_step L l155
          replace lx := below_step lx l155
          refine E.GL.run rfl rfl rfl (E.Runs.move rfl rfl) ?_
          refine E.GL.run rfl rfl rfl (E.Runs.move rfl rfl) ?_
          refine E.GL.st rfl rfl rfl (E.ST.call rfl ent30 (E.evc rfl (E.evc rfl E.evn)) ((in_calls (tA (rotV V r) (guiltP (rotV V r))) A68 c68 ((nw V.cs.length r i : Nat) : Int) _ r1 (hr1.trans (tA_rot_mem hkl ok hil (guilt_rot hkl hil)).symm) (Kd.C_below D68 lx) (tA_len hs2)).mono ?_))
          rintro e w158 ⟨rfl, l158⟩
          refine ⟨_, rfl, ?_⟩
          replace b2 := blk_below b2 l158
          replace b5 := blk_below b5 l158
          replace b20 := blk_below b20 l158
          replace b22 := blk_below b22 l158
          replace L := below_step L l158
          replace lx := below_step lx l158
          refine E.GL.run rfl rfl rfl (E.Runs.neqv rfl rfl rfl rfl (fun _ _ _ => rfl) (bool_equal _ _) (show (!(r1 == r1)) = false from by simp)) ?_
          refine E.GL.run rfl rfl rfl (E.Runs.move rfl rfl) ?_
          refine E.GL.run rfl rfl rfl (E.Runs.move rfl rfl) ?_
          refine E.GL.run rfl rfl rfl (E.Runs.move rfl rfl) ?_
          refine E.GL.st rfl rfl rfl (E.ST.call rfl ent30 (E.evc rfl (E.evc rfl E.evn)) ((in_calls (tA V (suspP V)) A73 c73 (i : Int) _ r2 hr2 (Kd.C_below D73 lx) (tA_len hs)).mono ?_))
          rintro e w163 ⟨rfl, l163⟩
          refine ⟨_, rfl, ?_⟩
          replace b2 := blk_below b2 l163
          replace b5 := blk_below b5 l163
          replace b20 := blk_below b20 l163
          replace b22 := blk_below b22 l163
          replace L := below_step L l163
          replace lx := below_step lx l163
          refine E.GL.run rfl rfl rfl (E.Runs.move rfl rfl) ?_
          refine E.GL.run rfl rfl rfl (E.Runs.move rfl rfl) ?_
          refine E.GL.st rfl rfl rfl (E.ST.call rfl ent30 (E.evc rfl (E.evc rfl E.evn)) ((in_calls (tA (rotV V r) (suspP (rotV V r))) A78 c78 ((nw V.cs.length r i : Nat) : Int) _ r2 (hr2.trans (tA_rot_mem hkl ok hil (susp_rot hkl hil)).symm) (Kd.C_below D78 lx) (tA_len hs2)).mono ?_))
          rintro e w166 ⟨rfl, l166⟩
          refine ⟨_, rfl, ?_⟩
          replace b2 := blk_below b2 l166
          replace b5 := blk_below b5 l166
          replace b20 := blk_below b20 l166
          replace b22 := blk_below b22 l166
          replace L := below_step L l166
          replace lx := below_step lx l166
          refine E.GL.run rfl rfl rfl (E.Runs.neqv rfl rfl rfl rfl (fun _ _ _ => rfl) (bool_equal _ _) (show (!(r2 == r2)) = false from by simp)) ?_
          refine E.GL.run rfl rfl rfl (E.Runs.pick_f rfl rfl rfl) ?_
          refine E.GL.run rfl rfl rfl (E.Runs.move rfl rfl) ?_
          refine E.GL.run rfl rfl rfl (E.Runs.loads (cs := [.int .i64 (loV V (i : Int) 0 (lackQ V (i : Int))), .int .i64 (hiV V (i : Int) 0 (lackQ V (i : Int)))]) rfl rfl hu34 rfl info34s (blk_cells b20)) ?_
          refine E.GL.run rfl rfl rfl (E.Runs.loads (cs := [.int .i64 (loV V (i : Int) 0 (lackQ V (i : Int))), .int .i64 (hiV V (i : Int) 0 (lackQ V (i : Int)))]) rfl rfl hu34 rfl info34s (blk_cells b22)) ?_
          refine E.GL.run rfl rfl rfl (E.Runs.neqv rfl rfl rfl rfl (fun _ _ W => run_eqGuard_agg W _ _ _ _ _ _ Try.eqGuardType34) (equal34 _ _) rfl) ?_
          refine E.GL.run rfl rfl rfl (E.Runs.pick_f rfl rfl rfl) ?_
          refine E.GL.run rfl rfl rfl (E.Runs.move rfl rfl) ?_
          refine E.GL.run rfl rfl rfl (E.Runs.move rfl rfl) ?_
          refine E.GL.run rfl rfl rfl (E.Runs.move rfl rfl) ?_
          refine E.GL.run rfl rfl rfl (E.Runs.neq rfl rfl rfl (E.ne_f rfl)) ?_
          refine E.GL.run rfl rfl rfl (E.Runs.pick_f rfl rfl rfl) ?_
          refine E.GL.done ?_
          refine E.QG.code ?_
          refine E.CG.cond_f rfl ?_
          refine E.CG.skip ?_
          refine E.QG.block_normal ?_
          refine E.QG.code ?_
          refine E.CG.list ?_
          refine E.GL.run rfl rfl rfl (E.Runs.move rfl rfl) ?_
          refine E.GL.run rfl rfl rfl (E.Runs.add rfl rfl rfl (IntWalk.i64_in _ (by omega))) ?_
          refine E.GL.run rfl rfl rfl (E.Runs.assign rfl rfl) ?_
          refine E.GL.done ?_
          exact E.QG.round (i + 1) (E.subc rfl (E.subc rfl (E.subc rfl (E.subc rfl (E.subc rfl (E.subc rfl (E.subc rfl (E.subc rfl E.subn)))))))) ⟨by omega, b2, b5, L, lx⟩ (by omega)
        · refine E.GL.done ?_
          refine E.QG.code ?_
          refine E.CG.cond_f rfl ?_
          refine E.CG.exit ?_
          refine E.QG.pass_exit ?_
          refine E.QG.pass_exit ?_
          refine E.QG.block_here ?_
          refine E.QG.code ?_
          refine E.CG.seq ?_
          refine E.CG.list ?_
          refine E.GL.st rfl rfl rfl (E.ST.call rfl ent13 E.evn ((works_calls _).mono ?_))
          rintro e w179 ⟨rfl, l179⟩
          refine ⟨_, rfl, ?_⟩
          replace b2 := blk_below b2 l179
          replace b5 := blk_below b5 l179
          replace L := below_step L l179
          replace lx := below_step lx l179
          refine E.GL.run rfl rfl rfl (E.Runs.assign rfl rfl) ?_
          refine E.GL.done ?_
          refine E.QG.code ?_
          refine E.CG.ret ?_
          exact E.QG.result rfl rfl ⟨rfl, L⟩
  · refine E.GL.st rfl rfl rfl (E.ST.call rfl ent12 (E.evc rfl E.evn) ((valid_calls V m _ (hV.below L) false (iff_of_false Bool.false_ne_true h25)).mono ?_))
    rintro e w25 ⟨rfl, l25⟩
    refine ⟨_, rfl, ?_⟩
    replace b2 := blk_below b2 l25
    replace L := below_step L l25
    refine E.GL.run rfl rfl rfl (E.Runs.not rfl rfl) ?_
    refine E.GL.run rfl rfl rfl (E.Runs.move rfl rfl) ?_
    refine E.GL.skip rfl rfl rfl ?_
    refine E.GL.skip rfl rfl rfl ?_
    refine E.GL.run rfl rfl rfl (E.Runs.pick_t rfl rfl rfl) ?_
    refine E.GL.run rfl rfl rfl (E.Runs.move rfl rfl) ?_
    refine E.GL.skip rfl rfl rfl ?_
    refine E.GL.skip rfl rfl rfl ?_
    refine E.GL.skip rfl rfl rfl ?_
    refine E.GL.skip rfl rfl rfl ?_
    refine E.GL.skip rfl rfl rfl ?_
    refine E.GL.run rfl rfl rfl (E.Runs.pick_t rfl rfl rfl) ?_
    refine E.GL.done ?_
    refine E.QG.code ?_
    refine E.CG.cond_t rfl ?_
    refine E.CG.seq ?_
    refine E.CG.list ?_
    refine E.GL.st rfl rfl rfl (E.ST.call rfl ent13 E.evn ((works_calls _).mono ?_))
    rintro e w38 ⟨rfl, l38⟩
    refine ⟨_, rfl, ?_⟩
    replace b2 := blk_below b2 l38
    replace L := below_step L l38
    refine E.GL.run rfl rfl rfl (E.Runs.assign rfl rfl) ?_
    refine E.GL.done ?_
    refine E.QG.code ?_
    refine E.CG.ret ?_
    refine E.QG.pass_ret ?_
    exact E.QG.result rfl rfl ⟨rfl, L⟩

end Go.Proofs.Ytiplichdhcmjdaa.T
