/- Texts of this claim, put together: A14, E19, N10, A15, N11, A16, A17, A18, A19, A20, A21, E20, A22, A23, A24, B2, B3, B4, B5, B6, B7, B8, O1. -/
import Derived.Test.YtiplichdhcmjdaaG3
import Derived.Test.YtiplichdhcmjdaaRows
import Derived.ProofKit
import Derived.OpenShut
import Derived.ChangeOld
import Derived.SizedLaws
import Derived.Deep.Slices
namespace Go.Proofs.Ytiplichdhcmjdaa.T
open Go.RowKit Go.Proofs.YtiplichdhcmjdaaW.PrintWords Go.Proofs.YtiplichdhcmjdaaW.PrintMore
open Go.Proofs.Ytiplichdhcmjdaa.P
set_option linter.unusedVariables false
set_option linter.unusedSimpArgs false

theorem open_ok {w : World} {V : Ev} {m : Ea} {p : Value} {Er : Int} (ok : VOk V) (h : OpenR w V m p Er) : ((∀ t, ¬ Truth V t) ∧ p = .pointer none ∧ Er = 3) ∨ (Er = 0 ∧ ∃ g C G D Ac Ab Aa cc cb ca F Fa, p = .pointer (some ⟨g, 0, none⟩) ∧ F V.cs.length (bl V.qs) ≠ none ∧ Op w V m g C G D Ac Ab Aa cc cb ca F Fa) := by
  rcases h with ⟨k, _⟩ | ⟨_, h⟩ | ⟨_, h⟩
  · exact absurd ok k
  · exact .inl h
  · exact .inr h
def mnL (q : Bl → Int) (x : Int) (l : List S69) : Int := l.foldl (fun a o => mn a (q o.b)) x
def mxL (q : Bl → Int) (x : Int) (l : List S69) : Int := l.foldl (fun a o => mx a (q o.b)) x
theorem mnL_step {q : Bl → Int} {x : Int} {l : List S69} {i : Nat} {o : S69} (ho : l[i]? = some o) : mnL q x (l.take (i + 1)) = mn (mnL q x (l.take i)) (q o.b) := by
  unfold mnL
  rw [List.take_add_one, ho, Option.toList_some, List.foldl_append]
  rfl
theorem mxL_step {q : Bl → Int} {x : Int} {l : List S69} {i : Nat} {o : S69} (ho : l[i]? = some o) : mxL q x (l.take (i + 1)) = mx (mxL q x (l.take i)) (q o.b) := by
  unfold mxL
  rw [List.take_add_one, ho, Option.toList_some, List.foldl_append]
  rfl
theorem mnL_is {q : Bl → Int} : ∀ (l : List S69) (x : Int), (mnL q x l = x ∨ ∃ o ∈ l, q o.b = mnL q x l) ∧ mnL q x l ≤ x ∧ ∀ o ∈ l, mnL q x l ≤ q o.b
  | [], x => ⟨.inl rfl, Int.le_refl _, fun o h => by cases h⟩
  | o :: l, x => by
    obtain ⟨h1, h2, h3⟩ := mnL_is (q := q) l (mn x (q o.b))
    have e : mnL q x (o :: l) = mnL q (mn x (q o.b)) l := rfl
    have hm : mn x (q o.b) = x ∨ mn x (q o.b) = q o.b := by unfold mn; split <;> simp
    have hle : mn x (q o.b) ≤ x ∧ mn x (q o.b) ≤ q o.b := by unfold mn; split <;> omega
    rw [e]
    refine ⟨?_, by omega, fun o' ho' => ?_⟩
    · rcases h1 with h1 | ⟨o', ho', h1⟩
      · rcases hm with hm | hm
        · exact .inl (h1.trans hm)
        · exact .inr ⟨o, List.mem_cons_self, by rw [h1, hm]⟩
      · exact .inr ⟨o', List.mem_cons_of_mem _ ho', h1⟩
    · rcases List.mem_cons.mp ho' with rfl | ho'
      · omega
      · exact h3 o' ho'
theorem mxL_is {q : Bl → Int} : ∀ (l : List S69) (x : Int), (mxL q x l = x ∨ ∃ o ∈ l, q o.b = mxL q x l) ∧ x ≤ mxL q x l ∧ ∀ o ∈ l, q o.b ≤ mxL q x l
  | [], x => ⟨.inl rfl, Int.le_refl _, fun o h => by cases h⟩
  | o :: l, x => by
    obtain ⟨h1, h2, h3⟩ := mxL_is (q := q) l (mx x (q o.b))
    have e : mxL q x (o :: l) = mxL q (mx x (q o.b)) l := rfl
    have hm : mx x (q o.b) = x ∨ mx x (q o.b) = q o.b := by unfold mx; split <;> simp
    have hle : x ≤ mx x (q o.b) ∧ q o.b ≤ mx x (q o.b) := by unfold mx; split <;> omega
    rw [e]
    refine ⟨?_, by omega, fun o' ho' => ?_⟩
    · rcases h1 with h1 | ⟨o', ho', h1⟩
      · rcases hm with hm | hm
        · exact .inl (h1.trans hm)
        · exact .inr ⟨o, List.mem_cons_self, by rw [h1, hm]⟩
      · exact .inr ⟨o', List.mem_cons_of_mem _ ho', h1⟩
    · rcases List.mem_cons.mp ho' with rfl | ho'
      · omega
      · exact h3 o' ho'
theorem errT_no {V : Ev} {till sh : Int} (h : ¬ VOk V) : errT V till sh = 100 := by unfold errT; rw [if_neg h]
theorem errT_arg {V : Ev} {till sh : Int} (h : VOk V) (k : ¬ ((0 ≤ till ∧ till ≤ (V.cs.length : Int) - 1) ∧ (0 ≤ sh ∧ sh ≤ (V.ps.length : Int) - 1))) : errT V till sh = 1 := by unfold errT; rw [if_pos h, if_neg k]
theorem errT_none {V : Ev} {till sh : Int} (h : VOk V) (k : (0 ≤ till ∧ till ≤ (V.cs.length : Int) - 1) ∧ (0 ≤ sh ∧ sh ≤ (V.ps.length : Int) - 1)) (n : ∀ t, ¬ Truth V t) : errT V till sh = 3 := by unfold errT; rw [if_pos h, if_pos k, if_neg (fun ⟨t, ht⟩ => n t ht)]
theorem errT_ok {V : Ev} {till sh : Int} (h : VOk V) (k : (0 ≤ till ∧ till ≤ (V.cs.length : Int) - 1) ∧ (0 ≤ sh ∧ sh ≤ (V.ps.length : Int) - 1)) {t : List Bl} (ht : Truth V t) : errT V till sh = 0 := by unfold errT; rw [if_pos h, if_pos k, if_pos ⟨t, ht⟩]
theorem loV_no {V : Ev} {till sh : Int} {q : Bl → Int} (h : errT V till sh ≠ 0) : loV V till sh q = 0 := by unfold loV; rw [if_neg h]
theorem hiV_no {V : Ev} {till sh : Int} {q : Bl → Int} (h : errT V till sh ≠ 0) : hiV V till sh q = 0 := by unfold hiV; rw [if_neg h]
theorem loV_ok {V : Ev} {till sh : Int} {q : Bl → Int} {m : Int} (h : errT V till sh = 0) (h1 : valP V till.toNat q m) (h2 : ∀ n, valP V till.toNat q n → m ≤ n) : loV V till sh q = m := by unfold loV; rw [if_pos h, mnI_eq h1 h2]
theorem hiV_ok {V : Ev} {till sh : Int} {q : Bl → Int} {m : Int} (h : errT V till sh = 0) (h1 : valP V till.toNat q m) (h2 : ∀ n, valP V till.toNat q n → n ≤ m) : hiV V till sh q = m := by unfold hiV; rw [if_pos h, mxI_eq h1 h2]
theorem span_ok {V : Ev} {till sh : Int} {q : Bl → Int} (ok : VOk V) (hi : till.toNat < V.cs.length) (h : errT V till sh = 0) {o0 : S69} {l : List S69} (hl : l = lkL V (fewN V) till.toNat (chs V (ct V till.toNat))) (h0 : o0 ∈ l) : loV V till sh q = mnL q (q o0.b) l ∧ hiV V till sh q = mxL q (q o0.b) l := by
  subst hl
  obtain ⟨a1, a2, a3⟩ := mnL_is (q := q) (lkL V (fewN V) till.toNat (chs V (ct V till.toNat))) (q o0.b)
  obtain ⟨b1, b2, b3⟩ := mxL_is (q := q) (lkL V (fewN V) till.toNat (chs V (ct V till.toNat))) (q o0.b)
  constructor
  · refine loV_ok h ((val_iff ok hi).mpr ?_) fun n hn => ?_
    · rcases a1 with a1 | a1
      · exact ⟨o0, h0, a1.symm⟩
      · exact a1
    · obtain ⟨o, ho, rfl⟩ := (val_iff ok hi).mp hn
      exact a3 o ho
  · refine hiV_ok h ((val_iff ok hi).mpr ?_) fun n hn => ?_
    · rcases b1 with b1 | b1
      · exact ⟨o0, h0, b1.symm⟩
      · exact b1
    · obtain ⟨o, ho, rfl⟩ := (val_iff ok hi).mp hn
      exact b3 o ho
set_option maxRecDepth 100000 in
theorem build34z (W : World) : (Instr.build 34 #[]).run Try.prog W = .ok (.agg #[.int .i64 0, .int .i64 0]) W := by
  have hu3 := Try.underlying3
  have hu34 := Try.underlying34
  go_simp
set_option maxRecDepth 100000 in
theorem build34 (a b : Int) (W : World) : (Instr.build 34 #[(0, .int .i64 a), (1, .int .i64 b)]).run Try.prog W = .ok (.agg #[.int .i64 a, .int .i64 b]) W := by
  have hu3 := Try.underlying3
  have hu34 := Try.underlying34
  go_simp
theorem info34c : (Try.prog.info? 34).map (·.size) = some (#[(.int .i64 0 : Value), .int .i64 0] : Array Value).size := by kernel_rfl
theorem four_oneS (a b c d : Int) : (#[.int .i64 a, .int .i64 b, .int .i64 c, .int .i64 d] : Array Value).all (·.oneCell') = true := by simp [Value.oneCell']
set_option maxRecDepth 100000 in
set_option maxHeartbeats 8000000 in

theorem bounds_calls (V : Ev) (m : Ea) (till sh : Int) (f : FuncId) (cap : List Value) (q : Bl → Int) (w : World) (hV : EvM w V m) (hs : Sz V) (hent : ∀ args W, (callFunc f args).run Try.prog W = .ok (.enter f args) W)
    (hof : ∀ (o : S69) (W : World), VOk V → ((0 ≤ till ∧ till ≤ (V.cs.length : Int) - 1) ∧ (0 ≤ sh ∧ sh ≤ (V.ps.length : Int) - 1)) → o ∈ chs V (ct V till.toNat) → Below w.heap.size w W → Calls Try.prog f ([Value.agg #[.int .i64 o.f0, .int .i64 o.f1, .int .i64 o.f2, .int .i64 o.f3]] ++ cap).toArray W fun e w' => e = .returned (.int .i64 (q o.b)) ∧ Below W.heap.size W w') :
    Calls Try.prog 51 #[hv V m, .int .i64 till, .int .i64 sh, .func (.func f) #[] cap.toArray] w fun e w' => e = .returned (.tuple #[.agg #[.int .i64 (loV V till sh q), .int .i64 (hiV V till sh q)], .int .i64 (errT V till sh)]) ∧ Below w.heap.size w w' := by
  have hsc := hs.c
  have hu3 := Try.underlying3
  have hu22 := Try.underlying22
  have hu23 := Try.underlying23
  have hu25 := Try.underlying25
  have hu28 := Try.underlying28
  have hu34 := Try.underlying34
  have hu69 := Try.underlying69
  have hu72 := Try.underlying72
  obtain ⟨z3, o3⟩ := info_some info3s (by decide)
  obtain ⟨z22, o22⟩ := info_some info22s (by decide)
  obtain ⟨z23, o23⟩ := info_some info23s (by decide)
  obtain ⟨z69, o69⟩ := info_some info69s (by decide)
  obtain ⟨z72, o72⟩ := info_some info72s (by decide)
  refine E.enter (N := 81) Try.func51 rfl Try.ntmps51 (args := [hv V m, .int .i64 till, .int .i64 sh, .func (.func f) #[] cap.toArray]) (by simp) ?_
  have L := Below.refl w.heap.size w
  refine E.CG.seq ?_
  refine E.CG.list ?_
  refine E.GL.st rfl rfl rfl (E.ST.box rfl rfl fun g4 w4 e4 b4 l4 => ?_)
  have h4_L : w.heap.size ≤ g4 := by rw [e4]; exact L.size
  replace L := below_step L l4
  refine E.GL.st rfl rfl rfl (E.ST.alloc rfl info34z fun g8 w8 e8 b8 l8 => ?_)
  have h8_L : w.heap.size ≤ g8 := by rw [e8]; exact L.size
  have n8_b4 : g4 ≠ g8 := by have := blk_lt b4; omega
  replace b4 := blk_below b4 l8
  replace L := below_step L l8
  refine E.GL.run rfl rfl rfl (E.Runs.assign rfl rfl) ?_
  refine E.GL.done ?_
  refine E.QG.code ?_
  refine E.CG.seq ?_
  refine E.CG.seq ?_
  refine E.CG.list ?_
  refine E.GL.run rfl rfl rfl (E.Runs.loads (cs := [.slice m.A V.ps.length m.a, .slice m.B V.qs.length m.b, .slice m.C V.ts.length m.c, .slice m.D V.cs.length m.d]) rfl rfl hu25 rfl info25s (blk_cells b4)) ?_
  refine E.GL.st rfl rfl rfl (E.ST.call rfl ent33 (E.evc rfl E.evn) ((check33 V m _ (hV.below L) hs).mono ?_))
  rintro e w17 ⟨rfl, l17⟩
  refine ⟨_, rfl, ?_⟩
  replace b4 := blk_below b4 l17
  replace b8 := blk_below b8 l17
  replace L := below_step L l17
  refine E.GL.cmpn rfl rfl rfl (fun _ h => (E.Runs.neq rfl rfl rfl h)) (fun h18 => ?_) (fun h18 => ?_)
  · refine E.GL.done ?_
    refine E.QG.code ?_
    refine E.CG.cond_t rfl ?_
    refine E.CG.seq ?_
    refine E.CG.list ?_
    refine E.GL.run rfl rfl rfl (E.Runs.build rfl E.epn build34z) ?_
    refine E.GL.store_whole rfl rfl rfl rfl rfl b8 rfl info34s (two_one _ _) fun wS2_1 c8 lS2_1 => ?_
    replace b4 := blk_grown b4 lS2_1 (E.nes (by first | assumption | exact Ne.symm (by assumption)))
    replace L := E.below_own L h8_L lS2_1
    replace b8 := c8
    clear c8
    refine E.GL.run rfl rfl rfl (E.Runs.assign rfl rfl) ?_
    refine E.GL.done ?_
    refine E.QG.code ?_
    refine E.CG.ret ?_
    refine E.QG.pass_ret ?_
    exact E.QG.result_ct rfl rfl b8 hu34 rfl info34c rfl ⟨by rw [loV_no (by rw [errT_no (fun k => h18 (chkV_yes k))]; decide), hiV_no (by rw [errT_no (fun k => h18 (chkV_yes k))]; decide), errT_no (fun k => h18 (chkV_yes k))], L⟩
  · have hok : VOk V := chkV_ok.mp (by omega)
    have hp3 := hok.n3
    refine E.GL.done ?_
    refine E.QG.code ?_
    refine E.CG.cond_f rfl ?_
    refine E.CG.skip ?_
    refine E.QG.code ?_
    refine E.CG.seq ?_
    refine E.CG.seq ?_
    refine E.CG.list ?_
    refine E.GL.run rfl rfl rfl (E.Runs.move rfl rfl) ?_
    refine E.GL.run rfl rfl rfl (E.Runs.fieldAddr rfl rfl hu25 rfl (by assumption) rfl) ?_
    refine E.GL.run rfl rfl rfl (E.Runs.load1 rfl rfl hu23 rfl (by first | assumption | exact E.blkc (by assumption) rfl | exact pw_cell_below L (by assumption))) ?_
    refine E.GL.run rfl rfl rfl (E.Runs.len rfl rfl hu23) ?_
    refine E.GL.run rfl rfl rfl (E.Runs.sub rfl rfl rfl (IntWalk.i64_in _ (by omega))) ?_
    by_cases h25 : inR till 0 ((V.cs.length : Int) - 1)
    · refine E.GL.st rfl rfl rfl (E.ST.call rfl ent67 (E.evc rfl (E.evc rfl (E.evc rfl E.evn))) ((within_o till 0 ((V.cs.length : Int) - 1) true (iff_of_true rfl h25) _).mono ?_))
      rintro e w25 ⟨rfl, l25⟩
      refine ⟨_, rfl, ?_⟩
      replace b4 := blk_below b4 l25
      replace b8 := blk_below b8 l25
      replace L := below_step L l25
      refine E.GL.run rfl rfl rfl (E.Runs.not rfl rfl) ?_
      refine E.GL.run rfl rfl rfl (E.Runs.move rfl rfl) ?_
      refine E.GL.run rfl rfl rfl (E.Runs.move rfl rfl) ?_
      refine E.GL.run rfl rfl rfl (E.Runs.fieldAddr rfl rfl hu25 rfl (by assumption) rfl) ?_
      refine E.GL.run rfl rfl rfl (E.Runs.load1 rfl rfl hu22 rfl (by first | assumption | exact E.blkc (by assumption) rfl | exact pw_cell_below L (by assumption))) ?_
      refine E.GL.run rfl rfl rfl (E.Runs.len rfl rfl hu22) ?_
      refine E.GL.run rfl rfl rfl (E.Runs.sub rfl rfl rfl (IntWalk.i64_in _ (by omega))) ?_
      by_cases h33 : inR sh 0 ((V.ps.length : Int) - 1)
      · have hT : (0 ≤ till ∧ till ≤ (V.cs.length : Int) - 1) ∧ (0 ≤ sh ∧ sh ≤ (V.ps.length : Int) - 1) := ⟨h25, h33⟩
        obtain ⟨tn, htn⟩ : ∃ n : Nat, till = n := ⟨till.toNat, by have := hT.1.1; omega⟩
        have htt : till.toNat = tn := by omega
        have hti : till.toNat < V.cs.length := by have := hT.1.2; omega
        refine E.GL.st rfl rfl rfl (E.ST.call rfl ent67 (E.evc rfl (E.evc rfl (E.evc rfl E.evn))) ((within_o sh 0 ((V.ps.length : Int) - 1) true (iff_of_true rfl h33) _).mono ?_))
        rintro e w33 ⟨rfl, l33⟩
        refine ⟨_, rfl, ?_⟩
        replace b4 := blk_below b4 l33
        replace b8 := blk_below b8 l33
        replace L := below_step L l33
        refine E.GL.run rfl rfl rfl (E.Runs.not rfl rfl) ?_
        refine E.GL.run rfl rfl rfl (E.Runs.pick_f rfl rfl rfl) ?_
        refine E.GL.done ?_
        refine E.QG.code ?_
        refine E.CG.cond_f rfl ?_
        refine E.CG.skip ?_
        refine E.QG.code ?_
        refine E.CG.seq ?_
        refine E.CG.list ?_
        refine E.GL.run rfl rfl rfl (E.Runs.loads (cs := [.slice m.A V.ps.length m.a, .slice m.B V.qs.length m.b, .slice m.C V.ts.length m.c, .slice m.D V.cs.length m.d]) rfl rfl hu25 rfl info25s (blk_cells b4)) ?_
        refine E.GL.st rfl rfl rfl (E.ST.call rfl ent49 (E.evc rfl E.evn) ((open_calls V m _ (hV.below L) hs).mono ?_))
        rintro e w39 ⟨p, Er, rfl, hO, l39⟩
        refine ⟨_, rfl, ?_⟩
        replace b4 := blk_below b4 l39
        replace b8 := blk_below b8 l39
        replace L := below_step L l39
        refine E.GL.run rfl rfl rfl (E.Runs.move rfl rfl) ?_
        refine E.GL.run rfl rfl rfl (E.Runs.extract rfl rfl rfl) ?_
        refine E.GL.run rfl rfl rfl (E.Runs.extract rfl rfl rfl) ?_
        refine E.GL.run rfl rfl rfl (E.Runs.assign rfl rfl) ?_
        refine E.GL.run rfl rfl rfl (E.Runs.assign rfl rfl) ?_
        refine E.GL.done ?_
        refine E.QG.code ?_
        refine E.CG.seq ?_
        refine E.CG.seq ?_
        refine E.CG.list ?_
        refine E.GL.run rfl rfl rfl (E.Runs.move rfl rfl) ?_
        obtain ⟨hno, rfl, rfl⟩ | ⟨rfl, g, C, G, D, Ac, Ab, Aa, cc, cb, ca, F, Fa, rfl, hF, hO⟩ := open_ok hok hO
        · refine E.GL.run rfl rfl rfl (E.Runs.neq rfl rfl rfl rfl) ?_
          refine E.GL.done ?_
          refine E.QG.code ?_
          refine E.CG.cond_t rfl ?_
          refine E.CG.seq ?_
          refine E.CG.list ?_
          refine E.GL.run rfl rfl rfl (E.Runs.build rfl E.epn build34z) ?_
          refine E.GL.run rfl rfl rfl (E.Runs.move rfl rfl) ?_
          refine E.GL.store_whole rfl rfl rfl rfl rfl b8 rfl info34s (two_one _ _) fun wS7_2 c8 lS7_2 => ?_
          replace b4 := blk_grown b4 lS7_2 (E.nes (by first | assumption | exact Ne.symm (by assumption)))
          replace L := E.below_own L h8_L lS7_2
          replace b8 := c8
          clear c8
          refine E.GL.run rfl rfl rfl (E.Runs.assign rfl rfl) ?_
          refine E.GL.done ?_
          refine E.QG.code ?_
          refine E.CG.ret ?_
          refine E.QG.pass_ret ?_
          exact E.QG.result_ct rfl rfl b8 hu34 rfl info34c rfl ⟨by rw [loV_no (by rw [errT_none hok hT hno]; decide), hiV_no (by rw [errT_none hok hT hno]; decide), errT_none hok hT hno] <;> rfl, L⟩
        · obtain ⟨N, hN0, hN⟩ := few_some (ok_b hO) hF (ok_a hO)
          obtain ⟨t0, ht0⟩ := hN.1
          have hfN := fewN_eq hN
          rw [← hfN] at hN hN0
          refine E.GL.run rfl rfl rfl (E.Runs.neq rfl rfl rfl rfl) ?_
          refine E.GL.done ?_
          refine E.QG.code ?_
          refine E.CG.cond_f rfl ?_
          refine E.CG.skip ?_
          refine E.QG.code ?_
          refine E.CG.seq ?_
          refine E.CG.list ?_
          refine E.GL.run rfl rfl rfl (E.Runs.move rfl rfl) ?_
          refine E.GL.run rfl rfl rfl (E.Runs.move rfl rfl) ?_
          refine E.GL.st rfl rfl rfl (E.ST.call rfl ent76 (E.evc rfl (E.evc (congrArg (fun t => some (Value.int .i64 t)) (show till = (till.toNat : Int) by omega)) E.evn)) ((likely_calls V m g _ hO hok (fewN V) hN0 hN till.toNat hti).mono ?_))
          rintro e w48 ⟨v48, rfl, R48, l48⟩
          refine ⟨_, rfl, ?_⟩
          replace b4 := blk_below b4 l48
          replace b8 := blk_below b8 l48
          replace L := below_step L l48
          have K := Below.refl w48.heap.size w48
          refine E.GL.run rfl rfl rfl (E.Runs.assign rfl rfl) ?_
          refine E.GL.done ?_
          refine E.QG.code ?_
          refine E.CG.seq ?_
          obtain ⟨A48, c48, rfl, _, hR48⟩ := Kd.R_reads R48
          have hlen : 0 < (lkL V (fewN V) till.toNat (chs V (ct V till.toNat))).length := lkL_pos hok hti ht0.1
          obtain ⟨o0, ho0⟩ := get_ex hlen
          obtain ⟨ao0, eO0, XO0⟩ := ch_at hR48 ho0
          have hm0 := List.mem_of_getElem? ho0
          have hl48 : (lkL V (fewN V) till.toNat (chs V (ct V till.toNat))).length ≤ 1000000 := by
            obtain ⟨c, hc⟩ := get_ex hti
            have hcl := chs_len hok (hok.c c (List.mem_of_getElem? hc))
            have := lkL_len V (fewN V) till.toNat (chs V (ct V till.toNat))
            rw [ct_of hc] at this
            rw [ct_of hc]
            omega
          refine E.CG.cut1 (fun (g13 : Nat) => [(3, .func (.func f) #[] cap.toArray), (4, .pointer (some ⟨g4, 0, none⟩)), (8, .pointer (some ⟨g8, 0, none⟩)), (12, .slice A48 (lkL V (fewN V) till.toNat (chs V (ct V till.toNat))).length c48), (13, .pointer (some ⟨g13, 0, none⟩))]) (fun g13 w' => w'.heap[g8]? = some (.cells #[.int .i64 0, .int .i64 0] 34 (0, 0)) ∧ w'.heap[g13]? = some (.cells #[.int .i64 (q o0.b), .int .i64 (q o0.b)] 34 (0, 0)) ∧ g8 ≠ g13 ∧ w48.heap.size ≤ g13 ∧ Below w48.heap.size w48 w') ?_ ?_
          · refine E.CG.heldH (none) (by kernel_rfl) fun v9 lD hh => ?_
            replace b4 := blk_below b4 lD
            replace b8 := blk_below b8 lD
            replace L := below_step L lD
            replace K := below_step K lD
            clear lD
            have s_b4 := b4
            have s_b8 := b8
            have s_L := L
            have s_K := K
            refine E.GH.take (i := 0) rfl (by kernel_rfl) (by kernel_rfl) (by kernel_rfl) E.calm_cut1 rfl rfl rfl (fun w' hS => (E.Runs.move rfl rfl)) ?_
            refine E.GH.take (i := 1) rfl (by kernel_rfl) (by kernel_rfl) (by kernel_rfl) E.calm_cut1 rfl rfl rfl (fun w' hS => (E.Runs.move rfl rfl)) ?_
            refine E.GH.take (i := 2) rfl (by kernel_rfl) (by kernel_rfl) (by kernel_rfl) E.calm_cut1 rfl rfl rfl (fun w' hS => (E.Runs.indexAddrA (i := 0) rfl rfl rfl hu72 z69 o69 (by omega) eO0 rfl)) ?_
            refine E.GH.take (i := 3) rfl (by kernel_rfl) (by kernel_rfl) (by kernel_rfl) E.calm_cut1 rfl rfl rfl (fun w' hS => (E.Runs.loads (cs := [.int .i64 o0.f0, .int .i64 o0.f1, .int .i64 o0.f2, .int .i64 o0.f3]) rfl rfl hu69 rfl info69s (fun j v hv => pw_cell_below (below_step s_K (E.belowG hS)) (XO0 j v hv)))) ?_
            refine E.GH.take (i := 5) rfl (by kernel_rfl) (by kernel_rfl) (by kernel_rfl) E.calm_cut1 rfl rfl rfl (fun w' hS => (E.Runs.move rfl rfl)) ?_
            refine E.GH.take (i := 6) rfl (by kernel_rfl) (by kernel_rfl) (by kernel_rfl) E.calm_cut1 rfl rfl rfl (fun w' hS => (E.Runs.move rfl rfl)) ?_
            refine E.GH.take (i := 7) rfl (by kernel_rfl) (by kernel_rfl) (by kernel_rfl) E.calm_cut1 rfl rfl rfl (fun w' hS => (E.Runs.indexAddrA (i := 0) rfl rfl rfl hu72 z69 o69 (by omega) eO0 rfl)) ?_
            refine E.GH.take (i := 8) rfl (by kernel_rfl) (by kernel_rfl) (by kernel_rfl) E.calm_cut1 rfl rfl rfl (fun w' hS => (E.Runs.loads (cs := [.int .i64 o0.f0, .int .i64 o0.f1, .int .i64 o0.f2, .int .i64 o0.f3]) rfl rfl hu69 rfl info69s (fun j v hv => pw_cell_below (below_step s_K (E.belowG hS)) (XO0 j v hv)))) ?_
            refine E.GH.all (rs := [4, 11]) (by kernel_rfl) (by simp) (E.GHs.cons rfl ?_ (E.GHs.cons rfl ?_ E.GHs.nil))
            · refine E.GO.st rfl rfl rfl (E.ST.callV (cap := cap) rfl hent rfl (E.evc rfl E.evn) ((hof o0 _ hok hT (lkL_mem.mp hm0).1 L).mono ?_))
              rintro e w53 ⟨rfl, l53⟩
              refine ⟨_, rfl, hh.trans (E.gbB l53), ?_⟩
              replace hh := hh.trans (E.gbB l53)
              replace b4 := blk_below b4 l53
              replace b8 := blk_below b8 l53
              replace L := below_step L l53
              replace K := below_step K l53
              refine E.GH.all (rs := [9, 11]) (by kernel_rfl) (by simp) (E.GHs.cons rfl ?_ (E.GHs.cons rfl ?_ E.GHs.nil))
              · refine E.GO.st rfl rfl rfl (E.ST.callV (cap := cap) rfl hent rfl (E.evc rfl E.evn) ((hof o0 _ hok hT (lkL_mem.mp hm0).1 L).mono ?_))
                rintro e w58 ⟨rfl, l58⟩
                refine ⟨_, rfl, hh.trans (E.gbB l58), ?_⟩
                replace hh := hh.trans (E.gbB l58)
                replace b4 := blk_below b4 l58
                replace b8 := blk_below b8 l58
                replace L := below_step L l58
                replace K := below_step K l58
                refine E.GH.take (i := 10) rfl (by kernel_rfl) (by kernel_rfl) (by kernel_rfl) E.calm_cut1 rfl rfl rfl (fun w' hS => (E.Runs.build rfl (E.epc rfl (E.epc rfl E.epn)) (build34 _ _))) ?_
                refine E.GH.one (i := 11) (by kernel_rfl) rfl ?_
                refine E.GO.st rfl rfl rfl (E.ST.alloc rfl info34z fun g13 w13 e13 b13 l13 => ⟨hh.trans (E.gbB l13), ?_⟩)
                have hh0 := hh
                replace hh := hh.trans (E.gbB l13)
                have h13_hh : v9.heap.size ≤ g13 := by rw [e13]; exact hh0.size
                have h13_L : w.heap.size ≤ g13 := by rw [e13]; exact L.size
                have h13_K : w48.heap.size ≤ g13 := by rw [e13]; exact K.size
                have n13_b4 : g4 ≠ g13 := by have := blk_lt b4; omega
                have n13_b8 : g8 ≠ g13 := by have := blk_lt b8; omega
                clear hh0
                replace b4 := blk_below b4 l13
                replace b8 := blk_below b8 l13
                replace L := below_step L l13
                replace K := below_step K l13
                refine E.GH.one (i := 12) (by kernel_rfl) rfl ?_
                refine E.GO.sn rfl rfl (E.ST.storeS (off := 0) (cells := [.int .i64 (q o0.b), .int .i64 (q o0.b)]) rfl rfl rfl b13 rfl info34s (two_one _ _) rfl fun wS9_12 c13 lS9_12 => ⟨E.gb_own hh h13_hh lS9_12, ?_⟩)
                replace hh := E.gb_own hh h13_hh lS9_12
                replace b4 := blk_grown b4 lS9_12 (E.nes (by first | assumption | exact Ne.symm (by assumption)))
                replace b8 := blk_grown b8 lS9_12 (E.nes (by first | assumption | exact Ne.symm (by assumption)))
                replace L := E.below_own L h13_L lS9_12
                replace K := E.below_own K h13_K lS9_12
                replace b13 := c13
                clear c13
                refine E.GH.done (by kernel_rfl) ?_
                exact E.QG.meet1 _ (E.subc rfl (E.subc rfl (E.subc rfl (E.subc rfl (E.subc rfl (E.subn)))))) ⟨b8, b13, n13_b8, h13_K, K⟩
              · refine E.GO.st rfl rfl rfl (E.ST.alloc rfl info34z fun g13 w13 e13 b13 l13 => ⟨hh.trans (E.gbB l13), ?_⟩)
                have hh0 := hh
                replace hh := hh.trans (E.gbB l13)
                have h13_hh : v9.heap.size ≤ g13 := by rw [e13]; exact hh0.size
                have h13_L : w.heap.size ≤ g13 := by rw [e13]; exact L.size
                have h13_K : w48.heap.size ≤ g13 := by rw [e13]; exact K.size
                have n13_b4 : g4 ≠ g13 := by have := blk_lt b4; omega
                have n13_b8 : g8 ≠ g13 := by have := blk_lt b8; omega
                clear hh0
                replace b4 := blk_below b4 l13
                replace b8 := blk_below b8 l13
                replace L := below_step L l13
                replace K := below_step K l13
                refine E.GH.one (i := 9) (by kernel_rfl) rfl ?_
                refine E.GO.st rfl rfl rfl (E.ST.callV (cap := cap) rfl hent rfl (E.evc rfl E.evn) ((hof o0 _ hok hT (lkL_mem.mp hm0).1 L).mono ?_))
                rintro e w58 ⟨rfl, l58⟩
                refine ⟨_, rfl, hh.trans (E.gbB l58), ?_⟩
                replace hh := hh.trans (E.gbB l58)
                replace b4 := blk_below b4 l58
                replace b8 := blk_below b8 l58
                replace b13 := blk_below b13 l58
                replace L := below_step L l58
                replace K := below_step K l58
                refine E.GH.take (i := 10) rfl (by kernel_rfl) (by kernel_rfl) (by kernel_rfl) E.calm_cut1 rfl rfl rfl (fun w' hS => (E.Runs.build rfl (E.epc rfl (E.epc rfl E.epn)) (build34 _ _))) ?_
                refine E.GH.one (i := 12) (by kernel_rfl) rfl ?_
                refine E.GO.sn rfl rfl (E.ST.storeS (off := 0) (cells := [.int .i64 (q o0.b), .int .i64 (q o0.b)]) rfl rfl rfl b13 rfl info34s (two_one _ _) rfl fun wS9_12 c13 lS9_12 => ⟨E.gb_own hh h13_hh lS9_12, ?_⟩)
                replace hh := E.gb_own hh h13_hh lS9_12
                replace b4 := blk_grown b4 lS9_12 (E.nes (by first | assumption | exact Ne.symm (by assumption)))
                replace b8 := blk_grown b8 lS9_12 (E.nes (by first | assumption | exact Ne.symm (by assumption)))
                replace L := E.below_own L h13_L lS9_12
                replace K := E.below_own K h13_K lS9_12
                replace b13 := c13
                clear c13
                refine E.GH.done (by kernel_rfl) ?_
                exact E.QG.meet1 _ (E.subc rfl (E.subc rfl (E.subc rfl (E.subc rfl (E.subc rfl (E.subn)))))) ⟨b8, b13, n13_b8, h13_K, K⟩
            · refine E.GO.st rfl rfl rfl (E.ST.alloc rfl info34z fun g13 w13 e13 b13 l13 => ⟨hh.trans (E.gbB l13), ?_⟩)
              have hh0 := hh
              replace hh := hh.trans (E.gbB l13)
              have h13_hh : v9.heap.size ≤ g13 := by rw [e13]; exact hh0.size
              have h13_L : w.heap.size ≤ g13 := by rw [e13]; exact L.size
              have h13_K : w48.heap.size ≤ g13 := by rw [e13]; exact K.size
              have n13_b4 : g4 ≠ g13 := by have := blk_lt b4; omega
              have n13_b8 : g8 ≠ g13 := by have := blk_lt b8; omega
              clear hh0
              replace b4 := blk_below b4 l13
              replace b8 := blk_below b8 l13
              replace L := below_step L l13
              replace K := below_step K l13
              refine E.GH.one (i := 4) (by kernel_rfl) rfl ?_
              refine E.GO.st rfl rfl rfl (E.ST.callV (cap := cap) rfl hent rfl (E.evc rfl E.evn) ((hof o0 _ hok hT (lkL_mem.mp hm0).1 L).mono ?_))
              rintro e w53 ⟨rfl, l53⟩
              refine ⟨_, rfl, hh.trans (E.gbB l53), ?_⟩
              replace hh := hh.trans (E.gbB l53)
              replace b4 := blk_below b4 l53
              replace b8 := blk_below b8 l53
              replace b13 := blk_below b13 l53
              replace L := below_step L l53
              replace K := below_step K l53
              refine E.GH.one (i := 9) (by kernel_rfl) rfl ?_
              refine E.GO.st rfl rfl rfl (E.ST.callV (cap := cap) rfl hent rfl (E.evc rfl E.evn) ((hof o0 _ hok hT (lkL_mem.mp hm0).1 L).mono ?_))
              rintro e w58 ⟨rfl, l58⟩
              refine ⟨_, rfl, hh.trans (E.gbB l58), ?_⟩
              replace hh := hh.trans (E.gbB l58)
              replace b4 := blk_below b4 l58
              replace b8 := blk_below b8 l58
              replace b13 := blk_below b13 l58
              replace L := below_step L l58
              replace K := below_step K l58
              refine E.GH.take (i := 10) rfl (by kernel_rfl) (by kernel_rfl) (by kernel_rfl) E.calm_cut1 rfl rfl rfl (fun w' hS => (E.Runs.build rfl (E.epc rfl (E.epc rfl E.epn)) (build34 _ _))) ?_
              refine E.GH.one (i := 12) (by kernel_rfl) rfl ?_
              refine E.GO.sn rfl rfl (E.ST.storeS (off := 0) (cells := [.int .i64 (q o0.b), .int .i64 (q o0.b)]) rfl rfl rfl b13 rfl info34s (two_one _ _) rfl fun wS9_12 c13 lS9_12 => ⟨E.gb_own hh h13_hh lS9_12, ?_⟩)
              replace hh := E.gb_own hh h13_hh lS9_12
              replace b4 := blk_grown b4 lS9_12 (E.nes (by first | assumption | exact Ne.symm (by assumption)))
              replace b8 := blk_grown b8 lS9_12 (E.nes (by first | assumption | exact Ne.symm (by assumption)))
              replace L := E.below_own L h13_L lS9_12
              replace K := E.below_own K h13_K lS9_12
              replace b13 := c13
              clear c13
              refine E.GH.done (by kernel_rfl) ?_
              exact E.QG.meet1 _ (E.subc rfl (E.subc rfl (E.subc rfl (E.subc rfl (E.subc rfl (E.subn)))))) ⟨b8, b13, n13_b8, h13_K, K⟩
          clear b4
          intro g13 w9 ⟨b8, b13, n13_b8, h13_K, K⟩
          refine E.QG.code ?_
          refine E.CG.seq ?_
          refine E.CG.seq ?_
          refine E.CG.list ?_
          refine E.GL.run rfl rfl rfl (E.Runs.move rfl rfl) ?_
          refine E.GL.run rfl rfl rfl (E.Runs.len rfl rfl hu72) ?_
          refine E.GL.run rfl rfl rfl (E.Runs.move rfl rfl) ?_
          refine E.GL.done ?_
          refine E.QG.code ?_
          refine E.CG.block ?_
          have s11_b8 := b8
          have s11_b13 := b13
          have s11_K := K
          refine E.CG.loop (fun (i : Nat) => [(3, .func (.func f) #[] cap.toArray), (8, .pointer (some ⟨g8, 0, none⟩)), (13, .pointer (some ⟨g13, 0, none⟩)), (60, .slice A48 (lkL V (fewN V) till.toNat (chs V (ct V till.toNat))).length c48), (61, .int .i64 (lkL V (fewN V) till.toNat (chs V (ct V till.toNat))).length), (62, .int .i64 i)]) (fun i w' => i ≤ (lkL V (fewN V) till.toNat (chs V (ct V till.toNat))).length ∧ w'.heap[g8]? = some (.cells #[.int .i64 0, .int .i64 0] 34 (0, 0)) ∧ w'.heap[g13]? = some (.cells #[.int .i64 (mnL q (q o0.b) ((lkL V (fewN V) till.toNat (chs V (ct V till.toNat))).take i)), .int .i64 (mxL q (q o0.b) ((lkL V (fewN V) till.toNat (chs V (ct V till.toNat))).take i))] 34 (0, 0)) ∧ Below w48.heap.size w48 w') (fun i => (lkL V (fewN V) till.toNat (chs V (ct V till.toNat))).length - i) 0 (E.subc rfl (E.subc rfl (E.subc rfl (E.subc rfl (E.subc rfl (E.subc rfl E.subn)))))) ⟨Nat.zero_le _, b8, b13, K⟩ ?_
          rintro i w11 ⟨hi, b8, b13, K⟩
          refine E.CG.seq ?_
          refine E.CG.list ?_
          refine E.GL.cmp rfl rfl rfl (fun _ h => (E.Runs.lss rfl rfl rfl h)) (fun h63 => ?_) (fun h63 => ?_)
          · obtain ⟨o, ho⟩ := get_ex (show i < (lkL V (fewN V) till.toNat (chs V (ct V till.toNat))).length by omega)
            obtain ⟨ao, eO, XO⟩ := ch_at hR48 ho
            have hom := List.mem_of_getElem? ho
            refine E.GL.done ?_
            refine E.QG.code ?_
            refine E.CG.seq ?_
            refine E.CG.cond_t rfl ?_
            refine E.CG.skip ?_
            refine E.QG.code ?_
            refine E.CG.seq ?_
            refine E.CG.block ?_
            refine E.CG.seq ?_
            refine E.CG.list ?_
            refine E.GL.run rfl rfl rfl (E.Runs.indexAddrA (i := i) rfl rfl rfl hu72 z69 o69 (by omega) eO rfl) ?_
            refine E.GL.run rfl rfl rfl (E.Runs.loads (cs := [.int .i64 o.f0, .int .i64 o.f1, .int .i64 o.f2, .int .i64 o.f3]) rfl rfl hu69 rfl info69s (fun j v hv => pw_cell_below K (XO j v hv))) ?_
            refine E.GL.st rfl rfl rfl (E.ST.alloc rfl info69z fun g15 w15 e15 b15 l15 => ?_)
            have h15_K : w48.heap.size ≤ g15 := by rw [e15]; exact K.size
            have n15_b8 : g8 ≠ g15 := by have := blk_lt b8; omega
            have n15_b13 : g13 ≠ g15 := by have := blk_lt b13; omega
            replace b8 := blk_below b8 l15
            replace b13 := blk_below b13 l15
            replace K := below_step K l15
            refine E.GL.store_whole rfl rfl rfl rfl rfl b15 rfl info69s (four_oneS _ _ _ _) fun wS12_3 c15 lS12_3 => ?_
            replace b8 := blk_grown b8 lS12_3 (E.nes (by first | assumption | exact Ne.symm (by assumption)))
            replace b13 := blk_grown b13 lS12_3 (E.nes (by first | assumption | exact Ne.symm (by assumption)))
            replace K := E.below_own K h15_K lS12_3
            replace b15 := c15
            clear c15
            refine E.GL.done ?_
            refine E.QG.code ?_
            refine E.CG.heldJ 13 (fun v W => v.grownBy W (none)) (fun _ _ => True) (by kernel_rfl) (by kernel_rfl) (fun v => World.grownBy.refl _ _) fun v13 lD => ?_
            replace b8 := blk_below b8 lD
            replace b13 := blk_below b13 lD
            replace b15 := blk_below b15 lD
            replace K := below_step K lD
            have lD13 := lD
            clear lD
            have s_b8 := b8
            have s_b13 := b13
            have s_b15 := b15
            have s_K := K
            have hh : v13.grownBy v13 (none) := World.grownBy.refl _ _
            refine E.GJ.take1 (i := 0) rfl (by kernel_rfl) (by kernel_rfl) (by kernel_rfl) (by kernel_rfl) rfl (by kernel_rfl) (by kernel_rfl) (by intro c a d v w h; first | (cases d <;> exact h) | exact nomatch (show _ ∧ _ from h).1) rfl rfl rfl (fun w' hS => (E.Runs.fieldAddr rfl rfl hu34 rfl (by assumption) rfl)) ?_
            refine E.GJ.take1 (i := 1) rfl (by kernel_rfl) (by kernel_rfl) (by kernel_rfl) (by kernel_rfl) rfl (by kernel_rfl) (by kernel_rfl) (by intro c a d v w h; first | (cases d <;> exact h) | exact nomatch (show _ ∧ _ from h).1) rfl rfl rfl (fun w' hS => (E.Runs.load rfl rfl hu3 (by first | exact E.keeps hS (E.blkc (by assumption) rfl) (by first | exact E.nen | exact E.nes (by assumption) | exact E.nes (Ne.symm (by assumption))) | exact pw_cell_below (below_step s_K (E.belowG hS)) (by assumption)))) ?_
            refine E.GJ.take1 (i := 2) rfl (by kernel_rfl) (by kernel_rfl) (by kernel_rfl) (by kernel_rfl) rfl (by kernel_rfl) (by kernel_rfl) (by intro c a d v w h; first | (cases d <;> exact h) | exact nomatch (show _ ∧ _ from h).1) rfl rfl rfl (fun w' hS => (E.Runs.move rfl rfl)) ?_
            refine E.GJ.take1 (i := 3) rfl (by kernel_rfl) (by kernel_rfl) (by kernel_rfl) (by kernel_rfl) rfl (by kernel_rfl) (by kernel_rfl) (by intro c a d v w h; first | (cases d <;> exact h) | exact nomatch (show _ ∧ _ from h).1) rfl rfl rfl (fun w' hS => (E.Runs.loads (cs := [.int .i64 o.f0, .int .i64 o.f1, .int .i64 o.f2, .int .i64 o.f3]) rfl rfl hu69 rfl info69s (blk_cells (blk_grown s_b15 hS E.nen)))) ?_
            refine E.GJ.take1 (i := 6) rfl (by kernel_rfl) (by kernel_rfl) (by kernel_rfl) (by kernel_rfl) rfl (by kernel_rfl) (by kernel_rfl) (by intro c a d v w h; first | (cases d <;> exact h) | exact nomatch (show _ ∧ _ from h).1) rfl rfl rfl (fun w' hS => (E.Runs.fieldAddr rfl rfl hu34 rfl (by assumption) rfl)) ?_
            refine E.GJ.take1 (i := 7) rfl (by kernel_rfl) (by kernel_rfl) (by kernel_rfl) (by kernel_rfl) rfl (by kernel_rfl) (by kernel_rfl) (by intro c a d v w h; first | (cases d <;> exact h) | exact nomatch (show _ ∧ _ from h).1) rfl rfl rfl (fun w' hS => (E.Runs.load rfl rfl hu3 (by first | exact E.keeps hS (E.blkc (by assumption) rfl) (by first | exact E.nen | exact E.nes (by assumption) | exact E.nes (Ne.symm (by assumption))) | exact pw_cell_below (below_step s_K (E.belowG hS)) (by assumption)))) ?_
            refine E.GJ.take1 (i := 8) rfl (by kernel_rfl) (by kernel_rfl) (by kernel_rfl) (by kernel_rfl) rfl (by kernel_rfl) (by kernel_rfl) (by intro c a d v w h; first | (cases d <;> exact h) | exact nomatch (show _ ∧ _ from h).1) rfl rfl rfl (fun w' hS => (E.Runs.move rfl rfl)) ?_
            refine E.GJ.take1 (i := 9) rfl (by kernel_rfl) (by kernel_rfl) (by kernel_rfl) (by kernel_rfl) rfl (by kernel_rfl) (by kernel_rfl) (by intro c a d v w h; first | (cases d <;> exact h) | exact nomatch (show _ ∧ _ from h).1) rfl rfl rfl (fun w' hS => (E.Runs.loads (cs := [.int .i64 o.f0, .int .i64 o.f1, .int .i64 o.f2, .int .i64 o.f3]) rfl rfl hu69 rfl info69s (blk_cells (blk_grown s_b15 hS E.nen)))) ?_
            refine E.GJ.one (i := 4) (by kernel_rfl) (E.OJ.st rfl rfl rfl rfl (E.ST.callV (cap := cap) rfl hent rfl (E.evc rfl E.evn) ((hof o _ hok hT (lkL_mem.mp hom).1 (below_step L K)).mono ?_)))
            rintro e w70 ⟨rfl, l70⟩
            refine ⟨_, rfl, (E.SJ.before (by kernel_rfl)).mpr (hh.trans (E.gbB l70)), ?_⟩
            replace hh := hh.trans (E.gbB l70)
            replace b8 := blk_below b8 l70
            replace b13 := blk_below b13 l70
            replace b15 := blk_below b15 l70
            replace K := below_step K l70
            refine E.GJ.take1 (i := 5) rfl (by kernel_rfl) (by kernel_rfl) (by kernel_rfl) (by kernel_rfl) rfl (by kernel_rfl) (by kernel_rfl) (by intro c a d v w h; first | (cases d <;> exact h) | exact nomatch (show _ ∧ _ from h).1) rfl rfl rfl (fun w' hS => (E.Runs.min rfl rfl rfl rfl)) ?_
            refine E.GJ.one (i := 10) (by kernel_rfl) (E.OJ.st rfl rfl rfl rfl (E.ST.callV (cap := cap) rfl hent rfl (E.evc rfl E.evn) ((hof o _ hok hT (lkL_mem.mp hom).1 (below_step L K)).mono ?_)))
            rintro e w76 ⟨rfl, l76⟩
            refine ⟨_, rfl, (E.SJ.before (by kernel_rfl)).mpr (hh.trans (E.gbB l76)), ?_⟩
            replace hh := hh.trans (E.gbB l76)
            replace b8 := blk_below b8 l76
            replace b13 := blk_below b13 l76
            replace b15 := blk_below b15 l76
            replace K := below_step K l76
            refine E.GJ.take1 (i := 11) rfl (by kernel_rfl) (by kernel_rfl) (by kernel_rfl) (by kernel_rfl) rfl (by kernel_rfl) (by kernel_rfl) (by intro c a d v w h; first | (cases d <;> exact h) | exact nomatch (show _ ∧ _ from h).1) rfl rfl rfl (fun w' hS => (E.Runs.max rfl rfl rfl rfl)) ?_
            refine E.GJ.take1 (i := 12) rfl (by kernel_rfl) (by kernel_rfl) (by kernel_rfl) (by kernel_rfl) rfl (by kernel_rfl) (by kernel_rfl) (by intro c a d v w h; first | (cases d <;> exact h) | exact nomatch (show _ ∧ _ from h).1) rfl rfl rfl (fun w' hS => (E.Runs.build rfl (E.epc rfl (E.epc rfl E.epn)) (build34 _ _))) ?_
            refine E.GJ.one (i := 13) (by kernel_rfl) (E.OJ.sn rfl rfl rfl (E.ST.storeS (off := 0) (cells := [.int .i64 (mn (mnL q (q o0.b) ((lkL V (fewN V) till.toNat (chs V (ct V till.toNat))).take i)) (q o.b)), .int .i64 (mx (mxL q (q o0.b) ((lkL V (fewN V) till.toNat (chs V (ct V till.toNat))).take i)) (q o.b))]) rfl rfl rfl b13 rfl info34s (two_one _ _) rfl fun wJ c13 lJ => ⟨(E.SJ.behind (by kernel_rfl)).mpr trivial, ?_⟩))
            replace b8 := blk_grown b8 lJ (E.nes (by first | assumption | exact Ne.symm (by assumption)))
            replace b15 := blk_grown b15 lJ (E.nes (by first | assumption | exact Ne.symm (by assumption)))
            replace K := E.below_own K h13_K lJ
            replace b13 := c13
            clear c13
            refine E.GJ.done (by kernel_rfl) ?_
            refine E.QG.block_normal ?_
            refine E.QG.code ?_
            refine E.CG.list ?_
            refine E.GL.run rfl rfl rfl (E.Runs.add rfl rfl rfl (IntWalk.i64_in _ (by omega))) ?_
            refine E.GL.run rfl rfl rfl (E.Runs.move rfl rfl) ?_
            refine E.GL.done ?_
            exact E.QG.round (i + 1) (E.subc rfl (E.subc rfl (E.subc rfl (E.subc rfl (E.subc rfl (E.subc rfl E.subn)))))) ⟨by omega, b8, by rw [mnL_step ho, mxL_step ho]; exact b13, K⟩ (by omega)
          · obtain rfl : i = (lkL V (fewN V) till.toNat (chs V (ct V till.toNat))).length := by omega
            refine E.GL.done ?_
            refine E.QG.code ?_
            refine E.CG.seq ?_
            refine E.CG.cond_f rfl ?_
            refine E.CG.exit ?_
            refine E.QG.pass_exit ?_
            refine E.QG.pass_exit ?_
            refine E.QG.block_here ?_
            refine E.QG.code ?_
            refine E.CG.seq ?_
            refine E.CG.list ?_
            refine E.GL.run rfl rfl rfl (E.Runs.loads (cs := [.int .i64 (mnL q (q o0.b) ((lkL V (fewN V) till.toNat (chs V (ct V till.toNat))).take (lkL V (fewN V) till.toNat (chs V (ct V till.toNat))).length)), .int .i64 (mxL q (q o0.b) ((lkL V (fewN V) till.toNat (chs V (ct V till.toNat))).take (lkL V (fewN V) till.toNat (chs V (ct V till.toNat))).length))]) rfl rfl hu34 rfl info34s (blk_cells b13)) ?_
            refine E.GL.store_whole rfl rfl rfl rfl rfl b8 rfl info34s (two_one _ _) fun wS15_1 c8 lS15_1 => ?_
            replace b13 := blk_grown b13 lS15_1 (E.nes (by first | assumption | exact Ne.symm (by assumption)))
            replace b8 := c8
            clear c8
            refine E.GL.run rfl rfl rfl (E.Runs.assign rfl rfl) ?_
            refine E.GL.done ?_
            refine E.QG.code ?_
            refine E.CG.ret ?_
            exact E.QG.result_ct rfl rfl b8 hu34 rfl info34c rfl ⟨by rw [List.take_length, (span_ok (q := q) hok hti (errT_ok hok hT ht0.1) rfl hm0).1, (span_ok (q := q) hok hti (errT_ok hok hT ht0.1) rfl hm0).2, errT_ok hok hT ht0.1], E.below_own (below_step L K) h8_L lS15_1⟩
      · refine E.GL.st rfl rfl rfl (E.ST.call rfl ent67 (E.evc rfl (E.evc rfl (E.evc rfl E.evn))) ((within_o sh 0 ((V.ps.length : Int) - 1) false (iff_of_false Bool.false_ne_true h33) _).mono ?_))
        rintro e w33 ⟨rfl, l33⟩
        refine ⟨_, rfl, ?_⟩
        replace b4 := blk_below b4 l33
        replace b8 := blk_below b8 l33
        replace L := below_step L l33
        refine E.GL.run rfl rfl rfl (E.Runs.not rfl rfl) ?_
        refine E.GL.run rfl rfl rfl (E.Runs.pick_f rfl rfl rfl) ?_
        refine E.GL.done ?_
        refine E.QG.code ?_
        refine E.CG.cond_t rfl ?_
        refine E.CG.seq ?_
        refine E.CG.list ?_
        refine E.GL.run rfl rfl rfl (E.Runs.build rfl E.epn build34z) ?_
        refine E.GL.store_whole rfl rfl rfl rfl rfl b8 rfl info34s (two_one _ _) fun wS4_1 c8 lS4_1 => ?_
        replace b4 := blk_grown b4 lS4_1 (E.nes (by first | assumption | exact Ne.symm (by assumption)))
        replace L := E.below_own L h8_L lS4_1
        replace b8 := c8
        clear c8
        refine E.GL.run rfl rfl rfl (E.Runs.assign rfl rfl) ?_
        refine E.GL.done ?_
        refine E.QG.code ?_
        refine E.CG.ret ?_
        refine E.QG.pass_ret ?_
        exact E.QG.result_ct rfl rfl b8 hu34 rfl info34c rfl ⟨by rw [loV_no (by rw [errT_arg hok (fun k => h33 k.2)]; decide), hiV_no (by rw [errT_arg hok (fun k => h33 k.2)]; decide), errT_arg hok (fun k => h33 k.2)], L⟩
    · refine E.GL.st rfl rfl rfl (E.ST.call rfl ent67 (E.evc rfl (E.evc rfl (E.evc rfl E.evn))) ((within_o till 0 ((V.cs.length : Int) - 1) false (iff_of_false Bool.false_ne_true h25) _).mono ?_))
      rintro e w25 ⟨rfl, l25⟩
      refine ⟨_, rfl, ?_⟩
      replace b4 := blk_below b4 l25
      replace b8 := blk_below b8 l25
      replace L := below_step L l25
      refine E.GL.run rfl rfl rfl (E.Runs.not rfl rfl) ?_
      refine E.GL.run rfl rfl rfl (E.Runs.move rfl rfl) ?_
      refine E.GL.skip rfl rfl rfl ?_
      refine E.GL.skip rfl rfl rfl ?_
      refine E.GL.skip rfl rfl rfl ?_
      refine E.GL.skip rfl rfl rfl ?_
      refine E.GL.skip rfl rfl rfl ?_
      refine E.GL.skip rfl rfl rfl ?_
      refine E.GL.skip rfl rfl rfl ?_
      refine E.GL.run rfl rfl rfl (E.Runs.pick_t rfl rfl rfl) ?_
      refine E.GL.done ?_
      refine E.QG.code ?_
      refine E.CG.cond_t rfl ?_
      refine E.CG.seq ?_
      refine E.CG.list ?_
      refine E.GL.run rfl rfl rfl (E.Runs.build rfl E.epn build34z) ?_
      refine E.GL.store_whole rfl rfl rfl rfl rfl b8 rfl info34s (two_one _ _) fun wS4_1 c8 lS4_1 => ?_
      replace b4 := blk_grown b4 lS4_1 (E.nes (by first | assumption | exact Ne.symm (by assumption)))
      replace L := E.below_own L h8_L lS4_1
      replace b8 := c8
      clear c8
      refine E.GL.run rfl rfl rfl (E.Runs.assign rfl rfl) ?_
      refine E.GL.done ?_
      refine E.QG.code ?_
      refine E.CG.ret ?_
      refine E.QG.pass_ret ?_
      exact E.QG.result_ct rfl rfl b8 hu34 rfl info34c rfl ⟨by rw [loV_no (by rw [errT_arg hok (fun k => h25 k.1)]; decide), hiV_no (by rw [errT_arg hok (fun k => h25 k.1)]; decide), errT_arg hok (fun k => h25 k.1)], L⟩

set_option maxRecDepth 100000 in
set_option maxHeartbeats 8000000 in

theorem clo52 (o : S69) (s : Int) (g : Nat) (w : World) (hs : 0 ≤ s ∧ s ≤ 2) (bg : w.heap[g]? = some (.cells #[.int .i64 s] 3 (0, 0))) :
    Calls Try.prog 52 #[.agg #[.int .i64 o.f0, .int .i64 o.f1, .int .i64 o.f2, .int .i64 o.f3], .pointer (some ⟨g, 0, none⟩)] w fun e w' => e = .returned (.int .i64 (o.b.get s.toNat)) ∧ Below w.heap.size w w' := by
  have hu3 := Try.underlying3
  have hu59 := Try.underlying59
  have hu69 := Try.underlying69
  obtain ⟨z3, o3⟩ := info_some info3s (by decide)
  obtain ⟨z59, o59⟩ := info_some info59s (by decide)
  refine E.enter (N := 8) Try.func52 rfl Try.ntmps52 (args := [.agg #[.int .i64 o.f0, .int .i64 o.f1, .int .i64 o.f2, .int .i64 o.f3], .pointer (some ⟨g, 0, none⟩)]) (by simp) ?_
  have L := Below.refl w.heap.size w
  refine E.CG.seq ?_
  refine E.CG.list ?_
  refine E.GL.st rfl rfl rfl (E.ST.box rfl rfl fun g2 w2 e2 b2 l2 => ?_)
  have h2_L : w.heap.size ≤ g2 := by rw [e2]; exact L.size
  have n2_bg : g ≠ g2 := by have := blk_lt bg; omega
  replace bg := blk_below bg l2
  replace L := below_step L l2
  refine E.GL.run rfl rfl rfl (E.Runs.assign rfl rfl) ?_
  refine E.GL.done ?_
  refine E.QG.code ?_
  refine E.CG.seq ?_
  refine E.CG.list ?_
  refine E.GL.run rfl rfl rfl (E.Runs.load rfl rfl hu3 (by first | assumption | exact E.blkc (by assumption) rfl | exact pw_cell_below L (by assumption))) ?_
  refine E.GL.run rfl rfl rfl (E.Runs.fieldAddr rfl rfl hu69 rfl (by assumption) rfl) ?_
  refine E.GL.run rfl rfl rfl (E.Runs.indexArr rfl rfl rfl hu59 z3 o3 (by omega) (by omega) (show Go.Addr.add (⟨g2, 0, none⟩ : Addr) (s.toNat * 1) = (⟨g2, s.toNat, none⟩ : Addr) from by rw [Go.Addr.add_mid]; simp)) ?_
  refine E.GL.run rfl rfl rfl (E.Runs.load rfl rfl hu3 (show w2.cell? ⟨g2, s.toNat, none⟩ = some (Value.int .i64 (o.b.get s.toNat)) from by have := mid69 b2 s.toNat _ (bc_get o.b (show s.toNat < 3 by omega)); rw [Go.Addr.add_mid] at this; simpa using this)) ?_
  refine E.GL.run rfl rfl rfl (E.Runs.assign rfl rfl) ?_
  refine E.GL.done ?_
  refine E.QG.code ?_
  refine E.CG.ret ?_
  exact E.QG.result rfl rfl ⟨rfl, L⟩

set_option maxRecDepth 100000 in
set_option maxHeartbeats 8000000 in

theorem really_calls (V : Ev) (m : Ea) (till sh : Int) (w : World) (hV : EvM w V m) (hs : Sz V) :
    Calls Try.prog 16 #[hv V m, .int .i64 till, .int .i64 sh] w fun e w' => e = .returned (.tuple #[.agg #[.int .i64 (loV V till sh (fun b => b.get sh.toNat)), .int .i64 (hiV V till sh (fun b => b.get sh.toNat))], .int .i64 (errT V till sh)]) ∧ Below w.heap.size w w' := by
  have hu3 := Try.underlying3
  have hu25 := Try.underlying25
  have hu34 := Try.underlying34
  refine E.enter (N := 15) Try.func16 rfl Try.ntmps16 (args := [hv V m, .int .i64 till, .int .i64 sh]) (by simp) ?_
  have L := Below.refl w.heap.size w
  refine E.CG.seq ?_
  refine E.CG.list ?_
  refine E.GL.st rfl rfl rfl (E.ST.box rfl rfl fun g3 w3 e3 b3 l3 => ?_)
  have h3_L : w.heap.size ≤ g3 := by rw [e3]; exact L.size
  replace L := below_step L l3
  refine E.GL.st rfl rfl rfl (E.ST.boxZ rfl rfl rfl fun g5 w5 e5 b5 l5 => ?_)
  have h5_L : w.heap.size ≤ g5 := by rw [e5]; exact L.size
  have n5_b3 : g3 ≠ g5 := by have := blk_lt b3; omega
  replace b3 := blk_below b3 l5
  replace L := below_step L l5
  refine E.GL.st rfl rfl rfl (E.ST.alloc rfl info34z fun g6 w6 e6 b6 l6 => ?_)
  have h6_L : w.heap.size ≤ g6 := by rw [e6]; exact L.size
  have n6_b3 : g3 ≠ g6 := by have := blk_lt b3; omega
  have n6_b5 : g5 ≠ g6 := by have := blk_lt b5; omega
  replace b3 := blk_below b3 l6
  replace b5 := blk_below b5 l6
  replace L := below_step L l6
  refine E.GL.run rfl rfl rfl (E.Runs.assign rfl rfl) ?_
  refine E.GL.done ?_
  refine E.QG.code ?_
  refine E.CG.seq ?_
  refine E.CG.list ?_
  refine E.GL.run rfl rfl rfl (E.Runs.loads (cs := [.slice m.A V.ps.length m.a, .slice m.B V.qs.length m.b, .slice m.C V.ts.length m.c, .slice m.D V.cs.length m.d]) rfl rfl hu25 rfl info25s (blk_cells b3)) ?_
  refine E.GL.run rfl rfl rfl (E.Runs.move rfl rfl) ?_
  refine E.GL.run rfl rfl rfl (E.Runs.load rfl rfl hu3 (by first | assumption | exact E.blkc (by assumption) rfl | exact pw_cell_below L (by assumption))) ?_
  refine E.GL.run rfl rfl rfl (E.Runs.makeFunc rfl (E.evc rfl E.evn)) ?_
  refine E.GL.st rfl rfl rfl (E.ST.call rfl ent51 (E.evc rfl (E.evc rfl (E.evc rfl (E.evc rfl E.evn)))) ((bounds_calls V m till sh 52 [.pointer (some ⟨g5, 0, none⟩)] (fun b => b.get sh.toNat) _ (hV.below L) hs ent52 (fun o W ok hT ho l => clo52 o sh g5 W ⟨hT.2.1, by have := ok.n3; have := hT.2.2; omega⟩ (blk_below b5 l))).mono ?_))
  rintro e w12 ⟨rfl, l12⟩
  refine ⟨_, rfl, ?_⟩
  replace b3 := blk_below b3 l12
  replace b5 := blk_below b5 l12
  replace b6 := blk_below b6 l12
  replace L := below_step L l12
  refine E.GL.run rfl rfl rfl (E.Runs.extract rfl rfl rfl) ?_
  refine E.GL.run rfl rfl rfl (E.Runs.extract rfl rfl rfl) ?_
  refine E.GL.store_whole rfl rfl rfl rfl rfl b6 rfl info34s (two_one _ _) fun wS1_7 c6 lS1_7 => ?_
  replace b3 := blk_grown b3 lS1_7 (E.nes (by first | assumption | exact Ne.symm (by assumption)))
  replace b5 := blk_grown b5 lS1_7 (E.nes (by first | assumption | exact Ne.symm (by assumption)))
  replace L := E.below_own L h6_L lS1_7
  replace b6 := c6
  clear c6
  refine E.GL.run rfl rfl rfl (E.Runs.assign rfl rfl) ?_
  refine E.GL.done ?_
  refine E.QG.code ?_
  refine E.CG.ret ?_
  exact E.QG.result_ct rfl rfl b6 hu34 rfl info34c rfl ⟨rfl, L⟩

end Go.Proofs.Ytiplichdhcmjdaa.T
namespace Go.Proofs.Ytiplichdhcmjdaa.E
open Go.RowKit Go.Proofs.YtiplichdhcmjdaaW.PrintWords Go.Proofs.YtiplichdhcmjdaaW.PrintMore
open Go.Proofs.Ytiplichdhcmjdaa.T
set_option linter.unusedVariables false
set_option linter.unusedSimpArgs false
section
variable {P : Program} {w w' : World} {N : Nat} {env : Env} {o : Oper} {Q : Exit → Act → World → Prop} {K : Value → World → Prop}
end
/-- A block of another type has been written. -/
theorem R_over {α : Type} {d : Kd α} {e base g t : Nat} {w w1 : World} {v : Value} {xs : List α} {cs : Array Value} (h : d.R e w base (fun _ => True) v xs) (hb : w.heap[g]? = some (.cells cs t (0, 0))) (ht : ∀ q, q ∈ e :: d.E → q ≠ t) (hg : w.grownBy w1 (some g)) : d.R e w1 base (fun _ => True) v xs :=
  Kd.R_mono (Kd.R_grown (Kd.R_types h hb ht) hg (fun k hk q => hk.2 (Option.some.inj q))) (fun _ _ => trivial)
/-- Another row has been written, whose elements are of another type. -/
theorem R_over' {α β : Type} {d : Kd α} {d' : Kd β} {e e' base base' : Nat} {w w1 : World} {v u : Value} {xs : List α} {ys : List β} (h : d.R e w base (fun _ => True) v xs) (hu : d'.R e' w base' (fun _ => True) u ys) (ht : ∀ q, q ∈ e :: d.E → q ≠ e') (hg : w.grownBy w1 u.ownBlock) : d.R e w1 base (fun _ => True) v xs := by
  cases hu' : u.ownBlock with
  | none => rw [hu'] at hg; exact Kd.R_below h (belowG hg)
  | some g =>
    obtain ⟨_, _, ho, _⟩ := hu
    obtain ⟨cs, hc⟩ := own_typed ho g hu'
    rw [hu'] at hg
    exact R_over h hc ht hg
end Go.Proofs.Ytiplichdhcmjdaa.E
namespace Go.Proofs.Ytiplichdhcmjdaa.T
open Go.RowKit Go.Proofs.YtiplichdhcmjdaaW.PrintWords Go.Proofs.YtiplichdhcmjdaaW.PrintMore
open Go.Proofs.Ytiplichdhcmjdaa.P
set_option linter.unusedVariables false
set_option linter.unusedSimpArgs false
/-- The first tickets of a bill. -/
def tb (n : Nat) (b : Bl) : List Int := [b.f0, b.f1, b.f2].take n
theorem tb_len {n : Nat} (h : n ≤ 3) (b : Bl) : (tb n b).length = n := by unfold tb; rw [List.length_take]; show min n 3 = n; omega
theorem tb_bl {n : Nat} {r : Int} {b : Bl} (h1 : 1 ≤ n) (h3 : n ≤ 3) (hw : Way n r b) : bl (tb n b) = b := by
  obtain ⟨_, _, _, q1, q2, _⟩ := hw
  have hc : n = 1 ∨ n = 2 ∨ n = 3 := by omega
  rcases hc with rfl | rfl | rfl
  · exact Bl.ext' rfl (q1 (by omega)).symm (q2 (by omega)).symm
  · exact Bl.ext' rfl rfl (q2 (by omega)).symm
  · rfl
theorem tb_at {n : Nat} {b : Bl} {s : Nat} (hs : s < n) (h3 : n ≤ 3) : (tb n b)[s]? = some (b.get s) := by
  unfold tb
  rw [List.getElem?_take_of_lt hs]
  have : s = 0 ∨ s = 1 ∨ s = 2 := by omega
  rcases this with rfl | rfl | rfl <;> rfl
theorem bl_tb {l : List Int} (h : l.length ≤ 3) : tb l.length (bl l) = l := by
  rcases l with _ | ⟨a, _ | ⟨b, _ | ⟨c, _ | ⟨d, l⟩⟩⟩⟩
  · rfl
  · rfl
  · rfl
  · rfl
  · simp at h
theorem rl_20 {V : Ev} (ok : VOk V) {i : Nat} (hi : i < V.cs.length) : rl (ct V i) ≤ 20 := by
  obtain ⟨c, hc⟩ := get_ex hi
  rw [ct_of hc]
  exact (ok.c c (List.mem_of_getElem? hc)).2.2.2.2.2.2.2.2
theorem rl_0 {V : Ev} (ok : VOk V) {i : Nat} (hi : i < V.cs.length) : 0 ≤ rl (ct V i) := by
  obtain ⟨c, hc⟩ := get_ex hi
  rw [ct_of hc]
  exact (ok.c c (List.mem_of_getElem? hc)).2.2.2.2.2.2.2.1
/-- Rows of numbers, a row of our own. -/
abbrev kR : Kd (List Int) := Kd.slice 3 kI
structure RR (b : Nat) (w : World) (v : Value) (ts : List (List Int)) : Prop where
  r : Kd.R kR 22 w b (fun _ => True) v ts
theorem RR.below {b : Nat} {w w' : World} {v : Value} {ts : List (List Int)} (h : RR b w v ts) (l : Below w.heap.size w w') : RR b w' v ts := ⟨Kd.R_below h.r l⟩
theorem RR.grown {b : Nat} {w w' : World} {v : Value} {ts : List (List Int)} {g : Nat} (h : RR b w v ts) (hg : w.grownBy w' (some g)) (p : ∃ cs t, w.heap[g]? = some (.cells cs t (0, 0)) ∧ 22 ≠ t ∧ 3 ≠ t) : RR b w' v ts := by
  obtain ⟨cs, t, hb, h1, h2⟩ := p
  refine ⟨E.R_over h.r hb (fun q hq => ?_) hg⟩
  rcases List.mem_cons.mp hq with rfl | hq
  · exact h1
  · rcases List.mem_cons.mp hq with rfl | hq
    · exact h2
    · cases hq
end Go.Proofs.Ytiplichdhcmjdaa.T
namespace Go.Proofs.Ytiplichdhcmjdaa.T
open Go.RowKit Go.Proofs.YtiplichdhcmjdaaW.PrintWords Go.Proofs.YtiplichdhcmjdaaW.PrintMore
open Go.Proofs.Ytiplichdhcmjdaa.P
set_option linter.unusedVariables false
set_option linter.unusedSimpArgs false

set_option maxRecDepth 100000 in
theorem lit42 (A : Option Addr) (n c : Nat) (W : World) : (Instr.buildSlice 42 1 #[(0, .slice A n c)]).run Try.prog W = .ok (.slice (some ⟨W.heap.size, 0, none⟩) 1 1) (W.alloc (.cells #[.slice A n c] 22 (0, 0))) := by
  have hu42 := Try.underlying42
  have hu22 := Try.underlying22
  go_simp
theorem info22b : (Try.prog.info? 22).map (fun i => (i.zero, i.size, i.bytes)) = some (some (.slice none 0 0), 1, 24) := by kernel_rfl
end Go.Proofs.Ytiplichdhcmjdaa.T
namespace Go.Proofs.Ytiplichdhcmjdaa.T
open Go.RowKit Go.Proofs.YtiplichdhcmjdaaW.PrintWords Go.Proofs.YtiplichdhcmjdaaW.PrintMore
open Go.Proofs.Ytiplichdhcmjdaa.P
set_option linter.unusedVariables false
set_option linter.unusedSimpArgs false
/-- A row in which the first numbers are told anew. -/
def mx2 (n : Nat) (a b : Bl) (s : Nat) : List Int := (List.range n).map (fun j => if j < s then b.get j else a.get j)
theorem tb_rng {n : Nat} (h : n ≤ 3) (b : Bl) : (List.range n).map (fun j => b.get j) = tb n b := by
  have hc : n = 0 ∨ n = 1 ∨ n = 2 ∨ n = 3 := by omega
  rcases hc with rfl | rfl | rfl | rfl <;> rfl
theorem mx2_first {n : Nat} (h : n ≤ 3) (a b : Bl) : mx2 n a b 0 = tb n a := by rw [← tb_rng h]; simp [mx2]
theorem mx2_last {n s : Nat} (h : n ≤ 3) (hs : n ≤ s) (a b : Bl) : mx2 n a b s = tb n b := by
  rw [← tb_rng h]
  unfold mx2
  refine List.map_congr_left fun j hj => ?_
  rw [if_pos (by have := List.mem_range.mp hj; omega)]
theorem mx2_at {n s : Nat} (h : s < n) (a b : Bl) : (mx2 n a b s)[s]? = some (a.get s) := by
  unfold mx2
  simp [h]
theorem mx2_set {n s : Nat} (h : s < n) (a b : Bl) : (mx2 n a b s).set s (b.get s) = mx2 n a b (s + 1) := by
  refine List.ext_getElem? fun j => ?_
  by_cases e : j = s
  · subst e
    rw [List.getElem?_set_self (by simp [mx2, h])]
    unfold mx2
    simp [h]
  · rw [List.getElem?_set_ne (Ne.symm e)]
    unfold mx2
    by_cases hj : j < n
    · simp only [List.getElem?_map, List.getElem?_range hj, Option.map_some]
      by_cases q : j < s
      · rw [if_pos q, if_pos (by omega)]
      · rw [if_neg q, if_neg (by omega)]
    · rw [List.getElem?_eq_none (by simp; omega), List.getElem?_eq_none (by simp; omega)]
def Bl.sub (a b : Bl) : Bl := ⟨a.f0 - b.f0, a.f1 - b.f1, a.f2 - b.f2⟩
/-- Nothing behind the shows that there are. -/
def Fin (n : Nat) (b : Bl) : Prop := (n ≤ 1 → b.f1 = 0) ∧ (n ≤ 2 → b.f2 = 0)
theorem Fin.bl_tb {n : Nat} {b : Bl} (h1 : 1 ≤ n) (h3 : n ≤ 3) (h : Fin n b) : bl (tb n b) = b := by
  have hc : n = 1 ∨ n = 2 ∨ n = 3 := by omega
  rcases hc with rfl | rfl | rfl
  · exact Bl.ext' rfl (h.1 (by omega)).symm (h.2 (by omega)).symm
  · exact Bl.ext' rfl rfl (h.2 (by omega)).symm
  · rfl
theorem fin_bl {l : List Int} {n : Nat} (h : l.length = n) : Fin n (bl l) := by
  subst h
  refine ⟨fun h => ?_, fun h => ?_⟩
  · show l.getD 1 0 = 0
    exact getD_past (by omega)
  · show l.getD 2 0 = 0
    exact getD_past (by omega)
theorem tb_bl' {l : List Int} {n : Nat} (h : l.length = n) (h3 : n ≤ 3) : tb n (bl l) = l := by subst h; exact bl_tb h3
/-- A row that a till can have sold. -/
def OkRow (V : Ev) (k : Nat) (l : List Int) : Prop := l.length = V.ps.length ∧ AllR l 0 20 ∧ sumL l = rl (ct V k)
def IsT (V : Ev) (ts : List (List Int)) : Prop := ts.length = V.cs.length ∧ (∀ k l, ts[k]? = some l → OkRow V k l) ∧ sumT (ts.map bl) = bl V.qs
theorem okRow_iff {V : Ev} (ok : VOk V) {k : Nat} (hk : k < V.cs.length) {l : List Int} : OkRow V k l ↔ ∃ b, Way V.ps.length (rl (ct V k)) b ∧ l = tb V.ps.length b := by
  have h1 := ok.n1
  have h3 := ok.n3
  constructor
  · rintro ⟨q1, q2, q3⟩
    refine ⟨bl l, ⟨?_, ?_, ?_, (fin_bl q1).1, (fin_bl q1).2, ?_⟩, (tb_bl' q1 h3).symm⟩
    · exact (small_bl q2 (by decide) 0 (by decide)).1
    · exact (small_bl q2 (by decide) 1 (by decide)).1
    · exact (small_bl q2 (by decide) 2 (by decide)).1
    · rw [← sumL_bl (by omega)]; exact q3
  · rintro ⟨b, hb, rfl⟩
    have hs := way_small hb (rl_20 ok hk)
    refine ⟨tb_len h3 b, fun x hx => ?_, ?_⟩
    · obtain ⟨j, hj⟩ := List.mem_iff_getElem?.mp hx
      have hjl := (List.getElem?_eq_some_iff.1 hj).1
      rw [tb_len h3] at hjl
      rw [tb_at hjl h3] at hj
      obtain rfl := Option.some.inj hj
      exact hs j (by omega)
    · rw [sumL_bl (by rw [tb_len h3]; exact h3), tb_bl h1 h3 hb]
      exact hb.2.2.2.2.2
theorem isT_of {V : Ev} (ok : VOk V) {t : List Bl} (h : Truth V t) : IsT V (t.map (tb V.ps.length)) := by
  have hm : (t.map (tb V.ps.length)).map bl = t := by
    rw [List.map_map]
    refine List.ext_getElem? fun j => ?_
    rw [List.getElem?_map]
    cases hj : t[j]? with
    | none => rfl
    | some b =>
      have hw := Ws_get h.2.1 hj
      exact congrArg some (tb_bl ok.n1 ok.n3 hw)
  refine ⟨by rw [List.length_map]; exact h.1, fun k l hk => ?_, by rw [hm]; exact h.2.2⟩
  rw [List.getElem?_map] at hk
  obtain ⟨b, hb, rfl⟩ := Option.map_eq_some_iff.1 hk
  have hlt := (List.getElem?_eq_some_iff.1 hb).1
  rw [h.1] at hlt
  have hw := Ws_get h.2.1 hb
  rw [Nat.zero_add] at hw
  exact (okRow_iff ok hlt).mpr ⟨b, hw, rfl⟩
/-- The ways to split. -/
def splL : List Int → Nat → List (List Int)
  | [], k => if k = 0 then [[]] else []
  | x :: l, k => (List.range (min k x.toNat + 1)).flatMap (fun (j : Nat) => (splL l (k - j)).map (fun r => (j : Int) :: r))
theorem sum_nn : ∀ {l : List Int}, (∀ i, 0 ≤ l.getD i 0) → 0 ≤ l.sum
  | [], _ => by simp
  | a :: l, h => by
    have h0 : 0 ≤ a := h 0
    have h1 := sum_nn (l := l) (fun i => h (i + 1))
    rw [List.sum_cons]
    omega
theorem mem_splL : ∀ {left : List Int} {k : Nat} {l : List Int}, (∀ x ∈ left, 0 ≤ x) → (l ∈ splL left k ↔ l.length = left.length ∧ (∀ i, 0 ≤ l.getD i 0 ∧ l.getD i 0 ≤ left.getD i 0) ∧ l.sum = k)
  | [], k, l, _ => by
    unfold splL
    constructor
    · intro h
      split at h
      · next hk => rw [List.mem_singleton] at h; subst h; exact ⟨rfl, fun i => by simp, by simp [hk]⟩
      · cases h
    · rintro ⟨h1, _, h3⟩
      obtain rfl := List.eq_nil_of_length_eq_zero h1
      rw [if_pos (by simp at h3; omega)]
      exact List.mem_singleton.mpr rfl
  | x :: left, k, l, hx => by
    have hx0 := hx x List.mem_cons_self
    have ih : ∀ {k : Nat} {l : List Int}, l ∈ splL left k ↔ _ := mem_splL (left := left) (fun y hy => hx y (List.mem_cons_of_mem _ hy))
    unfold splL
    rw [List.mem_flatMap]
    constructor
    · rintro ⟨j, hj, h⟩
      rw [List.mem_range] at hj
      obtain ⟨r, hr, rfl⟩ := List.mem_map.mp h
      obtain ⟨a, b, c⟩ := ih.mp hr
      refine ⟨by simp [a], fun i => ?_, by rw [List.sum_cons, c]; omega⟩
      cases i with
      | zero => show 0 ≤ (j : Int) ∧ (j : Int) ≤ x; omega
      | succ i => exact b i
    · rintro ⟨h1, h2, h3⟩
      rcases l with _ | ⟨a, r⟩
      · simp at h1
      have ha : 0 ≤ a ∧ a ≤ x := h2 0
      have hr := sum_nn (l := r) (fun i => (h2 (i + 1)).1)
      rw [List.sum_cons] at h3
      refine ⟨a.toNat, List.mem_range.mpr (by omega), List.mem_map.mpr ⟨r, ih.mpr ⟨by simpa using h1, fun i => h2 (i + 1), by omega⟩, by rw [Int.toNat_of_nonneg ha.1]⟩⟩
theorem flen {α β : Type} {f : α → List β} {c : Nat} : ∀ {l : List α}, (∀ x ∈ l, (f x).length ≤ c) → (l.flatMap f).length ≤ l.length * c
  | [], _ => by simp
  | a :: l, h => by
    have h0 := h a List.mem_cons_self
    have h1 := flen (l := l) (fun x hx => h x (List.mem_cons_of_mem _ hx))
    rw [List.flatMap_cons, List.length_append, List.length_cons, Nat.add_mul]
    omega
theorem splL_len0 (k : Nat) : (splL [] k).length ≤ 1 := by unfold splL; split <;> simp
theorem splL_len1 (x : Int) (k : Nat) : (splL [x] k).length ≤ 1 := by
  show ((List.range (min k x.toNat + 1)).flatMap (fun (j : Nat) => (splL [] (k - j)).map (fun r => (j : Int) :: r))).length ≤ 1
  rw [List.range_succ, List.flatMap_append, List.flatMap_eq_nil_iff.mpr (fun j hj => by
    have := List.mem_range.mp hj
    unfold splL
    rw [if_neg (by omega)]
    rfl)]
  rw [List.nil_append, List.flatMap_cons, List.flatMap_nil, List.append_nil, List.length_map]
  exact splL_len0 _
theorem splL_mono {x : Int} {l : List Int} {k c : Nat} (h : ∀ j, j ≤ k → (splL l j).length ≤ c) : (splL (x :: l) k).length ≤ (k + 1) * c := by
  show ((List.range (min k x.toNat + 1)).flatMap (fun (j : Nat) => (splL l (k - j)).map (fun r => (j : Int) :: r))).length ≤ _
  refine Nat.le_trans (flen (c := c) fun j _ => by rw [List.length_map]; exact h _ (by omega)) ?_
  rw [List.length_range]
  exact Nat.mul_le_mul_right _ (by omega)
theorem splL_len {l : List Int} {k : Nat} (h3 : l.length ≤ 3) (hk : k ≤ 20) : (splL l k).length ≤ 441 := by
  rcases l with _ | ⟨a, _ | ⟨b, _ | ⟨c, _ | ⟨d, l⟩⟩⟩⟩
  · have := splL_len0 k; omega
  · have := splL_len1 a k; omega
  · have := splL_mono (x := a) (l := [b]) (k := k) (c := 1) (fun j _ => splL_len1 b j); omega
  · have := splL_mono (x := a) (l := [b, c]) (k := k) (c := 21) (fun j hj => by have := splL_mono (x := b) (l := [c]) (k := j) (c := 1) (fun i _ => splL_len1 c i); omega); omega
  · simp at h3
/-- The truths of the tills from i on, with at most so many flaws. -/
def trL (V : Ev) : Nat → Nat → Int → Bl → List (List (List Int))
  | 0, _, _, q => if sumL (tb V.ps.length q) = 0 then [[]] else []
  | k + 1, i, F, q => (splL (tb V.ps.length q) (rl (ct V i)).toNat).flatMap (fun w => if F < fl V (ct V i) (bl w) then [] else (trL V k (i + 1) (F - fl V (ct V i) (bl w)) (q.sub (bl w))).map (fun r => w :: r))
theorem trL_len {V : Ev} (ok : VOk V) : ∀ (k i : Nat) (F : Int) (q : Bl), i + k ≤ V.cs.length → (trL V k i F q).length ≤ 441 ^ k
  | 0, i, F, q, _ => by unfold trL; split <;> simp
  | k + 1, i, F, q, hk => by
    show (List.flatMap _ _).length ≤ _
    have h3 := ok.n3
    have hr := rl_20 ok (show i < V.cs.length by omega)
    have h1 := splL_len (l := tb V.ps.length q) (k := (rl (ct V i)).toNat) (by rw [tb_len h3]; exact h3) (by omega)
    refine Nat.le_trans (flen (c := 441 ^ k) fun w _ => ?_) ?_
    · split
      · simp
      · rw [List.length_map]; exact trL_len ok k (i + 1) _ _ (by omega)
    · rw [Nat.pow_succ, Nat.mul_comm (441 ^ k)]
      exact Nat.mul_le_mul_right _ h1
structure Nn (n : Nat) (q : Bl) : Prop where
  a : 0 ≤ q.f0
  b : 0 ≤ q.f1
  c : 0 ≤ q.f2
  f : Fin n q
theorem tb_getD {n : Nat} {b : Bl} (h3 : n ≤ 3) (hf : Fin n b) (h1 : 1 ≤ n) (i : Nat) (hi : i < 3) : (tb n b).getD i 0 = b.get i := by
  rw [← bl_get _ hi, Fin.bl_tb h1 h3 hf]
theorem mem_trL {V : Ev} (ok : VOk V) : ∀ {k i : Nat} {F : Int} {q : Bl} {ts : List (List Int)}, i + k = V.cs.length → 0 ≤ F → Nn V.ps.length q → (ts ∈ trL V k i F q ↔ ∃ t : List Bl, t.length = k ∧ Ws V i t ∧ sumT t = q ∧ flT V i t ≤ F ∧ ts = t.map (tb V.ps.length))
  | 0, i, F, q, ts, _, hF, hq => by
    have h1 := ok.n1
    have h3 := ok.n3
    unfold trL
    rw [sumL_bl (by rw [tb_len h3]; exact h3), Fin.bl_tb h1 h3 hq.f]
    constructor
    · intro h
      split at h
      · next hs =>
        rw [List.mem_singleton] at h
        subst h
        unfold Bl.sum at hs
        have := hq.a; have := hq.b; have := hq.c
        exact ⟨[], rfl, trivial, (Bl.ext' (show (0 : Int) = _ by omega) (show (0 : Int) = _ by omega) (show (0 : Int) = _ by omega)), hF, rfl⟩
      · cases h
    · rintro ⟨t, ht, _, hs, _, rfl⟩
      obtain rfl := List.eq_nil_of_length_eq_zero ht
      rw [if_pos (by rw [← hs]; rfl)]
      exact List.mem_singleton.mpr rfl
  | k + 1, i, F, q, ts, hk, hF, hq => by
    have h1 := ok.n1
    have h3 := ok.n3
    have hi : i < V.cs.length := by omega
    have hr0 := rl_0 ok hi
    have hlen := tb_len h3 q
    have hnn : ∀ x ∈ tb V.ps.length q, 0 ≤ x := fun x hx => by
      obtain ⟨j, hj⟩ := List.mem_iff_getElem?.mp hx
      have hjl := (List.getElem?_eq_some_iff.1 hj).1
      rw [hlen] at hjl
      rw [tb_at hjl h3] at hj
      obtain rfl := Option.some.inj hj
      have hj3 : j = 0 ∨ j = 1 ∨ j = 2 := by omega
      rcases hj3 with rfl | rfl | rfl
      · exact hq.a
      · exact hq.b
      · exact hq.c
    show ts ∈ List.flatMap _ _ ↔ _
    rw [List.mem_flatMap]
    constructor
    · rintro ⟨w, hw, h⟩
      obtain ⟨a1, a2, a3⟩ := (mem_splL hnn).mp hw
      rw [hlen] at a1
      split at h
      · cases h
      next hfl =>
      obtain ⟨r, hr, rfl⟩ := List.mem_map.mp h
      have hfw := fin_bl a1
      have g : ∀ j, j < 3 → 0 ≤ (bl w).get j ∧ (bl w).get j ≤ q.get j := fun j hj => by
        have := a2 j
        rw [tb_getD h3 hq.f h1 j hj] at this
        rw [bl_get _ hj]
        exact this
      have g0 := g 0 (by decide)
      have g1 := g 1 (by decide)
      have g2 := g 2 (by decide)
      have hway : Way V.ps.length (rl (ct V i)) (bl w) := by
        refine ⟨g0.1, g1.1, g2.1, hfw.1, hfw.2, ?_⟩
        have hw3 : w.length ≤ 3 := by omega
        have e : (bl w).sum = w.sum := by
          rcases w with _ | ⟨a, _ | ⟨b, _ | ⟨c, _ | ⟨d, l⟩⟩⟩⟩
          · rfl
          · simp [bl, Bl.sum]
          · simp [bl, Bl.sum]
          · simp [bl, Bl.sum]; omega
          · simp at hw3
        rw [e, a3]
        omega
      obtain ⟨t, b1, b2, b3, b4, rfl⟩ := (mem_trL ok (k := k) (i := i + 1) (by omega) (by omega) ⟨show 0 ≤ q.f0 - (bl w).f0 from Int.sub_nonneg.mpr g0.2, show 0 ≤ q.f1 - (bl w).f1 from Int.sub_nonneg.mpr g1.2, show 0 ≤ q.f2 - (bl w).f2 from Int.sub_nonneg.mpr g2.2, ⟨fun hn => by show q.f1 - (bl w).f1 = 0; rw [hq.f.1 hn, hfw.1 hn]; rfl, fun hn => by show q.f2 - (bl w).f2 = 0; rw [hq.f.2 hn, hfw.2 hn]; rfl⟩⟩).mp hr
      refine ⟨bl w :: t, by simp [b1], ⟨hway, b2⟩, ?_, by rw [flT]; omega, by rw [List.map_cons, tb_bl' a1 h3]⟩
      rw [sumT, b3]
      exact Bl.ext' (show (bl w).f0 + (q.f0 - (bl w).f0) = q.f0 by omega) (show (bl w).f1 + (q.f1 - (bl w).f1) = q.f1 by omega) (show (bl w).f2 + (q.f2 - (bl w).f2) = q.f2 by omega)
    · rintro ⟨t, b1, b2, b3, b4, rfl⟩
      rcases t with _ | ⟨b, t⟩
      · simp at b1
      obtain ⟨hb, hws⟩ := b2
      have hnt := Ws_nonneg hws
      rw [sumT] at b3
      rw [flT] at b4
      have hf0 := (flT_01 V t (i + 1)).1
      have e0 : b.f0 + (sumT t).f0 = q.f0 := by rw [← b3]; rfl
      have e1 : b.f1 + (sumT t).f1 = q.f1 := by rw [← b3]; rfl
      have e2 : b.f2 + (sumT t).f2 = q.f2 := by rw [← b3]; rfl
      have hbt := tb_bl h1 h3 hb
      have hbf : Fin V.ps.length b := ⟨hb.2.2.2.1, hb.2.2.2.2.1⟩
      refine ⟨tb V.ps.length b, (mem_splL hnn).mpr ⟨by rw [tb_len h3, hlen], fun j => ?_, ?_⟩, ?_⟩
      · by_cases hj : j < 3
        · rw [tb_getD h3 hbf h1 j hj, tb_getD h3 hq.f h1 j hj]
          have hj3 : j = 0 ∨ j = 1 ∨ j = 2 := by omega
          rcases hj3 with rfl | rfl | rfl
          · exact ⟨hb.1, show b.f0 ≤ q.f0 by omega⟩
          · exact ⟨hb.2.1, show b.f1 ≤ q.f1 by omega⟩
          · exact ⟨hb.2.2.1, show b.f2 ≤ q.f2 by omega⟩
        · rw [getD_past (by rw [tb_len h3]; omega), getD_past (by rw [hlen]; omega)]
          omega
      · have e : (tb V.ps.length b).sum = b.sum := by
          have hc : V.ps.length = 1 ∨ V.ps.length = 2 ∨ V.ps.length = 3 := by omega
          obtain ⟨q1, q2⟩ := hbf
          rcases hc with hc | hc | hc <;> rw [hc] at q1 q2 ⊢
          · have := q1 (by omega); have := q2 (by omega); simp [tb, Bl.sum]; omega
          · have := q2 (by omega); simp [tb, Bl.sum]; omega
          · simp [tb, Bl.sum]; omega
        rw [e, hb.2.2.2.2.2]
        omega
      · rw [hbt, if_neg (by omega)]
        refine List.mem_map.mpr ⟨t.map (tb V.ps.length), (mem_trL ok (k := k) (i := i + 1) (by omega) (by omega) ⟨show 0 ≤ q.f0 - b.f0 by omega, show 0 ≤ q.f1 - b.f1 by omega, show 0 ≤ q.f2 - b.f2 by omega, ⟨fun hn => by show q.f1 - b.f1 = 0; rw [hq.f.1 hn, hbf.1 hn]; rfl, fun hn => by show q.f2 - b.f2 = 0; rw [hq.f.2 hn, hbf.2 hn]; rfl⟩⟩).mpr ⟨t, by simpa using b1, hws, ?_, by omega, rfl⟩, rfl⟩
        exact Bl.ext' (show (sumT t).f0 = q.f0 - b.f0 by omega) (show (sumT t).f1 = q.f1 - b.f1 by omega) (show (sumT t).f2 = q.f2 - b.f2 by omega)
end Go.Proofs.Ytiplichdhcmjdaa.T
namespace Go.Proofs.Ytiplichdhcmjdaa.T
open Go.RowKit Go.Proofs.YtiplichdhcmjdaaW.PrintWords Go.Proofs.YtiplichdhcmjdaaW.PrintMore
open Go.Proofs.Ytiplichdhcmjdaa.P
set_option linter.unusedVariables false
set_option linter.unusedSimpArgs false

theorem row_at {w : World} {A : Option Addr} {n : Nat} {ts : List (List Int)} (h : Kd.C kR w A n ts) {i : Nat} {l : List Int} (hi : ts[i]? = some l) : ∃ ad a0 k0, A = some ad ∧ w.cell? (ad.add (i * 1)) = some (.slice a0 l.length k0) ∧ Kd.C kI w a0 l.length l := by
  have hil : i < ts.length := (List.getElem?_eq_some_iff.1 hi).1
  have hn := Kd.C_len h
  obtain ⟨ad, c, e, _, hK, hc0⟩ := Kd.C_get h l (i : Int) (by omega) (by omega)
  have hx : ts.getD i l = l := by simp [List.getD_eq_getElem?_getD, hi]
  rw [Int.toNat_natCast, hx] at hK
  rw [Int.toNat_natCast] at hc0
  obtain ⟨a0, k0, rfl, _, hl⟩ := hK
  exact ⟨ad, a0, k0, e, hc0 0 _ rfl, hl⟩
theorem tb_z {n : Nat} (h : n ≤ 3) : List.replicate n (0 : Int) = tb n Bl.z := by
  have hc : n = 0 ∨ n = 1 ∨ n = 2 ∨ n = 3 := by omega
  rcases hc with rfl | rfl | rfl | rfl <;> rfl
def preS (ts : List (List Int)) (i : Nat) : Bl := sumT ((ts.take i).map bl)
theorem preS_next {ts : List (List Int)} {i : Nat} {l : List Int} (h : ts[i]? = some l) : preS ts (i + 1) = (preS ts i).add (bl l) := by
  unfold preS
  rw [List.take_add_one, h, Option.toList_some, List.map_append, sumT_append]
  show _ = Bl.add _ _
  rw [show sumT (([l] : List (List Int)).map bl) = bl l from Bl.add_z _]
theorem preS_end {ts : List (List Int)} {i : Nat} (h : ts.length ≤ i) : preS ts i = sumT (ts.map bl) := by unfold preS; rw [List.take_of_length_le h]
theorem sum_small {L : List (List Int)} (h : ∀ l ∈ L, AllR l 0 20) : SmallB (sumT (L.map bl)) (20 * L.length) := by
  induction L with
  | nil => intro j hj; have hj3 : j = 0 ∨ j = 1 ∨ j = 2 := by omega
           rcases hj3 with rfl | rfl | rfl <;> exact ⟨Int.le_refl _, Int.le_refl _⟩
  | cons l L ih =>
    intro j hj
    have h1 := ih (fun k hk => h k (List.mem_cons_of_mem _ hk)) j hj
    have h2 := small_bl (h l List.mem_cons_self) (by decide) j hj
    rw [List.map_cons, sumT, get_add, List.length_cons]
    push_cast
    omega
theorem preS_small {V : Ev} {ts : List (List Int)} {i : Nat} (h : ∀ k, k < i → ∀ l, ts[k]? = some l → OkRow V k l) : SmallB (preS ts i) (20 * i) := by
  have := sum_small (L := ts.take i) fun l hl => by
    obtain ⟨k, hk⟩ := List.mem_iff_getElem?.mp hl
    have hki : k < i := by have := (List.getElem?_eq_some_iff.1 hk).1; rw [List.length_take] at this; omega
    rw [List.getElem?_take_of_lt hki] at hk
    exact (h k hki l hk).2.1
  exact this.up (by rw [List.length_take]; omega)
theorem same_rN (l k : List Int) (n : Nat) (hn : l.length = n) (A A1 : Option Addr) (c c1 : Nat) (w : World) (r : Bool) (hb : r = true ↔ l = k) (h1 : Kd.C kI w A l.length l) (h2 : Kd.C kI w A1 k.length k) (hl : n ≤ 1000000) :
    Calls Try.prog 59 #[.slice A n c, .slice A1 k.length c1] w fun e w' => e = .returned (.bool r) ∧ Below w.heap.size w w' := by
  subst hn
  exact same_r l k A A1 c c1 w r hb h1 h2 hl
theorem fin_add {n : Nat} {a b : Bl} (ha : Fin n a) (hb : Fin n b) : Fin n (a.add b) := ⟨fun h => by show a.f1 + b.f1 = 0; rw [ha.1 h, hb.1 h]; rfl, fun h => by show a.f2 + b.f2 = 0; rw [ha.2 h, hb.2 h]; rfl⟩
theorem fin_sum {n : Nat} {L : List (List Int)} (h : ∀ l ∈ L, l.length = n) : Fin n (sumT (L.map bl)) := by
  induction L with
  | nil => exact ⟨fun _ => rfl, fun _ => rfl⟩
  | cons l L ih => exact fin_add (fin_bl (h l List.mem_cons_self)) (ih fun k hk => h k (List.mem_cons_of_mem _ hk))
theorem isT_iff {V : Ev} (ok : VOk V) {ts : List (List Int)} (h1 : ts.length = V.cs.length) (h2 : ∀ k, k < ts.length → ∀ l, ts[k]? = some l → OkRow V k l) : IsT V ts ↔ tb V.ps.length (preS ts ts.length) = V.qs := by
  have hf : Fin V.ps.length (sumT (ts.map bl)) := fin_sum fun l hl => by
    obtain ⟨k, hk⟩ := List.mem_iff_getElem?.mp hl
    exact (h2 k (List.getElem?_eq_some_iff.1 hk).1 l hk).1
  rw [preS_end (Nat.le_refl _)]
  constructor
  · rintro ⟨_, _, h3⟩
    rw [h3]
    exact tb_bl' ok.nq ok.n3
  · intro h
    refine ⟨h1, fun k l hk => h2 k (List.getElem?_eq_some_iff.1 hk).1 l hk, ?_⟩
    rw [← h, Fin.bl_tb ok.n1 ok.n3 hf]
set_option maxRecDepth 100000 in
set_option maxHeartbeats 8000000 in

theorem isTruth_calls (V : Ev) (m : Ea) (ts : List (List Int)) (AT : Option Addr) (kT : Nat) (w : World) (hV : EvM w V m) (ok : VOk V) (hT : Kd.C kR w AT ts.length ts) (r : Bool) (hr : r = true ↔ IsT V ts) :
    Calls Try.prog 18 #[hv V m, .slice AT ts.length kT] w fun e w' => e = .returned (.bool r) ∧ Below w.heap.size w w' := by
  have hsc := ok.sz.c
  have hp3 := ok.n3
  have hnq := ok.nq
  have hc4 := ok.c4
  have hu3 := Try.underlying3
  have hu22 := Try.underlying22
  have hu23 := Try.underlying23
  have hu25 := Try.underlying25
  have hu40 := Try.underlying40
  have hu42 := Try.underlying42
  obtain ⟨z3, o3⟩ := info_some info3s (by decide)
  obtain ⟨z22, o22⟩ := info_some info22s (by decide)
  obtain ⟨z23, o23⟩ := info_some info23s (by decide)
  obtain ⟨z25, o25⟩ := info_some info25s (by decide)
  obtain ⟨z40, o40⟩ := info_some info40s (by decide)
  refine E.enter (N := 78) Try.func18 rfl Try.ntmps18 (args := [hv V m, .slice AT ts.length kT]) (by simp) ?_
  have L := Below.refl w.heap.size w
  refine E.CG.seq ?_
  refine E.CG.list ?_
  refine E.GL.st rfl rfl rfl (E.ST.box rfl rfl fun g2 w2 e2 b2 l2 => ?_)
  have h2_L : w.heap.size ≤ g2 := by rw [e2]; exact L.size
  replace L := below_step L l2
  refine E.GL.run rfl rfl rfl (E.Runs.assign rfl rfl) ?_
  refine E.GL.done ?_
  refine E.QG.code ?_
  refine E.CG.seq ?_
  refine E.CG.seq ?_
  refine E.CG.list ?_
  refine E.GL.run rfl rfl rfl (E.Runs.move rfl rfl) ?_
  refine E.GL.run rfl rfl rfl (E.Runs.len rfl rfl hu42) ?_
  refine E.GL.run rfl rfl rfl (E.Runs.fieldAddr rfl rfl hu25 rfl (by assumption) rfl) ?_
  refine E.GL.run rfl rfl rfl (E.Runs.load1 rfl rfl hu23 rfl (by first | assumption | exact E.blkc (by assumption) rfl | exact pw_cell_below L (by assumption))) ?_
  refine E.GL.run rfl rfl rfl (E.Runs.len rfl rfl hu23) ?_
  refine E.GL.cmpn rfl rfl rfl (fun _ h => (E.Runs.neq rfl rfl rfl h)) (fun h13 => ?_) (fun h13 => ?_)
  · refine E.GL.done ?_
    refine E.QG.code ?_
    refine E.CG.cond_t rfl ?_
    refine E.CG.seq ?_
    refine E.CG.list ?_
    refine E.GL.run rfl rfl rfl (E.Runs.assign rfl rfl) ?_
    refine E.GL.done ?_
    refine E.QG.code ?_
    refine E.CG.ret ?_
    refine E.QG.pass_ret ?_
    exact E.QG.result rfl rfl ⟨by rw [bool_no hr (fun k => h13 (by rw [k.1]))], L⟩
  · refine E.GL.done ?_
    refine E.QG.code ?_
    refine E.CG.cond_f rfl ?_
    refine E.CG.skip ?_
    refine E.QG.code ?_
    refine E.CG.seq ?_
    refine E.CG.list ?_
    refine E.GL.run rfl rfl rfl (E.Runs.fieldAddr rfl rfl hu25 rfl (by assumption) rfl) ?_
    refine E.GL.run rfl rfl rfl (E.Runs.load1 rfl rfl hu22 rfl (by first | assumption | exact E.blkc (by assumption) rfl | exact pw_cell_below L (by assumption))) ?_
    refine E.GL.run rfl rfl rfl (E.Runs.len rfl rfl hu22) ?_
    refine E.GL.st rfl rfl rfl (E.ST.makeR kI w.heap.size 3 rfl rfl rfl rfl hu22 (.int .i64 0) 8 info3 rfl (by decide) (by decide) 0 rfl (by omega) L L.size fun v17 w17 r17 k17 l17 o17 => ?_)
    replace L := k17
    obtain ⟨A5, c5, hv17⟩ := Kd.R_slice r17
    rw [List.length_replicate, hnq] at hv17
    subst hv17
    rw [hnq, tb_z hp3] at r17
    replace b2 := blk_below b2 l17
    clear k17 o17 l17
    refine E.GL.run rfl rfl rfl (E.Runs.assign rfl rfl) ?_
    refine E.GL.done ?_
    refine E.QG.code ?_
    refine E.CG.seq ?_
    refine E.CG.seq ?_
    refine E.CG.list ?_
    refine E.GL.run rfl rfl rfl (E.Runs.assign rfl rfl) ?_
    refine E.GL.done ?_
    refine E.QG.code ?_
    refine E.CG.block ?_
    have s5_b2 := b2
    have s5_L := L
    refine E.CG.loop (fun (i : Nat) => [(1, .slice AT ts.length kT), (2, .pointer (some ⟨g2, 0, none⟩)), (5, .slice A5 V.ps.length c5), (6, .int .i64 i)]) (fun i w' => i ≤ ts.length ∧ (∀ k, k < i → ∀ l, ts[k]? = some l → OkRow V k l) ∧ w'.heap[g2]? = some (.cells #[.slice m.A V.ps.length m.a, .slice m.B V.qs.length m.b, .slice m.C V.ts.length m.c, .slice m.D V.cs.length m.d] 25 (0, 0)) ∧ Kd.R kI 3 w' w.heap.size (fun _ => True) (.slice A5 V.ps.length c5) (tb V.ps.length (preS ts i)) ∧ Below w.heap.size w w') (fun i => ts.length - i) 0 (E.subc rfl (E.subc rfl (E.subc rfl (E.subc rfl E.subn)))) ⟨Nat.zero_le _, fun k hk => by omega, b2, r17, L⟩ ?_
    rintro i w5 ⟨hi, hk, b2, r17, L⟩
    refine E.CG.seq ?_
    refine E.CG.seq ?_
    refine E.CG.list ?_
    refine E.GL.run rfl rfl rfl (E.Runs.move rfl rfl) ?_
    refine E.GL.run rfl rfl rfl (E.Runs.move rfl rfl) ?_
    refine E.GL.run rfl rfl rfl (E.Runs.len rfl rfl hu42) ?_
    refine E.GL.cmp rfl rfl rfl (fun _ h => (E.Runs.lss rfl rfl rfl h)) (fun h21 => ?_) (fun h21 => ?_)
    · obtain ⟨l, hl⟩ := get_ex (show i < ts.length by omega)
      obtain ⟨ar, al, kl, eR, XR, hlC⟩ := row_at hT hl
      obtain ⟨c, hc⟩ := get_ex (show i < V.cs.length by omega)
      have hct := ct_of hc
      have hcok := ok.c c (List.mem_of_getElem? hc)
      obtain ⟨q1, q2, q3, q4, q5, q6, q7, q8⟩ := hcok
      obtain ⟨ad, a0, k0, eA, _, hx0, X⟩ := till_at hV.cs hc
      refine E.GL.done ?_
      refine E.QG.code ?_
      refine E.CG.cond_t rfl ?_
      refine E.CG.skip ?_
      refine E.QG.code ?_
      refine E.CG.seq ?_
      refine E.CG.block ?_
      refine E.CG.seq ?_
      refine E.CG.seq ?_
      refine E.CG.heldH (none) (by kernel_rfl) fun v7 lD hh => ?_
      replace b2 := blk_below b2 lD
      replace r17 := Kd.R_below r17 lD
      replace L := below_step L lD
      clear lD
      have s_b2 := b2
      have s_L := L
      refine E.GH.take (i := 0) rfl (by kernel_rfl) (by kernel_rfl) (by kernel_rfl) (by intro c a d v w h; first | (cases d <;> exact h) | exact nomatch (show _ ∧ _ from h).1) rfl rfl rfl (fun w' hS => (E.Runs.move rfl rfl)) ?_
      refine E.GH.take (i := 1) rfl (by kernel_rfl) (by kernel_rfl) (by kernel_rfl) (by intro c a d v w h; first | (cases d <;> exact h) | exact nomatch (show _ ∧ _ from h).1) rfl rfl rfl (fun w' hS => (E.Runs.move rfl rfl)) ?_
      refine E.GH.take (i := 2) rfl (by kernel_rfl) (by kernel_rfl) (by kernel_rfl) (by intro c a d v w h; first | (cases d <;> exact h) | exact nomatch (show _ ∧ _ from h).1) rfl rfl rfl (fun w' hS => (E.Runs.indexAddrA (i := i) rfl rfl rfl hu42 z22 o22 (by omega) eR rfl)) ?_
      refine E.GH.take (i := 3) rfl (by kernel_rfl) (by kernel_rfl) (by kernel_rfl) (by intro c a d v w h; first | (cases d <;> exact h) | exact nomatch (show _ ∧ _ from h).1) rfl rfl rfl (fun w' hS => (E.Runs.load1 rfl rfl hu22 rfl (pw_cell_below (below_step s_L (E.belowG hS)) XR))) ?_
      refine E.GH.take (i := 4) rfl (by kernel_rfl) (by kernel_rfl) (by kernel_rfl) (by intro c a d v w h; first | (cases d <;> exact h) | exact nomatch (show _ ∧ _ from h).1) rfl rfl rfl (fun w' hS => (E.Runs.len rfl rfl hu22)) ?_
      refine E.GH.take (i := 5) rfl (by kernel_rfl) (by kernel_rfl) (by kernel_rfl) (by intro c a d v w h; first | (cases d <;> exact h) | exact nomatch (show _ ∧ _ from h).1) rfl rfl rfl (fun w' hS => (E.Runs.fieldAddr rfl rfl hu25 rfl (by assumption) rfl)) ?_
      refine E.GH.take (i := 6) rfl (by kernel_rfl) (by kernel_rfl) (by kernel_rfl) (by intro c a d v w h; first | (cases d <;> exact h) | exact nomatch (show _ ∧ _ from h).1) rfl rfl rfl (fun w' hS => (E.Runs.load1 rfl rfl hu22 rfl (by first | exact E.keeps hS (E.blkc (by assumption) rfl) (by first | exact E.nen | exact E.nes (by assumption) | exact E.nes (Ne.symm (by assumption))) | exact pw_cell_below (below_step s_L (E.belowG hS)) (by assumption)))) ?_
      refine E.GH.take (i := 7) rfl (by kernel_rfl) (by kernel_rfl) (by kernel_rfl) (by intro c a d v w h; first | (cases d <;> exact h) | exact nomatch (show _ ∧ _ from h).1) rfl rfl rfl (fun w' hS => (E.Runs.len rfl rfl hu22)) ?_
      refine E.GH.cmpn (i := 8) rfl (by kernel_rfl) (by kernel_rfl) (by kernel_rfl) (by intro c a d v w h; first | (cases d <;> exact h) | exact nomatch (show _ ∧ _ from h).1) rfl rfl rfl (fun _ h w' hS => (E.Runs.neq rfl rfl rfl h)) (fun h32 => ?_) (fun h32 => ?_)
      · refine E.GH.take (i := 9) rfl (by kernel_rfl) (by kernel_rfl) (by kernel_rfl) (by intro c a d v w h; first | (cases d <;> exact h) | exact nomatch (show _ ∧ _ from h).1) rfl rfl rfl (fun w' hS => (E.Runs.move rfl rfl)) ?_
        refine E.GH.pass (i := 10) rfl (by kernel_rfl) (by kernel_rfl) (by kernel_rfl) (by intro c a d v w h; first | (cases d <;> exact h) | exact nomatch (show _ ∧ _ from h).1) rfl rfl rfl ?_
        refine E.GH.pass (i := 11) rfl (by kernel_rfl) (by kernel_rfl) (by kernel_rfl) (by intro c a d v w h; first | (cases d <;> exact h) | exact nomatch (show _ ∧ _ from h).1) rfl rfl rfl ?_
        refine E.GH.pass (i := 12) rfl (by kernel_rfl) (by kernel_rfl) (by kernel_rfl) (by intro c a d v w h; first | (cases d <;> exact h) | exact nomatch (show _ ∧ _ from h).1) rfl rfl rfl ?_
        refine E.GH.pass (i := 13) rfl (by kernel_rfl) (by kernel_rfl) (by kernel_rfl) (by intro c a d v w h; first | (cases d <;> exact h) | exact nomatch (show _ ∧ _ from h).1) rfl rfl rfl ?_
        refine E.GH.pass (i := 14) rfl (by kernel_rfl) (by kernel_rfl) (by kernel_rfl) (by intro c a d v w h; first | (cases d <;> exact h) | exact nomatch (show _ ∧ _ from h).1) rfl rfl rfl ?_
        refine E.GH.pass (i := 15) rfl (by kernel_rfl) (by kernel_rfl) (by kernel_rfl) (by intro c a d v w h; first | (cases d <;> exact h) | exact nomatch (show _ ∧ _ from h).1) rfl rfl rfl ?_
        refine E.GH.take (i := 16) rfl (by kernel_rfl) (by kernel_rfl) (by kernel_rfl) (by intro c a d v w h; first | (cases d <;> exact h) | exact nomatch (show _ ∧ _ from h).1) rfl rfl rfl (fun w' hS => (E.Runs.pick_t rfl rfl rfl)) ?_
        refine E.GH.take (i := 17) rfl (by kernel_rfl) (by kernel_rfl) (by kernel_rfl) (by intro c a d v w h; first | (cases d <;> exact h) | exact nomatch (show _ ∧ _ from h).1) rfl rfl rfl (fun w' hS => (E.Runs.move rfl rfl)) ?_
        refine E.GH.pass (i := 18) rfl (by kernel_rfl) (by kernel_rfl) (by kernel_rfl) (by intro c a d v w h; first | (cases d <;> exact h) | exact nomatch (show _ ∧ _ from h).1) rfl rfl rfl ?_
        refine E.GH.pass (i := 19) rfl (by kernel_rfl) (by kernel_rfl) (by kernel_rfl) (by intro c a d v w h; first | (cases d <;> exact h) | exact nomatch (show _ ∧ _ from h).1) rfl rfl rfl ?_
        refine E.GH.pass (i := 20) rfl (by kernel_rfl) (by kernel_rfl) (by kernel_rfl) (by intro c a d v w h; first | (cases d <;> exact h) | exact nomatch (show _ ∧ _ from h).1) rfl rfl rfl ?_
        refine E.GH.pass (i := 21) rfl (by kernel_rfl) (by kernel_rfl) (by kernel_rfl) (by intro c a d v w h; first | (cases d <;> exact h) | exact nomatch (show _ ∧ _ from h).1) rfl rfl rfl ?_
        refine E.GH.pass (i := 22) rfl (by kernel_rfl) (by kernel_rfl) (by kernel_rfl) (by intro c a d v w h; first | (cases d <;> exact h) | exact nomatch (show _ ∧ _ from h).1) rfl rfl rfl ?_
        refine E.GH.pass (i := 23) rfl (by kernel_rfl) (by kernel_rfl) (by kernel_rfl) (by intro c a d v w h; first | (cases d <;> exact h) | exact nomatch (show _ ∧ _ from h).1) rfl rfl rfl ?_
        refine E.GH.pass (i := 24) rfl (by kernel_rfl) (by kernel_rfl) (by kernel_rfl) (by intro c a d v w h; first | (cases d <;> exact h) | exact nomatch (show _ ∧ _ from h).1) rfl rfl rfl ?_
        refine E.GH.pass (i := 25) rfl (by kernel_rfl) (by kernel_rfl) (by kernel_rfl) (by intro c a d v w h; first | (cases d <;> exact h) | exact nomatch (show _ ∧ _ from h).1) rfl rfl rfl ?_
        refine E.GH.pass (i := 26) rfl (by kernel_rfl) (by kernel_rfl) (by kernel_rfl) (by intro c a d v w h; first | (cases d <;> exact h) | exact nomatch (show _ ∧ _ from h).1) rfl rfl rfl ?_
        refine E.GH.pass (i := 27) rfl (by kernel_rfl) (by kernel_rfl) (by kernel_rfl) (by intro c a d v w h; first | (cases d <;> exact h) | exact nomatch (show _ ∧ _ from h).1) rfl rfl rfl ?_
        refine E.GH.pass (i := 28) rfl (by kernel_rfl) (by kernel_rfl) (by kernel_rfl) (by intro c a d v w h; first | (cases d <;> exact h) | exact nomatch (show _ ∧ _ from h).1) rfl rfl rfl ?_
        refine E.GH.pass (i := 29) rfl (by kernel_rfl) (by kernel_rfl) (by kernel_rfl) (by intro c a d v w h; first | (cases d <;> exact h) | exact nomatch (show _ ∧ _ from h).1) rfl rfl rfl ?_
        refine E.GH.take (i := 30) rfl (by kernel_rfl) (by kernel_rfl) (by kernel_rfl) (by intro c a d v w h; first | (cases d <;> exact h) | exact nomatch (show _ ∧ _ from h).1) rfl rfl rfl (fun w' hS => (E.Runs.pick_t rfl rfl rfl)) ?_
        refine E.GH.done (by kernel_rfl) ?_
        refine E.QG.code ?_
        refine E.CG.cond_t rfl ?_
        refine E.CG.seq ?_
        refine E.CG.list ?_
        refine E.GL.run rfl rfl rfl (E.Runs.assign rfl rfl) ?_
        refine E.GL.done ?_
        refine E.QG.code ?_
        refine E.CG.ret ?_
        refine E.QG.pass_ret ?_
        refine E.QG.block_ret ?_
        refine E.QG.pass_ret ?_
        refine E.QG.pass_ret ?_
        refine E.QG.block_ret ?_
        refine E.QG.pass_ret ?_
        exact E.QG.result rfl rfl ⟨by rw [bool_no hr (fun k => h32 (by rw [(k.2.1 i l hl).1]; omega))], L⟩
      · refine E.GH.take (i := 9) rfl (by kernel_rfl) (by kernel_rfl) (by kernel_rfl) (by intro c a d v w h; first | (cases d <;> exact h) | exact nomatch (show _ ∧ _ from h).1) rfl rfl rfl (fun w' hS => (E.Runs.move rfl rfl)) ?_
        refine E.GH.take (i := 10) rfl (by kernel_rfl) (by kernel_rfl) (by kernel_rfl) (by intro c a d v w h; first | (cases d <;> exact h) | exact nomatch (show _ ∧ _ from h).1) rfl rfl rfl (fun w' hS => (E.Runs.move rfl rfl)) ?_
        refine E.GH.take (i := 11) rfl (by kernel_rfl) (by kernel_rfl) (by kernel_rfl) (by intro c a d v w h; first | (cases d <;> exact h) | exact nomatch (show _ ∧ _ from h).1) rfl rfl rfl (fun w' hS => (E.Runs.move rfl rfl)) ?_
        refine E.GH.take (i := 12) rfl (by kernel_rfl) (by kernel_rfl) (by kernel_rfl) (by intro c a d v w h; first | (cases d <;> exact h) | exact nomatch (show _ ∧ _ from h).1) rfl rfl rfl (fun w' hS => (E.Runs.indexAddrA (i := i) rfl rfl rfl hu42 z22 o22 (by omega) eR rfl)) ?_
        refine E.GH.take (i := 13) rfl (by kernel_rfl) (by kernel_rfl) (by kernel_rfl) (by intro c a d v w h; first | (cases d <;> exact h) | exact nomatch (show _ ∧ _ from h).1) rfl rfl rfl (fun w' hS => (E.Runs.load1 rfl rfl hu22 rfl (pw_cell_below (below_step s_L (E.belowG hS)) XR))) ?_
        by_cases h38 : AllR l 0 20
        · refine E.GH.one (i := 14) (by kernel_rfl) rfl ?_
          refine E.GO.st rfl rfl rfl (E.ST.call rfl ent57 (E.evc rfl (E.evc rfl (E.evc rfl E.evn))) ((areAll_calls l al kl 0 20 _ true (iff_of_true rfl h38) (Kd.C_below hlC L) (by omega)).mono ?_))
          rintro e w38 ⟨rfl, l38⟩
          refine ⟨_, rfl, hh.trans (E.gbB l38), ?_⟩
          replace hh := hh.trans (E.gbB l38)
          replace b2 := blk_below b2 l38
          replace r17 := Kd.R_below r17 l38
          replace L := below_step L l38
          refine E.GH.take (i := 15) rfl (by kernel_rfl) (by kernel_rfl) (by kernel_rfl) (by intro c a d v w h; first | (cases d <;> exact h) | exact nomatch (show _ ∧ _ from h).1) rfl rfl rfl (fun w' hS => (E.Runs.not rfl rfl)) ?_
          refine E.GH.take (i := 16) rfl (by kernel_rfl) (by kernel_rfl) (by kernel_rfl) (by intro c a d v w h; first | (cases d <;> exact h) | exact nomatch (show _ ∧ _ from h).1) rfl rfl rfl (fun w' hS => (E.Runs.pick_f rfl rfl rfl)) ?_
          refine E.GH.take (i := 17) rfl (by kernel_rfl) (by kernel_rfl) (by kernel_rfl) (by intro c a d v w h; first | (cases d <;> exact h) | exact nomatch (show _ ∧ _ from h).1) rfl rfl rfl (fun w' hS => (E.Runs.move rfl rfl)) ?_
          refine E.GH.take (i := 18) rfl (by kernel_rfl) (by kernel_rfl) (by kernel_rfl) (by intro c a d v w h; first | (cases d <;> exact h) | exact nomatch (show _ ∧ _ from h).1) rfl rfl rfl (fun w' hS => (E.Runs.move rfl rfl)) ?_
          refine E.GH.take (i := 19) rfl (by kernel_rfl) (by kernel_rfl) (by kernel_rfl) (by intro c a d v w h; first | (cases d <;> exact h) | exact nomatch (show _ ∧ _ from h).1) rfl rfl rfl (fun w' hS => (E.Runs.move rfl rfl)) ?_
          refine E.GH.take (i := 20) rfl (by kernel_rfl) (by kernel_rfl) (by kernel_rfl) (by intro c a d v w h; first | (cases d <;> exact h) | exact nomatch (show _ ∧ _ from h).1) rfl rfl rfl (fun w' hS => (E.Runs.indexAddrA (i := i) rfl rfl rfl hu42 z22 o22 (by omega) eR rfl)) ?_
          refine E.GH.take (i := 21) rfl (by kernel_rfl) (by kernel_rfl) (by kernel_rfl) (by intro c a d v w h; first | (cases d <;> exact h) | exact nomatch (show _ ∧ _ from h).1) rfl rfl rfl (fun w' hS => (E.Runs.load1 rfl rfl hu22 rfl (pw_cell_below (below_step s_L (E.belowG hS)) XR))) ?_
          refine E.GH.take (i := 23) rfl (by kernel_rfl) (by kernel_rfl) (by kernel_rfl) (by intro c a d v w h; first | (cases d <;> exact h) | exact nomatch (show _ ∧ _ from h).1) rfl rfl rfl (fun w' hS => (E.Runs.fieldAddr rfl rfl hu25 rfl (by assumption) rfl)) ?_
          refine E.GH.take (i := 24) rfl (by kernel_rfl) (by kernel_rfl) (by kernel_rfl) (by intro c a d v w h; first | (cases d <;> exact h) | exact nomatch (show _ ∧ _ from h).1) rfl rfl rfl (fun w' hS => (E.Runs.load1 rfl rfl hu23 rfl (by first | exact E.keeps hS (E.blkc (by assumption) rfl) (by first | exact E.nen | exact E.nes (by assumption) | exact E.nes (Ne.symm (by assumption))) | exact pw_cell_below (below_step s_L (E.belowG hS)) (by assumption)))) ?_
          refine E.GH.take (i := 25) rfl (by kernel_rfl) (by kernel_rfl) (by kernel_rfl) (by intro c a d v w h; first | (cases d <;> exact h) | exact nomatch (show _ ∧ _ from h).1) rfl rfl rfl (fun w' hS => (E.Runs.move rfl rfl)) ?_
          refine E.GH.take (i := 26) rfl (by kernel_rfl) (by kernel_rfl) (by kernel_rfl) (by intro c a d v w h; first | (cases d <;> exact h) | exact nomatch (show _ ∧ _ from h).1) rfl rfl rfl (fun w' hS => (E.Runs.indexAddrA (i := i) rfl rfl rfl hu23 z40 o40 (by omega) eA rfl)) ?_
          refine E.GH.take (i := 27) rfl (by kernel_rfl) (by kernel_rfl) (by kernel_rfl) (by intro c a d v w h; first | (cases d <;> exact h) | exact nomatch (show _ ∧ _ from h).1) rfl rfl rfl (fun w' hS => (E.Runs.loads (cs := [.slice a0 c.f0.length k0, .int .i64 c.f1, .int .i64 c.f2, .int .i64 c.f3, .int .i64 c.f4, .int .i64 c.f5]) rfl rfl hu40 rfl info40s (fun j v hv => pw_cell_below (below_step s_L (E.belowG hS)) (X j v hv)))) ?_
          refine E.GH.one (i := 22) (by kernel_rfl) rfl ?_
          refine E.GO.st rfl rfl rfl (E.ST.call rfl ent58 (E.evc rfl E.evn) ((sum_r l al kl _ (Kd.C_below hlC L) (by omega) (fun x hx => by have := h38 x hx; omega)).mono ?_))
          rintro e w46 ⟨rfl, l46⟩
          refine ⟨_, rfl, hh.trans (E.gbB l46), ?_⟩
          replace hh := hh.trans (E.gbB l46)
          replace b2 := blk_below b2 l46
          replace r17 := Kd.R_below r17 l46
          replace L := below_step L l46
          refine E.GH.one (i := 28) (by kernel_rfl) rfl ?_
          refine E.GO.st rfl rfl rfl (E.ST.call rfl ent38 (E.evc rfl E.evn) ((roll_r c a0 k0 _ q3 q4 q7).mono ?_))
          rintro e w52 ⟨rfl, l52⟩
          refine ⟨_, rfl, hh.trans (E.gbB l52), ?_⟩
          replace hh := hh.trans (E.gbB l52)
          replace b2 := blk_below b2 l52
          replace r17 := Kd.R_below r17 l52
          replace L := below_step L l52
          refine E.GH.cmpn (i := 29) rfl (by kernel_rfl) (by kernel_rfl) (by kernel_rfl) (by intro c a d v w h; first | (cases d <;> exact h) | exact nomatch (show _ ∧ _ from h).1) rfl rfl rfl (fun _ h w' hS => (E.Runs.neq rfl rfl rfl h)) (fun h53 => ?_) (fun h53 => ?_)
          · refine E.GH.take (i := 30) rfl (by kernel_rfl) (by kernel_rfl) (by kernel_rfl) (by intro c a d v w h; first | (cases d <;> exact h) | exact nomatch (show _ ∧ _ from h).1) rfl rfl rfl (fun w' hS => (E.Runs.pick_f rfl rfl rfl)) ?_
            refine E.GH.done (by kernel_rfl) ?_
            refine E.QG.code ?_
            refine E.CG.cond_t rfl ?_
            refine E.CG.seq ?_
            refine E.CG.list ?_
            refine E.GL.run rfl rfl rfl (E.Runs.assign rfl rfl) ?_
            refine E.GL.done ?_
            refine E.QG.code ?_
            refine E.CG.ret ?_
            refine E.QG.pass_ret ?_
            refine E.QG.block_ret ?_
            refine E.QG.pass_ret ?_
            refine E.QG.pass_ret ?_
            refine E.QG.block_ret ?_
            refine E.QG.pass_ret ?_
            exact E.QG.result rfl rfl ⟨by rw [bool_no hr (fun k => h53 (by rw [(k.2.1 i l hl).2.2, hct]))], L⟩
          · have hrow : OkRow V i l := ⟨by omega, h38, by rw [hct]; omega⟩
            have hk' := all_more (p := fun _ => True) (fun k _ _ _ => trivial) hl trivial
            refine E.GH.take (i := 30) rfl (by kernel_rfl) (by kernel_rfl) (by kernel_rfl) (by intro c a d v w h; first | (cases d <;> exact h) | exact nomatch (show _ ∧ _ from h).1) rfl rfl rfl (fun w' hS => (E.Runs.pick_f rfl rfl rfl)) ?_
            refine E.GH.done (by kernel_rfl) ?_
            refine E.QG.code ?_
            refine E.CG.cond_f rfl ?_
            refine E.CG.skip ?_
            refine E.QG.code ?_
            refine E.CG.seq ?_
            refine E.CG.list ?_
            refine E.GL.run rfl rfl rfl (E.Runs.assign rfl rfl) ?_
            refine E.GL.done ?_
            refine E.QG.code ?_
            refine E.CG.block ?_
            have s10_b2 := b2
            have s10_L := L
            refine E.CG.loop (fun (s : Nat) => [(1, .slice AT ts.length kT), (2, .pointer (some ⟨g2, 0, none⟩)), (5, .slice A5 V.ps.length c5), (6, .int .i64 i), (7, .int .i64 s)]) (fun s w' => s ≤ V.ps.length ∧ w'.heap[g2]? = some (.cells #[.slice m.A V.ps.length m.a, .slice m.B V.qs.length m.b, .slice m.C V.ts.length m.c, .slice m.D V.cs.length m.d] 25 (0, 0)) ∧ Kd.R kI 3 w' w.heap.size (fun _ => True) (.slice A5 V.ps.length c5) (mx2 V.ps.length (preS ts i) (preS ts (i + 1)) s) ∧ Below w.heap.size w w') (fun s => V.ps.length - s) 0 (E.subc rfl (E.subc rfl (E.subc rfl (E.subc rfl (E.subc rfl E.subn))))) ⟨Nat.zero_le _, b2, by rw [mx2_first hp3]; exact r17, L⟩ ?_
            rintro s w10 ⟨hsl, b2, r17, L⟩
            refine E.CG.seq ?_
            refine E.CG.seq ?_
            refine E.CG.list ?_
            refine E.GL.run rfl rfl rfl (E.Runs.move rfl rfl) ?_
            refine E.GL.run rfl rfl rfl (E.Runs.move rfl rfl) ?_
            refine E.GL.run rfl rfl rfl (E.Runs.len rfl rfl hu22) ?_
            refine E.GL.cmp rfl rfl rfl (fun _ h => (E.Runs.lss rfl rfl rfl h)) (fun h58 => ?_) (fun h58 => ?_)
            · have hsn : s < V.ps.length := by omega
              obtain ⟨x, hx⟩ := get_ex (show s < l.length by omega)
              obtain ⟨ax, eX, X2⟩ := int_at hlC hx
              have hxs := h38 x (List.mem_of_getElem? hx)
              have hals := preS_small hk s (by omega)
              refine E.GL.done ?_
              refine E.QG.code ?_
              refine E.CG.cond_t rfl ?_
              refine E.CG.skip ?_
              refine E.QG.code ?_
              refine E.CG.seq ?_
              refine E.CG.block ?_
              refine E.CG.heldJ 13 (fun v W => v.grownBy W (none)) (fun _ _ => True) (by kernel_rfl) (by kernel_rfl) (fun v => World.grownBy.refl _ _) fun v12 lD => ?_
              replace b2 := blk_below b2 lD
              replace r17 := Kd.R_below r17 lD
              replace L := below_step L lD
              have lD12 := lD
              clear lD
              obtain ⟨gK, eK, hgK, cK, fK, ⟨_, bK⟩, stK⟩ := rowI_at r17 (mx2_at hsn (preS ts i) (preS ts (i + 1)))
              have s_b2 := b2
              have s_L := L
              refine E.GJ.take1 (i := 0) rfl (by kernel_rfl) (by kernel_rfl) (by kernel_rfl) (by kernel_rfl) rfl (by kernel_rfl) (by kernel_rfl) (by intro c a d v w h; first | (cases d <;> exact h) | exact nomatch (show _ ∧ _ from h).1) rfl rfl rfl (fun w' hS => (E.Runs.move rfl rfl)) ?_
              refine E.GJ.take1 (i := 1) rfl (by kernel_rfl) (by kernel_rfl) (by kernel_rfl) (by kernel_rfl) rfl (by kernel_rfl) (by kernel_rfl) (by intro c a d v w h; first | (cases d <;> exact h) | exact nomatch (show _ ∧ _ from h).1) rfl rfl rfl (fun w' hS => (E.Runs.move rfl rfl)) ?_
              refine E.GJ.take1 (i := 2) rfl (by kernel_rfl) (by kernel_rfl) (by kernel_rfl) (by kernel_rfl) rfl (by kernel_rfl) (by kernel_rfl) (by intro c a d v w h; first | (cases d <;> exact h) | exact nomatch (show _ ∧ _ from h).1) rfl rfl rfl (fun w' hS => (E.Runs.indexAddrA (i := s) rfl rfl rfl hu22 z3 o3 (by omega) eK (show _ = (⟨gK, s * 1, none⟩ : Addr) from by rw [Go.Addr.add_mid, Nat.zero_add]))) ?_
              refine E.GJ.take1 (i := 3) rfl (by kernel_rfl) (by kernel_rfl) (by kernel_rfl) (by kernel_rfl) rfl (by kernel_rfl) (by kernel_rfl) (by intro c a d v w h; first | (cases d <;> exact h) | exact nomatch (show _ ∧ _ from h).1) rfl rfl rfl (fun w' hS => (E.Runs.load rfl rfl hu3 (E.keeps hS cK E.nen))) ?_
              refine E.GJ.take1 (i := 4) rfl (by kernel_rfl) (by kernel_rfl) (by kernel_rfl) (by kernel_rfl) rfl (by kernel_rfl) (by kernel_rfl) (by intro c a d v w h; first | (cases d <;> exact h) | exact nomatch (show _ ∧ _ from h).1) rfl rfl rfl (fun w' hS => (E.Runs.move rfl rfl)) ?_
              refine E.GJ.take1 (i := 5) rfl (by kernel_rfl) (by kernel_rfl) (by kernel_rfl) (by kernel_rfl) rfl (by kernel_rfl) (by kernel_rfl) (by intro c a d v w h; first | (cases d <;> exact h) | exact nomatch (show _ ∧ _ from h).1) rfl rfl rfl (fun w' hS => (E.Runs.move rfl rfl)) ?_
              refine E.GJ.take1 (i := 6) rfl (by kernel_rfl) (by kernel_rfl) (by kernel_rfl) (by kernel_rfl) rfl (by kernel_rfl) (by kernel_rfl) (by intro c a d v w h; first | (cases d <;> exact h) | exact nomatch (show _ ∧ _ from h).1) rfl rfl rfl (fun w' hS => (E.Runs.indexAddrA (i := i) rfl rfl rfl hu42 z22 o22 (by omega) eR rfl)) ?_
              refine E.GJ.take1 (i := 7) rfl (by kernel_rfl) (by kernel_rfl) (by kernel_rfl) (by kernel_rfl) rfl (by kernel_rfl) (by kernel_rfl) (by intro c a d v w h; first | (cases d <;> exact h) | exact nomatch (show _ ∧ _ from h).1) rfl rfl rfl (fun w' hS => (E.Runs.load1 rfl rfl hu22 rfl (pw_cell_below (below_step s_L (E.belowG hS)) XR))) ?_
              refine E.GJ.take1 (i := 8) rfl (by kernel_rfl) (by kernel_rfl) (by kernel_rfl) (by kernel_rfl) rfl (by kernel_rfl) (by kernel_rfl) (by intro c a d v w h; first | (cases d <;> exact h) | exact nomatch (show _ ∧ _ from h).1) rfl rfl rfl (fun w' hS => (E.Runs.move rfl rfl)) ?_
              refine E.GJ.take1 (i := 9) rfl (by kernel_rfl) (by kernel_rfl) (by kernel_rfl) (by kernel_rfl) rfl (by kernel_rfl) (by kernel_rfl) (by intro c a d v w h; first | (cases d <;> exact h) | exact nomatch (show _ ∧ _ from h).1) rfl rfl rfl (fun w' hS => (E.Runs.indexAddrA (i := s) rfl rfl rfl hu22 z3 o3 (by omega) eX rfl)) ?_
              refine E.GJ.take1 (i := 10) rfl (by kernel_rfl) (by kernel_rfl) (by kernel_rfl) (by kernel_rfl) rfl (by kernel_rfl) (by kernel_rfl) (by intro c a d v w h; first | (cases d <;> exact h) | exact nomatch (show _ ∧ _ from h).1) rfl rfl rfl (fun w' hS => (E.Runs.load rfl rfl hu3 (pw_cell_below (below_step s_L (E.belowG hS)) X2))) ?_
              refine E.GJ.take1 (i := 11) rfl (by kernel_rfl) (by kernel_rfl) (by kernel_rfl) (by kernel_rfl) rfl (by kernel_rfl) (by kernel_rfl) (by intro c a d v w h; first | (cases d <;> exact h) | exact nomatch (show _ ∧ _ from h).1) rfl rfl rfl (fun w' hS => (E.Runs.add rfl rfl rfl (IntWalk.i64_in _ (by omega)))) ?_
              refine E.GJ.take1 (i := 12) rfl (by kernel_rfl) (by kernel_rfl) (by kernel_rfl) (by kernel_rfl) rfl (by kernel_rfl) (by kernel_rfl) (by intro c a d v w h; first | (cases d <;> exact h) | exact nomatch (show _ ∧ _ from h).1) rfl rfl rfl (fun w' hS => (E.Runs.indexAddrA (i := s) rfl rfl rfl hu22 z3 o3 (by omega) eK (show _ = (⟨gK, s * 1, none⟩ : Addr) from by rw [Go.Addr.add_mid, Nat.zero_add]))) ?_
              refine E.GJ.one (i := 13) (by kernel_rfl) (E.OJ.sn rfl rfl rfl (E.ST.storeN rfl z3 o3 rfl rfl cK fK ⟨(E.SJ.behind (by kernel_rfl)).mpr trivial, ?_⟩))
              obtain ⟨wK, hwK, RK, gK'⟩ := stK ((preS ts i).get s + x)
              rw [← hwK]
              replace b2 := blk_grown b2 gK' (E.nes (blk_ne b2 bK (by decide)))
              replace L := E.below_own L hgK gK'
              rw [show (preS ts i).get s + x = (preS ts (i + 1)).get s from by rw [preS_next hl, get_add, bl_get _ (by omega), getD_of hx], mx2_set hsn] at RK
              clear r17
              refine E.GJ.done (by kernel_rfl) ?_
              refine E.QG.block_normal ?_
              refine E.QG.code ?_
              refine E.CG.list ?_
              refine E.GL.run rfl rfl rfl (E.Runs.move rfl rfl) ?_
              refine E.GL.run rfl rfl rfl (E.Runs.add rfl rfl rfl (IntWalk.i64_in _ (by omega))) ?_
              refine E.GL.run rfl rfl rfl (E.Runs.assign rfl rfl) ?_
              refine E.GL.done ?_
              exact E.QG.round (s + 1) (E.subc rfl (E.subc rfl (E.subc rfl (E.subc rfl (E.subc rfl E.subn))))) ⟨by omega, b2, RK, L⟩ (by omega)
            · rw [mx2_last hp3 (by omega)] at r17
              refine E.GL.done ?_
              refine E.QG.code ?_
              refine E.CG.cond_f rfl ?_
              refine E.CG.exit ?_
              refine E.QG.pass_exit ?_
              refine E.QG.pass_exit ?_
              refine E.QG.block_here ?_
              refine E.QG.block_normal ?_
              refine E.QG.code ?_
              refine E.CG.list ?_
              refine E.GL.run rfl rfl rfl (E.Runs.move rfl rfl) ?_
              refine E.GL.run rfl rfl rfl (E.Runs.add rfl rfl rfl (IntWalk.i64_in _ (by omega))) ?_
              refine E.GL.run rfl rfl rfl (E.Runs.assign rfl rfl) ?_
              refine E.GL.done ?_
              exact E.QG.round (i + 1) (E.subc rfl (E.subc rfl (E.subc rfl (E.subc rfl E.subn)))) ⟨by omega, (fun k hki l' hl' => by
                  by_cases e : k = i
                  · subst e; rw [hl] at hl'; cases hl'; exact hrow
                  · exact hk k (by omega) l' hl'), b2, r17, L⟩ (by omega)
        · refine E.GH.one (i := 14) (by kernel_rfl) rfl ?_
          refine E.GO.st rfl rfl rfl (E.ST.call rfl ent57 (E.evc rfl (E.evc rfl (E.evc rfl E.evn))) ((areAll_calls l al kl 0 20 _ false (iff_of_false Bool.false_ne_true h38) (Kd.C_below hlC L) (by omega)).mono ?_))
          rintro e w38 ⟨rfl, l38⟩
          refine ⟨_, rfl, hh.trans (E.gbB l38), ?_⟩
          replace hh := hh.trans (E.gbB l38)
          replace b2 := blk_below b2 l38
          replace r17 := Kd.R_below r17 l38
          replace L := below_step L l38
          refine E.GH.take (i := 15) rfl (by kernel_rfl) (by kernel_rfl) (by kernel_rfl) (by intro c a d v w h; first | (cases d <;> exact h) | exact nomatch (show _ ∧ _ from h).1) rfl rfl rfl (fun w' hS => (E.Runs.not rfl rfl)) ?_
          refine E.GH.take (i := 16) rfl (by kernel_rfl) (by kernel_rfl) (by kernel_rfl) (by intro c a d v w h; first | (cases d <;> exact h) | exact nomatch (show _ ∧ _ from h).1) rfl rfl rfl (fun w' hS => (E.Runs.pick_f rfl rfl rfl)) ?_
          refine E.GH.take (i := 17) rfl (by kernel_rfl) (by kernel_rfl) (by kernel_rfl) (by intro c a d v w h; first | (cases d <;> exact h) | exact nomatch (show _ ∧ _ from h).1) rfl rfl rfl (fun w' hS => (E.Runs.move rfl rfl)) ?_
          refine E.GH.pass (i := 18) rfl (by kernel_rfl) (by kernel_rfl) (by kernel_rfl) (by intro c a d v w h; first | (cases d <;> exact h) | exact nomatch (show _ ∧ _ from h).1) rfl rfl rfl ?_
          refine E.GH.pass (i := 19) rfl (by kernel_rfl) (by kernel_rfl) (by kernel_rfl) (by intro c a d v w h; first | (cases d <;> exact h) | exact nomatch (show _ ∧ _ from h).1) rfl rfl rfl ?_
          refine E.GH.pass (i := 20) rfl (by kernel_rfl) (by kernel_rfl) (by kernel_rfl) (by intro c a d v w h; first | (cases d <;> exact h) | exact nomatch (show _ ∧ _ from h).1) rfl rfl rfl ?_
          refine E.GH.pass (i := 21) rfl (by kernel_rfl) (by kernel_rfl) (by kernel_rfl) (by intro c a d v w h; first | (cases d <;> exact h) | exact nomatch (show _ ∧ _ from h).1) rfl rfl rfl ?_
          refine E.GH.pass (i := 22) rfl (by kernel_rfl) (by kernel_rfl) (by kernel_rfl) (by intro c a d v w h; first | (cases d <;> exact h) | exact nomatch (show _ ∧ _ from h).1) rfl rfl rfl ?_
          refine E.GH.pass (i := 23) rfl (by kernel_rfl) (by kernel_rfl) (by kernel_rfl) (by intro c a d v w h; first | (cases d <;> exact h) | exact nomatch (show _ ∧ _ from h).1) rfl rfl rfl ?_
          refine E.GH.pass (i := 24) rfl (by kernel_rfl) (by kernel_rfl) (by kernel_rfl) (by intro c a d v w h; first | (cases d <;> exact h) | exact nomatch (show _ ∧ _ from h).1) rfl rfl rfl ?_
          refine E.GH.pass (i := 25) rfl (by kernel_rfl) (by kernel_rfl) (by kernel_rfl) (by intro c a d v w h; first | (cases d <;> exact h) | exact nomatch (show _ ∧ _ from h).1) rfl rfl rfl ?_
          refine E.GH.pass (i := 26) rfl (by kernel_rfl) (by kernel_rfl) (by kernel_rfl) (by intro c a d v w h; first | (cases d <;> exact h) | exact nomatch (show _ ∧ _ from h).1) rfl rfl rfl ?_
          refine E.GH.pass (i := 27) rfl (by kernel_rfl) (by kernel_rfl) (by kernel_rfl) (by intro c a d v w h; first | (cases d <;> exact h) | exact nomatch (show _ ∧ _ from h).1) rfl rfl rfl ?_
          refine E.GH.pass (i := 28) rfl (by kernel_rfl) (by kernel_rfl) (by kernel_rfl) (by intro c a d v w h; first | (cases d <;> exact h) | exact nomatch (show _ ∧ _ from h).1) rfl rfl rfl ?_
          refine E.GH.pass (i := 29) rfl (by kernel_rfl) (by kernel_rfl) (by kernel_rfl) (by intro c a d v w h; first | (cases d <;> exact h) | exact nomatch (show _ ∧ _ from h).1) rfl rfl rfl ?_
          refine E.GH.take (i := 30) rfl (by kernel_rfl) (by kernel_rfl) (by kernel_rfl) (by intro c a d v w h; first | (cases d <;> exact h) | exact nomatch (show _ ∧ _ from h).1) rfl rfl rfl (fun w' hS => (E.Runs.pick_t rfl rfl rfl)) ?_
          refine E.GH.done (by kernel_rfl) ?_
          refine E.QG.code ?_
          refine E.CG.cond_t rfl ?_
          refine E.CG.seq ?_
          refine E.CG.list ?_
          refine E.GL.run rfl rfl rfl (E.Runs.assign rfl rfl) ?_
          refine E.GL.done ?_
          refine E.QG.code ?_
          refine E.CG.ret ?_
          refine E.QG.pass_ret ?_
          refine E.QG.block_ret ?_
          refine E.QG.pass_ret ?_
          refine E.QG.pass_ret ?_
          refine E.QG.block_ret ?_
          refine E.QG.pass_ret ?_
          exact E.QG.result rfl rfl ⟨by rw [bool_no hr (fun k => h38 (k.2.1 i l hl).2.1)], L⟩
    · obtain rfl : i = ts.length := by omega
      refine E.GL.done ?_
      refine E.QG.code ?_
      refine E.CG.cond_f rfl ?_
      refine E.CG.exit ?_
      refine E.QG.pass_exit ?_
      refine E.QG.pass_exit ?_
      refine E.QG.block_here ?_
      refine E.QG.code ?_
      refine E.CG.seq ?_
      refine E.CG.list ?_
      refine E.GL.run rfl rfl rfl (E.Runs.move rfl rfl) ?_
      refine E.GL.run rfl rfl rfl (E.Runs.fieldAddr rfl rfl hu25 rfl (by assumption) rfl) ?_
      refine E.GL.run rfl rfl rfl (E.Runs.load1 rfl rfl hu22 rfl (by first | assumption | exact E.blkc (by assumption) rfl | exact pw_cell_below L (by assumption))) ?_
      by_cases h77 : tb V.ps.length (preS ts ts.length) = V.qs
      · refine E.GL.st rfl rfl rfl (E.ST.call rfl ent59 (E.evc rfl (E.evc rfl E.evn)) ((same_rN (tb V.ps.length (preS ts ts.length)) V.qs V.ps.length (tb_len hp3 _) A5 m.B c5 m.b _ true (iff_of_true rfl h77) (Kd.R_reads' r17).2.2 (hV.below L).qs (by omega)).mono ?_))
        rintro e w77 ⟨rfl, l77⟩
        refine ⟨_, rfl, ?_⟩
        replace b2 := blk_below b2 l77
        replace r17 := Kd.R_below r17 l77
        replace L := below_step L l77
        refine E.GL.run rfl rfl rfl (E.Runs.assign rfl rfl) ?_
        refine E.GL.done ?_
        refine E.QG.code ?_
        refine E.CG.ret ?_
        exact E.QG.result rfl rfl ⟨by rw [hr.mpr ((isT_iff ok (by omega) hk).mpr h77)], L⟩
      · refine E.GL.st rfl rfl rfl (E.ST.call rfl ent59 (E.evc rfl (E.evc rfl E.evn)) ((same_rN (tb V.ps.length (preS ts ts.length)) V.qs V.ps.length (tb_len hp3 _) A5 m.B c5 m.b _ false (iff_of_false Bool.false_ne_true h77) (Kd.R_reads' r17).2.2 (hV.below L).qs (by omega)).mono ?_))
        rintro e w77 ⟨rfl, l77⟩
        refine ⟨_, rfl, ?_⟩
        replace b2 := blk_below b2 l77
        replace r17 := Kd.R_below r17 l77
        replace L := below_step L l77
        refine E.GL.run rfl rfl rfl (E.Runs.assign rfl rfl) ?_
        refine E.GL.done ?_
        refine E.QG.code ?_
        refine E.CG.ret ?_
        exact E.QG.result rfl rfl ⟨by rw [bool_no hr (fun k => h77 ((isT_iff ok (by omega) hk).mp k))], L⟩

end Go.Proofs.Ytiplichdhcmjdaa.T
namespace Go.Proofs.Ytiplichdhcmjdaa.T
open Go.RowKit Go.Proofs.YtiplichdhcmjdaaW.PrintWords Go.Proofs.YtiplichdhcmjdaaW.PrintMore
open Go.Proofs.Ytiplichdhcmjdaa.P
set_option linter.unusedVariables false
set_option linter.unusedSimpArgs false

/-- Two rows of rows, none of one's blocks the other's. -/
structure Tw {α : Type} (d : Kd α) (e b b7 : Nat) (w : World) (v5 v7 : Value) (out rest : List α) : Prop where
  o : Kd.R d e w b (fun _ => True) v5 out
  r : Kd.R d e w b7 (fun k => True ∧ some k ≠ v5.ownBlock) v7 rest
theorem Tw.below {α : Type} {d : Kd α} {e b b7 : Nat} {w w' : World} {v5 v7 : Value} {out rest : List α} (h : Tw d e b b7 w v5 v7 out rest) (l : Below w.heap.size w w') : Tw d e b b7 w' v5 v7 out rest := ⟨Kd.R_below h.o l, Kd.R_below h.r l⟩
theorem Tw.after {α : Type} {d : Kd α} {e b b7 : Nat} {W w : World} {v5 v7 v1 : Value} {out out' rest : List α} (h : Tw d e b b7 W v5 v7 out rest) (k : Kd.R d e w b (fun _ => True) v1 out') (hg : W.grownBy w v5.ownBlock) (hat : v1.ownBlock = v5.ownBlock ∨ ∃ k, v1.ownBlock = some k ∧ W.heap.size ≤ k) : Tw d e b b7 w v1 v7 out' rest := ⟨k, Kd.R_after h.r hg hat⟩
end Go.Proofs.Ytiplichdhcmjdaa.T
namespace Go.Proofs.Ytiplichdhcmjdaa.T
open Go.RowKit Go.Proofs.YtiplichdhcmjdaaW.PrintWords Go.Proofs.YtiplichdhcmjdaaW.PrintMore
open Go.Proofs.Ytiplichdhcmjdaa.P
set_option linter.unusedVariables false
set_option linter.unusedSimpArgs false

abbrev kRR : Kd (List (List Int)) := Kd.slice 22 kR
structure R3 (b : Nat) (w : World) (v : Value) (ts : List (List (List Int))) : Prop where
  r : Kd.R kRR 42 w b (fun _ => True) v ts
theorem R3.below {b : Nat} {w w' : World} {v : Value} {ts : List (List (List Int))} (h : R3 b w v ts) (l : Below w.heap.size w w') : R3 b w' v ts := ⟨Kd.R_below h.r l⟩
end Go.Proofs.Ytiplichdhcmjdaa.T
namespace Go.Proofs.Ytiplichdhcmjdaa.T
open Go.RowKit Go.Proofs.YtiplichdhcmjdaaW.PrintWords Go.Proofs.YtiplichdhcmjdaaW.PrintMore
open Go.Proofs.Ytiplichdhcmjdaa.P
set_option linter.unusedVariables false
set_option linter.unusedSimpArgs false

def LkS (V : Ev) (L : List (List (List Int))) : Prop := ∀ ts, ts ∈ L ↔ ∃ t, Lkly V t ∧ ts = t.map (tb V.ps.length)
def LikR (V : Ev) (L : List (List (List Int))) (n : Int) : Prop := ((∀ t, ¬ Truth V t) ∧ L = [] ∧ n = 0) ∨ ((∃ t, Truth V t) ∧ L ≠ [] ∧ n = fewN V ∧ LkS V L ∧ L.length ≤ 441 ^ 4)
theorem nn_bl {V : Ev} (ok : VOk V) : Nn V.ps.length (bl V.qs) := by
  have hs := small_bl (m := 80) ok.q (by decide)
  exact ⟨(hs 0 (by decide)).1, (hs 1 (by decide)).1, (hs 2 (by decide)).1, fin_bl ok.nq⟩
theorem tr_none {V : Ev} (ok : VOk V) {n : Nat} (h : ∀ t, Truth V t → (n : Int) ≤ flT V 0 t) (hL : trL V V.cs.length 0 n (bl V.qs) = []) : ∀ t, Truth V t → ((n + 1 : Nat) : Int) ≤ flT V 0 t := fun t ht => by
  have h0 := h t ht
  refine Int.not_lt.mp fun hlt => ?_
  have := (mem_trL ok (k := V.cs.length) (i := 0) (F := n) (by omega) (by omega) (nn_bl ok)).mpr ⟨t, ht.1, ht.2.1, ht.2.2, by omega, rfl⟩
  rw [hL] at this
  cases this
theorem tr_some {V : Ev} (ok : VOk V) {n : Nat} (h : ∀ t, Truth V t → (n : Int) ≤ flT V 0 t) (hL : trL V V.cs.length 0 n (bl V.qs) ≠ []) : LikR V (trL V V.cs.length 0 n (bl V.qs)) n := by
  have hm : ∀ ts, ts ∈ trL V V.cs.length 0 n (bl V.qs) ↔ _ := fun ts => mem_trL ok (k := V.cs.length) (i := 0) (F := n) (ts := ts) (by omega) (by omega) (nn_bl ok)
  obtain ⟨ts, hts⟩ := List.exists_mem_of_ne_nil _ hL
  obtain ⟨t, a1, a2, a3, a4, _⟩ := (hm ts).mp hts
  have htr : Truth V t := ⟨a1, a2, a3⟩
  have hn : fewN V = n := fewN_eq ⟨⟨t, htr, by have := h t htr; omega⟩, h⟩
  refine .inr ⟨⟨t, htr⟩, hL, hn.symm, fun ts => (hm ts).trans ⟨?_, ?_⟩, ?_⟩
  · rintro ⟨s, b1, b2, b3, b4, rfl⟩
    exact ⟨s, ⟨⟨b1, b2, b3⟩, by have := h s ⟨b1, b2, b3⟩; omega⟩, rfl⟩
  · rintro ⟨s, ⟨hs, h5⟩, rfl⟩
    exact ⟨s, hs.1, hs.2.1, hs.2.2, by omega, rfl⟩
  · exact Nat.le_trans (trL_len ok _ _ _ _ (by omega)) (Nat.pow_le_pow_right (by decide) ok.c4)
end Go.Proofs.Ytiplichdhcmjdaa.T
namespace Go.Proofs.Ytiplichdhcmjdaa.T
open Go.RowKit Go.Proofs.YtiplichdhcmjdaaW.PrintWords Go.Proofs.YtiplichdhcmjdaaW.PrintMore
open Go.Proofs.Ytiplichdhcmjdaa.P
set_option linter.unusedVariables false
set_option linter.unusedSimpArgs false

/-- A till's row in a likely truth. -/
theorem lk_row {V : Ev} (ok : VOk V) {L : List (List (List Int))} (hS : LkS V L) {ts : List (List Int)} (h : ts ∈ L) {i : Nat} (hi : i < V.cs.length) : ∃ t b, Lkly V t ∧ ts = t.map (tb V.ps.length) ∧ t[i]? = some b ∧ ts[i]? = some (tb V.ps.length b) ∧ Way V.ps.length (rl (ct V i)) b ∧ ts.length = V.cs.length := by
  obtain ⟨t, ht, rfl⟩ := (hS ts).mp h
  obtain ⟨b, hb⟩ := get_ex (show i < t.length by rw [ht.1.1]; exact hi)
  have hw := Ws_get ht.1.2.1 hb
  rw [Nat.zero_add] at hw
  exact ⟨t, b, ht, rfl, hb, by rw [List.getElem?_map, hb]; rfl, hw, by rw [List.length_map]; exact ht.1.1⟩
def flR (V : Ev) (i : Nat) (ts : List (List Int)) : Int := fl V (ct V i) (bl (ts.getD i []))
theorem flR_eq {V : Ev} (ok : VOk V) {i : Nat} {t : List Bl} {b : Bl} (hb : t[i]? = some b) (hw : Way V.ps.length (rl (ct V i)) b) : flR V i (t.map (tb V.ps.length)) = fl V (ct V i) b := by
  unfold flR
  rw [List.getD_eq_getElem?_getD, List.getElem?_map, hb]
  show fl V (ct V i) (bl (tb V.ps.length b)) = _
  rw [tb_bl ok.n1 ok.n3 hw]
def cntF (V : Ev) (i : Nat) (L : List (List (List Int))) : Nat := (L.filter (fun ts => decide (0 < flR V i ts))).length
theorem cnt_susp {V : Ev} (ok : VOk V) {L : List (List (List Int))} (hS : LkS V L) {i : Nat} (hi : i < V.cs.length) : 0 < cntF V i L ↔ suspP V i := by
  constructor
  · intro h
    obtain ⟨ts, hts⟩ := List.exists_mem_of_length_pos h
    obtain ⟨hm, hp⟩ := List.mem_filter.mp hts
    obtain ⟨t, b, h1, rfl, h3, _, h5, _⟩ := lk_row ok hS hm hi
    rw [decide_eq_true_eq, flR_eq ok h3 h5] at hp
    exact ⟨t, b, h1, h3, hp⟩
  · rintro ⟨t, b, h1, h3, hp⟩
    have hw := Ws_get h1.1.2.1 h3
    rw [Nat.zero_add] at hw
    refine List.length_pos_of_mem (List.mem_filter.mpr ⟨(hS _).mpr ⟨t, h1, rfl⟩, ?_⟩)
    rw [decide_eq_true_eq, flR_eq ok h3 hw]
    exact hp
def mnG {α : Type} (f : α → Int) (x : Int) (l : List α) : Int := l.foldl (fun a o => mn a (f o)) x
def mxG {α : Type} (f : α → Int) (x : Int) (l : List α) : Int := l.foldl (fun a o => mx a (f o)) x
theorem mnG_is {α : Type} {q : α → Int} : ∀ (l : List α) (x : Int), (mnG q x l = x ∨ ∃ o ∈ l, q o = mnG q x l) ∧ mnG q x l ≤ x ∧ ∀ o ∈ l, mnG q x l ≤ q o
  | [], x => ⟨.inl rfl, Int.le_refl _, fun o h => by cases h⟩
  | o :: l, x => by
    obtain ⟨h1, h2, h3⟩ := mnG_is (q := q) l (mn x (q o))
    have e : mnG q x (o :: l) = mnG q (mn x (q o)) l := rfl
    have hm : mn x (q o) = x ∨ mn x (q o) = q o := by unfold mn; split <;> simp
    have hle : mn x (q o) ≤ x ∧ mn x (q o) ≤ q o := by unfold mn; split <;> omega
    rw [e]
    refine ⟨?_, by omega, fun o' ho' => ?_⟩
    · rcases h1 with h1 | ⟨o', ho', h1⟩
      · rcases hm with hm | hm
        · exact .inl (h1.trans hm)
        · exact .inr ⟨o, List.mem_cons_self, by rw [h1, hm]⟩
      · exact .inr ⟨o', List.mem_cons_of_mem _ ho', h1⟩
    · rcases List.mem_cons.mp ho' with rfl | ho'
      · omega
      · exact h3 o' ho'
theorem mxG_is {α : Type} {q : α → Int} : ∀ (l : List α) (x : Int), (mxG q x l = x ∨ ∃ o ∈ l, q o = mxG q x l) ∧ x ≤ mxG q x l ∧ ∀ o ∈ l, q o ≤ mxG q x l
  | [], x => ⟨.inl rfl, Int.le_refl _, fun o h => by cases h⟩
  | o :: l, x => by
    obtain ⟨h1, h2, h3⟩ := mxG_is (q := q) l (mx x (q o))
    have e : mxG q x (o :: l) = mxG q (mx x (q o)) l := rfl
    have hm : mx x (q o) = x ∨ mx x (q o) = q o := by unfold mx; split <;> simp
    have hle : x ≤ mx x (q o) ∧ q o ≤ mx x (q o) := by unfold mx; split <;> omega
    rw [e]
    refine ⟨?_, by omega, fun o' ho' => ?_⟩
    · rcases h1 with h1 | ⟨o', ho', h1⟩
      · rcases hm with hm | hm
        · exact .inl (h1.trans hm)
        · exact .inr ⟨o, List.mem_cons_self, by rw [h1, hm]⟩
      · exact .inr ⟨o', List.mem_cons_of_mem _ ho', h1⟩
    · rcases List.mem_cons.mp ho' with rfl | ho'
      · omega
      · exact h3 o' ho'
theorem span_r {V : Ev} (ok : VOk V) {till sh : Int} {q : Bl → Int} {L : List (List (List Int))} (hS : LkS V L) (hi : till.toNat < V.cs.length) (h : errT V till sh = 0) {f : List (List Int) → Int} (hf : ∀ t b, Lkly V t → t[till.toNat]? = some b → Way V.ps.length (rl (ct V till.toNat)) b → f (t.map (tb V.ps.length)) = q b) {o0 : List (List Int)} (h0 : o0 ∈ L) : loV V till sh q = mnG f (f o0) L ∧ hiV V till sh q = mxG f (f o0) L := by
  have hval : ∀ n, valP V till.toNat q n ↔ ∃ ts ∈ L, f ts = n := fun n => by
    constructor
    · rintro ⟨t, b, h1, h2, rfl⟩
      have hw := Ws_get h1.1.2.1 h2
      rw [Nat.zero_add] at hw
      exact ⟨_, (hS _).mpr ⟨t, h1, rfl⟩, hf t b h1 h2 hw⟩
    · rintro ⟨ts, hm, rfl⟩
      obtain ⟨t, b, h1, rfl, h3, _, h5, _⟩ := lk_row ok hS hm hi
      exact ⟨t, b, h1, h3, (hf t b h1 h3 h5).symm⟩
  obtain ⟨a1, a2, a3⟩ := mnG_is (q := f) L (f o0)
  obtain ⟨b1, b2, b3⟩ := mxG_is (q := f) L (f o0)
  constructor
  · refine loV_ok h ((hval _).mpr ?_) fun n hn => ?_
    · rcases a1 with a1 | a1
      · exact ⟨o0, h0, a1.symm⟩
      · exact a1
    · obtain ⟨o, ho, rfl⟩ := (hval _).mp hn
      exact a3 o ho
  · refine hiV_ok h ((hval _).mpr ?_) fun n hn => ?_
    · rcases b1 with b1 | b1
      · exact ⟨o0, h0, b1.symm⟩
      · exact b1
    · obtain ⟨o, ho, rfl⟩ := (hval _).mp hn
      exact b3 o ho
end Go.Proofs.Ytiplichdhcmjdaa.T
namespace Go.Proofs.Ytiplichdhcmjdaa.T
open Go.RowKit Go.Proofs.YtiplichdhcmjdaaW.PrintWords Go.Proofs.YtiplichdhcmjdaaW.PrintMore
open Go.Proofs.Ytiplichdhcmjdaa.P
set_option linter.unusedVariables false
set_option linter.unusedSimpArgs false

def fRe (i s : Nat) (ts : List (List Int)) : Int := (ts.getD i []).getD s 0
theorem fRe_at {ts : List (List Int)} {i s : Nat} {l : List Int} {x : Int} (h : ts[i]? = some l) (k : l[s]? = some x) : fRe i s ts = x := by
  unfold fRe
  rw [List.getD_eq_getElem?_getD, List.getD_eq_getElem?_getD, h]
  show (l[s]?).getD 0 = x
  rw [k]
  rfl
theorem fRe_q {V : Ev} {i s : Nat} (hs : s < V.ps.length) (h3 : V.ps.length ≤ 3) {t : List Bl} {b : Bl} (hb : t[i]? = some b) : fRe i s (t.map (tb V.ps.length)) = b.get s := fRe_at (l := tb V.ps.length b) (by rw [List.getElem?_map, hb]; rfl) (tb_at hs h3)
end Go.Proofs.Ytiplichdhcmjdaa.T
namespace Go.Proofs.Ytiplichdhcmjdaa.E
open Go.RowKit Go.Proofs.YtiplichdhcmjdaaW.PrintWords Go.Proofs.YtiplichdhcmjdaaW.PrintMore
open Go.Proofs.Ytiplichdhcmjdaa.T
set_option linter.unusedVariables false
set_option linter.unusedSimpArgs false
section
variable {P : Program} {w : World} {N fuel : Nat} {env : Env} {ops : Array Oper} {Q : Exit → Act → World → Prop} {S : World → Prop} {L : Array Bool}
end
/-- Two rows are not the same block. -/
def Ap (u v : Value) : Prop := ∀ k, u.ownBlock = some k → v.ownBlock ≠ some k
theorem Ap.symm {u v : Value} (h : Ap u v) : Ap v u := fun k hk e => h k e hk
abbrev kJ : Kd Int := Kd.int .i64
/-- Three rows of numbers, each by itself. -/
structure Cb (bs : Nat) (W : World) (va vb vc : Value) (la lb lc : List Int) : Prop where
  a : Kd.R kJ 3 W bs (fun _ => True) va la
  b : Kd.R kJ 3 W bs (fun _ => True) vb lb
  c : Kd.R kJ 3 W bs (fun _ => True) vc lc
  ab : Ap va vb
  ac : Ap va vc
  bc : Ap vb vc
section
variable {b : Nat} {W w1 : World} {va vb vc u : Value} {la lb lc l : List Int}
theorem Cb.below (h : Cb b W va vb vc la lb lc) (l : Below W.heap.size W w1) : Cb b w1 va vb vc la lb lc := ⟨Kd.R_below h.a l, Kd.R_below h.b l, Kd.R_below h.c l, h.ab, h.ac, h.bc⟩
/-- A block of another type is written. -/
theorem Cb.over {g t : Nat} {cs : Array Value} (h : Cb b W va vb vc la lb lc) (hb : W.heap[g]? = some (.cells cs t (0, 0))) (ht : 3 ≠ t) (hg : W.grownBy w1 (some g)) : Cb b w1 va vb vc la lb lc :=
  ⟨Kd.R_grown1 h.a rfl hg (Kd.R_ne h.a hb ht), Kd.R_grown1 h.b rfl hg (Kd.R_ne h.b hb ht), Kd.R_grown1 h.c rfl hg (Kd.R_ne h.c hb ht), h.ab, h.ac, h.bc⟩
end
end Go.Proofs.Ytiplichdhcmjdaa.E
namespace Go.Proofs.Ytiplichdhcmjdaa.T
open Go.RowKit Go.Proofs.YtiplichdhcmjdaaW.PrintWords Go.Proofs.YtiplichdhcmjdaaW.PrintMore
open Go.Proofs.Ytiplichdhcmjdaa.P
set_option linter.unusedVariables false
set_option linter.unusedSimpArgs false

/-- An evening in rows of our own. -/
structure EvR (bs : Nat) (w : World) (V : Ev) (m : Ea) : Prop where
  r : E.Cb bs w (.slice m.A V.ps.length m.a) (.slice m.B V.qs.length m.b) (.slice m.C V.ts.length m.c) V.ps V.qs V.ts
  cs : Kd.R k40 40 w bs (fun _ => True) (.slice m.D V.cs.length m.d) V.cs
theorem EvR.ev {bs : Nat} {w : World} {V : Ev} {m : Ea} (h : EvR bs w V m) : EvM w V m := ⟨(Kd.R_reads' h.r.a).2.2, (Kd.R_reads' h.r.b).2.2, (Kd.R_reads' h.r.c).2.2, (Kd.R_reads' h.cs).2.2⟩
theorem EvR.cap {bs : Nat} {w : World} {V : Ev} {m : Ea} (h : EvR bs w V m) : V.qs.length ≤ m.b := (Kd.R_reads' h.r.b).2.1
end Go.Proofs.Ytiplichdhcmjdaa.T
namespace Go.Proofs.Ytiplichdhcmjdaa.T
open Go.RowKit Go.Proofs.YtiplichdhcmjdaaW.PrintWords Go.Proofs.YtiplichdhcmjdaaW.PrintMore
open Go.Proofs.Ytiplichdhcmjdaa.P
set_option linter.unusedVariables false
set_option linter.unusedSimpArgs false

/-- A row of headers as a row of rows. -/
theorem C_heads {w : World} {b : Nat} {v : Value} {H : List Hd} {ts : List (List Int)} (R : Kd.R kH 22 w b (fun _ => True) v H) (hl : H.length = ts.length) (h : ∀ (j : Nat) (x : Hd) (l : List Int), H[j]? = some x → ts[j]? = some l → x.n = l.length ∧ x.n ≤ x.c ∧ Kd.C kI w x.A x.n l) : ∃ A c, v = .slice A ts.length c ∧ Kd.C kR w A ts.length ts := by
  obtain ⟨A, c, rfl, _, hC⟩ := Kd.R_reads R
  refine ⟨A, c, by rw [hl], ?_⟩
  obtain ⟨h1, h2, h3⟩ := hC
  refine ⟨rfl, by omega, fun hn => ?_⟩
  obtain ⟨ad, rfl, hr⟩ := h3 (by omega)
  refine ⟨ad, rfl, fun j p hj => ?_⟩
  have hjl := (List.getElem?_eq_some_iff.1 hj).1
  obtain ⟨x, hx⟩ := get_ex (show j < H.length by omega)
  obtain ⟨cs, k1, k2, k3⟩ := hr j x hx
  obtain ⟨q1, q2, q3⟩ := h j x p hx hj
  refine ⟨cs, k1, ?_, k3⟩
  obtain rfl : cs = [x.v] := k2
  exact ⟨x.A, x.c, by rw [← q1]; rfl, by omega, by rw [← q1]; exact q3⟩
set_option maxRecDepth 100000 in
set_option maxHeartbeats 8000000 in

theorem own_calls (V : Ev) (m : Ea) (w : World) (hV : EvM w V m) (hs : Sz V) :
    Calls Try.prog 19 #[hv V m] w fun e w' => ∃ A c, e = .returned (.slice A (V.cs.map (·.f0)).length c) ∧ Kd.C kR w' A (V.cs.map (·.f0)).length (V.cs.map (·.f0)) ∧ Below w.heap.size w w' := by
  have hsc := hs.c
  have hu3 := Try.underlying3
  have hu22 := Try.underlying22
  have hu23 := Try.underlying23
  have hu25 := Try.underlying25
  have hu40 := Try.underlying40
  have hu42 := Try.underlying42
  obtain ⟨z22, o22⟩ := info_some info22s (by decide)
  obtain ⟨z23, o23⟩ := info_some info23s (by decide)
  obtain ⟨z40, o40⟩ := info_some info40s (by decide)
  refine E.enter (N := 22) Try.func19 rfl Try.ntmps19 (args := [hv V m]) (by simp) ?_
  have L := Below.refl w.heap.size w
  refine E.CG.seq ?_
  refine E.CG.list ?_
  refine E.GL.st rfl rfl rfl (E.ST.box rfl rfl fun g1 w1 e1 b1 l1 => ?_)
  have h1_L : w.heap.size ≤ g1 := by rw [e1]; exact L.size
  replace L := below_step L l1
  refine E.GL.run rfl rfl rfl (E.Runs.assign rfl rfl) ?_
  refine E.GL.done ?_
  refine E.QG.code ?_
  refine E.CG.seq ?_
  refine E.CG.list ?_
  refine E.GL.run rfl rfl rfl (E.Runs.assign rfl rfl) ?_
  refine E.GL.done ?_
  refine E.QG.code ?_
  refine E.CG.seq ?_
  refine E.CG.seq ?_
  refine E.CG.list ?_
  refine E.GL.run rfl rfl rfl (E.Runs.assign rfl rfl) ?_
  refine E.GL.done ?_
  refine E.QG.code ?_
  refine E.CG.block ?_
  have s3_b1 := b1
  have s3_L := L
  refine E.CG.loop2 (fun (H : List Hd) (v3 : Value) => [(1, .pointer (some ⟨g1, 0, none⟩)), (3, v3), (4, .int .i64 (H.length : Int))]) (fun H v3 w' => H.length ≤ V.cs.length ∧ (∀ (j : Nat) (x : Hd) (l : List Int), H[j]? = some x → (V.cs.map (·.f0))[j]? = some l → x.n = l.length ∧ x.n ≤ x.c ∧ Kd.C kI w x.A x.n l) ∧ Kd.R kH 22 w' w.heap.size (fun _ => True) v3 H ∧ w'.heap[g1]? = some (.cells #[.slice m.A V.ps.length m.a, .slice m.B V.qs.length m.b, .slice m.C V.ts.length m.c, .slice m.D V.cs.length m.d] 25 (0, 0)) ∧ Below w.heap.size w w') (fun H v3 => V.cs.length - H.length) [] (.slice none 0 0) (E.subc rfl (E.subc rfl (E.subc rfl E.subn))) ⟨Nat.zero_le _, (fun j x l h1 => by simp at h1), Kd.R_nil _ _ _ _ _, b1, L⟩ ?_
  rintro H v3 w3 ⟨hi, hH, R3, b1, L⟩
  refine E.CG.seq ?_
  refine E.CG.seq ?_
  refine E.CG.list ?_
  refine E.GL.run rfl rfl rfl (E.Runs.move rfl rfl) ?_
  refine E.GL.run rfl rfl rfl (E.Runs.fieldAddr rfl rfl hu25 rfl (by assumption) rfl) ?_
  refine E.GL.run rfl rfl rfl (E.Runs.load1 rfl rfl hu23 rfl (by first | assumption | exact E.blkc (by assumption) rfl | exact pw_cell_below L (by assumption))) ?_
  refine E.GL.run rfl rfl rfl (E.Runs.len rfl rfl hu23) ?_
  refine E.GL.cmp rfl rfl rfl (fun _ h => (E.Runs.lss rfl rfl rfl h)) (fun h9 => ?_) (fun h9 => ?_)
  · obtain ⟨c, hc⟩ := get_ex (show H.length < V.cs.length by omega)
    obtain ⟨ad, a0, k0, eA, hk0, hx0, X⟩ := till_at hV.cs hc
    refine E.GL.done ?_
    refine E.QG.code ?_
    refine E.CG.cond_t rfl ?_
    refine E.CG.skip ?_
    refine E.QG.code ?_
    refine E.CG.seq ?_
    refine E.CG.block ?_
    refine E.CG.list ?_
    refine E.GL.run rfl rfl rfl (E.Runs.move rfl rfl) ?_
    refine E.GL.run rfl rfl rfl (E.Runs.fieldAddr rfl rfl hu25 rfl (by assumption) rfl) ?_
    refine E.GL.run rfl rfl rfl (E.Runs.load1 rfl rfl hu23 rfl (by first | assumption | exact E.blkc (by assumption) rfl | exact pw_cell_below L (by assumption))) ?_
    refine E.GL.run rfl rfl rfl (E.Runs.move rfl rfl) ?_
    refine E.GL.run rfl rfl rfl (E.Runs.indexAddrA (i := H.length) rfl rfl rfl hu23 z40 o40 (by omega) eA rfl) ?_
    refine E.GL.run rfl rfl rfl (E.Runs.fieldAddr rfl rfl hu40 rfl (by assumption) rfl) ?_
    refine E.GL.run rfl rfl rfl (E.Runs.load1 rfl rfl hu22 rfl (show _ = some (Value.slice a0 c.f0.length k0) from pw_cell_below L (X 0 _ rfl))) ?_
    refine E.GL.st rfl rfl rfl (E.ST.lit rfl (E.epc rfl E.epn) (lit42 _ _ _) ?_)
    refine E.GL.st rfl rfl rfl (E.ST.append kH w.heap.size (w0 := w) (s := .tmp 12) (x := .tmp 19) rfl hu42 info22b rfl (by decide) (by decide) (⟨a0, c.f0.length, k0⟩ : Hd) rfl rfl rfl (fun _ _ => trivial) R3 L L.size (by omega) fun u20 w20 r20 k20 gr20 => ?_)
    replace b1 := blk_grown b1 gr20 (Kd.R_ne R3 b1 (by decide))
    replace L := k20
    refine E.GL.run rfl rfl rfl (E.Runs.assign rfl rfl) ?_
    refine E.GL.done ?_
    refine E.QG.block_normal ?_
    refine E.QG.code ?_
    refine E.CG.list ?_
    refine E.GL.run rfl rfl rfl (E.Runs.move rfl rfl) ?_
    refine E.GL.run rfl rfl rfl (E.Runs.add rfl rfl rfl (IntWalk.i64_in _ (by omega))) ?_
    refine E.GL.run rfl rfl rfl (E.Runs.assign rfl rfl) ?_
    refine E.GL.done ?_
    exact E.QG.round2 (d := .slice none 0 0) (H ++ [(⟨a0, c.f0.length, k0⟩ : Hd)]) _ (E.subc rfl (E.subc rfl (E.subc (congrArg (fun n => some (Value.int .i64 n)) (show ((H.length : Int) + 1) = ((H ++ [(⟨a0, c.f0.length, k0⟩ : Hd)]).length : Int) by simp)) E.subn))) ⟨by rw [List.length_append, List.length_singleton]; omega, (fun j x l h1 h2 => by
        by_cases hj : j < H.length
        · rw [List.getElem?_append_left hj] at h1; exact hH j x l h1 h2
        · have hjl := (List.getElem?_eq_some_iff.1 h1).1
          rw [List.length_append, List.length_singleton] at hjl
          obtain rfl : j = H.length := by omega
          rw [List.getElem?_append_right (Nat.le_refl _), Nat.sub_self] at h1
          obtain rfl : (⟨a0, c.f0.length, k0⟩ : Hd) = x := by simpa using h1
          rw [List.getElem?_map, hc] at h2
          obtain rfl : c.f0 = l := by simpa using h2
          exact ⟨rfl, hk0, hx0⟩), r20, b1, L⟩ (by rw [List.length_append, List.length_singleton]; omega)
  · obtain ⟨A, c, rfl, hC⟩ := C_heads (ts := V.cs.map (·.f0)) R3 (by rw [List.length_map]; omega) (fun j x l h1 h2 => ⟨(hH j x l h1 h2).1, (hH j x l h1 h2).2.1, Kd.C_below (hH j x l h1 h2).2.2 L⟩)
    refine E.GL.done ?_
    refine E.QG.code ?_
    refine E.CG.cond_f rfl ?_
    refine E.CG.exit ?_
    refine E.QG.pass_exit ?_
    refine E.QG.pass_exit ?_
    refine E.QG.block_here ?_
    refine E.QG.code ?_
    refine E.CG.seq ?_
    refine E.CG.list ?_
    refine E.GL.run rfl rfl rfl (E.Runs.move rfl rfl) ?_
    refine E.GL.run rfl rfl rfl (E.Runs.assign rfl rfl) ?_
    refine E.GL.done ?_
    refine E.QG.code ?_
    refine E.CG.ret ?_
    exact E.QG.result rfl rfl ⟨A, c, rfl, hC, L⟩

/-- The chapter's example. -/
abbrev eV : Ev := ⟨[5, 8], [7, 6], [7, 5], [⟨[4, 2], 100, 106, 0, 10, 46⟩, ⟨[3, 3], 200, 208, 1, 0, 47⟩]⟩
def eL : List (List (List Int)) := [[[4, 2], [3, 4]]]
theorem ex_ok : VOk eV := by decide
theorem ex_sz : Sz eV := ex_ok.sz
theorem ex_parts : partsA eV = (1, 1) := by kernel_rfl
theorem ex_chk : chkV eV = 0 := chkV_yes ex_ok
theorem ex_0 : trL eV eV.cs.length 0 ((0 : Nat) : Int) (bl eV.qs) = [] := by kernel_rfl
theorem ex_1 : trL eV eV.cs.length 0 ((1 : Nat) : Int) (bl eV.qs) = eL := by kernel_rfl
theorem ex_lik : LikR eV eL 1 := by
  have h0 : ∀ t, Truth eV t → ((0 : Nat) : Int) ≤ flT eV 0 t := fun t _ => (flT_01 eV t 0).1
  have h1 := tr_none ex_ok h0 ex_0
  have h2 := tr_some ex_ok h1 (by rw [ex_1]; exact List.cons_ne_nil _ _)
  rw [ex_1] at h2
  exact h2
theorem ex_lk : (∃ t, Truth eV t) ∧ fewN eV = 1 ∧ LkS eV eL := by
  rcases ex_lik with h | h
  · exact absurd h.2.1 (List.cons_ne_nil _ _)
  · exact ⟨h.1, h.2.2.1.symm, h.2.2.2.1⟩
theorem ex_err : errV eV = 0 := by
  obtain ⟨⟨t, ht⟩, _⟩ := ex_lk
  exact errV_ok ex_ok ht
theorem ex_few : fewA eV = 1 := by unfold fewA; rw [if_pos ex_err, ex_lk.2.1]
theorem ex_errT : errT eV 1 1 = 0 := by
  obtain ⟨⟨t, ht⟩, _⟩ := ex_lk
  exact errT_ok ex_ok (by decide) ht
theorem ex_span : loV eV 1 1 (fun b => b.get (1 : Int).toNat) = 4 ∧ hiV eV 1 1 (fun b => b.get (1 : Int).toNat) = 4 := by
  have h := span_r (q := fun b => b.get (1 : Int).toNat) (till := 1) (sh := 1) ex_ok ex_lk.2.2 (by decide) ex_errT (f := fRe 1 1) (fun t b _ k1 _ => fRe_q (by decide) (by decide) k1) (o0 := [[4, 2], [3, 4]]) (List.mem_singleton.mpr rfl)
  exact ⟨h.1.trans (by kernel_rfl), h.2.trans (by kernel_rfl)⟩
theorem ex_susp : tA eV (suspP eV) = [1] := by
  obtain ⟨⟨t, ht⟩, _, hS⟩ := ex_lk
  have h0 : ¬ suspP eV 0 := fun h => absurd ((cnt_susp ex_ok hS (by decide)).mpr h) (by decide)
  have h1 : suspP eV 1 := (cnt_susp ex_ok hS (by decide)).mp (by decide)
  rw [tA_ok ex_ok ht]
  show tL eV (suspP eV) 2 = _
  rw [tL_yes h1, tL_no h0]
  rfl
set_option maxRecDepth 100000 in
theorem lit22_2 (a b : Int) (W : World) : (Instr.buildSlice 22 2 #[(0, .int .i64 a), (1, .int .i64 b)]).run Try.prog W = .ok (.slice (some ⟨W.heap.size, 0, none⟩) 2 2) (W.alloc (.cells (([a, b] : List Int).map (Value.int .i64)).toArray 3 (0, 0))) := by
  have hu22 := Try.underlying22
  go_simp
def six40 (A : Option Addr) (x : S40) (k : Nat) : List Value := [.slice A x.f0.length k, .int .i64 x.f1, .int .i64 x.f2, .int .i64 x.f3, .int .i64 x.f4, .int .i64 x.f5]
set_option maxRecDepth 100000 in
theorem lit23_2 (A B : Option Addr) (n c m d a1 a2 a3 a4 a5 b1 b2 b3 b4 b5 : Nat) (W : World) : (Instr.buildSlice 23 2 #[(0, .agg #[.slice A n c, .int .i64 a1, .int .i64 a2, .int .i64 a3, .int .i64 a4, .int .i64 a5]), (1, .agg #[.slice B m d, .int .i64 b1, .int .i64 b2, .int .i64 b3, .int .i64 b4, .int .i64 b5])]).run Try.prog W = .ok (.slice (some ⟨W.heap.size, 0, none⟩) 2 2) (W.alloc (.cells #[.slice A n c, .int .i64 a1, .int .i64 a2, .int .i64 a3, .int .i64 a4, .int .i64 a5, .slice B m d, .int .i64 b1, .int .i64 b2, .int .i64 b3, .int .i64 b4, .int .i64 b5] 40 (0, 0))) := by
  have hu23 := Try.underlying23
  go_simp
set_option maxRecDepth 100000 in
theorem build40a (A : Option Addr) (n c : Nat) (a b d e : Int) (W : World) : (Instr.build 40 #[(0, .slice A n c), (1, .int .i64 a), (2, .int .i64 b), (4, .int .i64 d), (5, .int .i64 e)]).run Try.prog W = .ok (.agg #[.slice A n c, .int .i64 a, .int .i64 b, .int .i64 0, .int .i64 d, .int .i64 e]) W := by
  have hu3 := Try.underlying3
  have hu22 := Try.underlying22
  have hu40 := Try.underlying40
  go_simp
set_option maxRecDepth 100000 in
theorem build40b (A : Option Addr) (n c : Nat) (a b d e : Int) (W : World) : (Instr.build 40 #[(0, .slice A n c), (1, .int .i64 a), (2, .int .i64 b), (3, .int .i64 d), (5, .int .i64 e)]).run Try.prog W = .ok (.agg #[.slice A n c, .int .i64 a, .int .i64 b, .int .i64 d, .int .i64 0, .int .i64 e]) W := by
  have hu3 := Try.underlying3
  have hu22 := Try.underlying22
  have hu40 := Try.underlying40
  go_simp
set_option maxRecDepth 100000 in
theorem build25f (A B C D : Option Addr) (n c m d k e l f : Nat) (W : World) : (Instr.build 25 #[(0, .slice A n c), (1, .slice B m d), (2, .slice C k e), (3, .slice D l f)]).run Try.prog W = .ok (.agg #[.slice A n c, .slice B m d, .slice C k e, .slice D l f]) W := by
  have hu22 := Try.underlying22
  have hu23 := Try.underlying23
  have hu25 := Try.underlying25
  go_simp
theorem C_tills {w : World} {g : Nat} {A B : Option Addr} {x y : S40} {k k' : Nat} (hx : Kd.C kI w A x.f0.length x.f0) (hy : Kd.C kI w B y.f0.length y.f0) (h1 : x.f0.length ≤ k) (h2 : y.f0.length ≤ k') (hb : w.heap[g]? = some (.cells (six40 A x k ++ six40 B y k').toArray 40 (0, 0))) : Kd.C k40 w (some ⟨g, 0, none⟩) 2 [x, y] := by
  refine ⟨rfl, by omega, fun _ => ⟨_, rfl, ?_⟩⟩
  intro j p hj
  rcases j with _ | _ | j
  · obtain rfl : x = p := by simpa using hj
    refine ⟨six40 A x k, rfl, k40_mk w x h1 hx, fun i u hu => ?_⟩
    have hi : i < 6 := (List.getElem?_eq_some_iff.1 hu).1
    rw [Addr.add_mid, Nat.zero_add, blk_cell hb]
    rw [List.getElem?_toArray, List.getElem?_append_left (by show _ < 6; omega)]
    rw [Nat.zero_mul, Nat.zero_add]
    exact hu
  · obtain rfl : y = p := by simpa using hj
    refine ⟨six40 B y k', rfl, k40_mk w y h2 hy, fun i u hu => ?_⟩
    have hi : i < 6 := (List.getElem?_eq_some_iff.1 hu).1
    rw [Addr.add_mid, Nat.zero_add, blk_cell hb]
    rw [List.getElem?_toArray, List.getElem?_append_right (by show 6 ≤ _; show 6 ≤ (0 + 1) * 6 + i; omega)]
    show (six40 B y k')[(0 + 1) * 6 + i - 6]? = some u
    rw [show (0 + 1) * 6 + i - 6 = i by omega]
    exact hu
  · simp at hj
set_option maxRecDepth 100000 in
set_option maxHeartbeats 8000000 in

theorem example_calls (w : World) :
    Calls Try.prog 43 #[] w fun e w' => ∃ m, e = .returned (hv eV m) ∧ EvM w' eV m ∧ Below w.heap.size w w' := by
  have hu25 := Try.underlying25
  refine E.enter (N := 10) Try.func43 rfl Try.ntmps43 (args := []) (by simp) ?_
  have L := Below.refl w.heap.size w
  refine E.CG.seq ?_
  refine E.CG.list ?_
  refine E.GL.st rfl rfl rfl (E.ST.alloc rfl info25z fun g0 w0 e0 b0 l0 => ?_)
  have h0_L : w.heap.size ≤ g0 := by rw [e0]; exact L.size
  replace L := below_step L l0
  refine E.GL.done ?_
  refine E.QG.code ?_
  refine E.CG.seq ?_
  refine E.CG.list ?_
  refine E.GL.st rfl rfl rfl (E.ST.litB (cs := (([5, 8] : List Int).map (Value.int .i64)).toArray) rfl (E.epc rfl (E.epc rfl E.epn)) (lit22_2 _ _) fun g1 w1 e1 b1 l1 => ?_)
  have h1_L : w.heap.size ≤ g1 := by rw [e1]; exact L.size
  have n1_b0 : g0 ≠ g1 := by have := blk_lt b0; omega
  replace b0 := blk_below b0 l1
  replace L := below_step L l1
  refine E.GL.st rfl rfl rfl (E.ST.litB (cs := (([7, 6] : List Int).map (Value.int .i64)).toArray) rfl (E.epc rfl (E.epc rfl E.epn)) (lit22_2 _ _) fun g2 w2 e2 b2 l2 => ?_)
  have h2_L : w.heap.size ≤ g2 := by rw [e2]; exact L.size
  have n2_b0 : g0 ≠ g2 := by have := blk_lt b0; omega
  have n2_b1 : g1 ≠ g2 := by have := blk_lt b1; omega
  replace b0 := blk_below b0 l2
  replace b1 := blk_below b1 l2
  replace L := below_step L l2
  refine E.GL.st rfl rfl rfl (E.ST.litB (cs := (([7, 5] : List Int).map (Value.int .i64)).toArray) rfl (E.epc rfl (E.epc rfl E.epn)) (lit22_2 _ _) fun g3 w3 e3 b3 l3 => ?_)
  have h3_L : w.heap.size ≤ g3 := by rw [e3]; exact L.size
  have n3_b0 : g0 ≠ g3 := by have := blk_lt b0; omega
  have n3_b1 : g1 ≠ g3 := by have := blk_lt b1; omega
  have n3_b2 : g2 ≠ g3 := by have := blk_lt b2; omega
  replace b0 := blk_below b0 l3
  replace b1 := blk_below b1 l3
  replace b2 := blk_below b2 l3
  replace L := below_step L l3
  refine E.GL.st rfl rfl rfl (E.ST.litB (cs := (([4, 2] : List Int).map (Value.int .i64)).toArray) rfl (E.epc rfl (E.epc rfl E.epn)) (lit22_2 _ _) fun g4 w4 e4 b4 l4 => ?_)
  have h4_L : w.heap.size ≤ g4 := by rw [e4]; exact L.size
  have n4_b0 : g0 ≠ g4 := by have := blk_lt b0; omega
  have n4_b1 : g1 ≠ g4 := by have := blk_lt b1; omega
  have n4_b2 : g2 ≠ g4 := by have := blk_lt b2; omega
  have n4_b3 : g3 ≠ g4 := by have := blk_lt b3; omega
  replace b0 := blk_below b0 l4
  replace b1 := blk_below b1 l4
  replace b2 := blk_below b2 l4
  replace b3 := blk_below b3 l4
  replace L := below_step L l4
  refine E.GL.run rfl rfl rfl (E.Runs.build rfl (E.epc rfl (E.epc rfl (E.epc rfl (E.epc rfl (E.epc rfl E.epn))))) (build40a _ _ _ _ _ _ _)) ?_
  refine E.GL.st rfl rfl rfl (E.ST.litB (cs := (([3, 3] : List Int).map (Value.int .i64)).toArray) rfl (E.epc rfl (E.epc rfl E.epn)) (lit22_2 _ _) fun g6 w6 e6 b6 l6 => ?_)
  have h6_L : w.heap.size ≤ g6 := by rw [e6]; exact L.size
  have n6_b0 : g0 ≠ g6 := by have := blk_lt b0; omega
  have n6_b1 : g1 ≠ g6 := by have := blk_lt b1; omega
  have n6_b2 : g2 ≠ g6 := by have := blk_lt b2; omega
  have n6_b3 : g3 ≠ g6 := by have := blk_lt b3; omega
  have n6_b4 : g4 ≠ g6 := by have := blk_lt b4; omega
  replace b0 := blk_below b0 l6
  replace b1 := blk_below b1 l6
  replace b2 := blk_below b2 l6
  replace b3 := blk_below b3 l6
  replace b4 := blk_below b4 l6
  replace L := below_step L l6
  refine E.GL.run rfl rfl rfl (E.Runs.build rfl (E.epc rfl (E.epc rfl (E.epc rfl (E.epc rfl (E.epc rfl E.epn))))) (build40b _ _ _ _ _ _ _)) ?_
  refine E.GL.st rfl rfl rfl (E.ST.litB (cs := (six40 (some ⟨g4, 0, none⟩) (⟨[4, 2], 100, 106, 0, 10, 46⟩ : S40) 2 ++ six40 (some ⟨g6, 0, none⟩) (⟨[3, 3], 200, 208, 1, 0, 47⟩ : S40) 2).toArray) rfl (E.epc rfl (E.epc rfl E.epn)) (lit23_2 (some ⟨g4, 0, none⟩) (some ⟨g6, 0, none⟩) 2 2 2 2 100 106 0 10 46 200 208 1 0 47) fun g8 w8 e8 b8 l8 => ?_)
  have h8_L : w.heap.size ≤ g8 := by rw [e8]; exact L.size
  have n8_b0 : g0 ≠ g8 := by have := blk_lt b0; omega
  have n8_b1 : g1 ≠ g8 := by have := blk_lt b1; omega
  have n8_b2 : g2 ≠ g8 := by have := blk_lt b2; omega
  have n8_b3 : g3 ≠ g8 := by have := blk_lt b3; omega
  have n8_b4 : g4 ≠ g8 := by have := blk_lt b4; omega
  have n8_b6 : g6 ≠ g8 := by have := blk_lt b6; omega
  replace b0 := blk_below b0 l8
  replace b1 := blk_below b1 l8
  replace b2 := blk_below b2 l8
  replace b3 := blk_below b3 l8
  replace b4 := blk_below b4 l8
  replace b6 := blk_below b6 l8
  replace L := below_step L l8
  refine E.GL.run rfl rfl rfl (E.Runs.build rfl (E.epc rfl (E.epc rfl (E.epc rfl (E.epc rfl E.epn)))) (build25f _ _ _ _ _ _ _ _ _ _ _ _)) ?_
  refine E.GL.store_whole rfl rfl rfl rfl rfl b0 rfl info25s (slices4_one _ _ _ _ _ _ _ _ _ _ _ _) fun wS1_9 c0 lS1_9 => ?_
  replace b1 := blk_grown b1 lS1_9 (E.nes (by first | assumption | exact Ne.symm (by assumption)))
  replace b2 := blk_grown b2 lS1_9 (E.nes (by first | assumption | exact Ne.symm (by assumption)))
  replace b3 := blk_grown b3 lS1_9 (E.nes (by first | assumption | exact Ne.symm (by assumption)))
  replace b4 := blk_grown b4 lS1_9 (E.nes (by first | assumption | exact Ne.symm (by assumption)))
  replace b6 := blk_grown b6 lS1_9 (E.nes (by first | assumption | exact Ne.symm (by assumption)))
  replace b8 := blk_grown b8 lS1_9 (E.nes (by first | assumption | exact Ne.symm (by assumption)))
  replace L := E.below_own L h0_L lS1_9
  replace b0 := c0
  clear c0
  refine E.GL.done ?_
  refine E.QG.code ?_
  refine E.CG.ret ?_
  exact E.QG.result_c rfl rfl b0 hu25 rfl info25s ⟨⟨some ⟨g1, 0, none⟩, 2, some ⟨g2, 0, none⟩, 2, some ⟨g3, 0, none⟩, 2, some ⟨g8, 0, none⟩, 2⟩, rfl, ⟨C_nums [5, 8] b1 (by decide), C_nums [7, 6] b2 (by decide), C_nums [7, 5] b3 (by decide), C_tills (x := (⟨[4, 2], 100, 106, 0, 10, 46⟩ : S40)) (y := (⟨[3, 3], 200, 208, 1, 0, 47⟩ : S40)) (C_nums [4, 2] b4 (by decide)) (C_nums [3, 3] b6 (by decide)) (by decide) (by decide) b8⟩, L⟩

end Go.Proofs.Ytiplichdhcmjdaa.T
namespace Go.Proofs.Ytiplichdhcmjdaa.T
open Go.RowKit Go.Proofs.YtiplichdhcmjdaaW.PrintWords Go.Proofs.YtiplichdhcmjdaaW.PrintMore
open Go.Proofs.Ytiplichdhcmjdaa.P
set_option linter.unusedVariables false
set_option linter.unusedSimpArgs false

set_option maxRecDepth 100000 in
theorem equal34 (a b : Int) (W : World) : (Op.equal 34 (.agg #[.int .i64 a, .int .i64 b]) (.agg #[.int .i64 a, .int .i64 b])).run Try.prog W = .ok true W := by
  have hu3 := Try.underlying3
  have hu34 := Try.underlying34
  have h34 := Try.stoodInHeld34
  unfold Op.equal Op.maxDepth
  go_simp
set_option maxRecDepth 100000 in
theorem lit22_1 (a : Int) (W : World) : (Instr.buildSlice 22 1 #[(0, .int .i64 a)]).run Try.prog W = .ok (.slice (some ⟨W.heap.size, 0, none⟩) 1 1) (W.alloc (.cells (([a] : List Int).map (Value.int .i64)).toArray 3 (0, 0))) := lit22 a W
set_option maxRecDepth 100000 in
set_option maxHeartbeats 8000000 in

theorem works_calls (w : World) :
    Calls Try.prog 13 #[] w fun e w' => e = .returned (.bool true) ∧ Below w.heap.size w w' := by
  have hu3 := Try.underlying3
  have hu22 := Try.underlying22
  have hu25 := Try.underlying25
  have hu28 := Try.underlying28
  have hu34 := Try.underlying34
  refine E.enter (N := 69) Try.func13 rfl Try.ntmps13 (args := []) (by simp) ?_
  have L := Below.refl w.heap.size w
  refine E.CG.seq ?_
  refine E.CG.list ?_
  refine E.GL.run rfl rfl rfl (E.Runs.assign rfl rfl) ?_
  refine E.GL.done ?_
  refine E.QG.code ?_
  refine E.CG.seq ?_
  refine E.CG.list ?_
  refine E.GL.st rfl rfl rfl (E.ST.call rfl ent43 E.evn ((example_calls _).mono ?_))
  rintro e w11 ⟨m, rfl, hEv, l11⟩
  refine ⟨_, rfl, ?_⟩
  replace L := below_step L l11
  have lo := Below.refl w11.heap.size w11
  refine E.GL.st rfl rfl rfl (E.ST.alloc rfl info25z fun g1 w1 e1 b1 l1 => ?_)
  have h1_L : w.heap.size ≤ g1 := by rw [e1]; exact L.size
  have h1_lo : w11.heap.size ≤ g1 := by rw [e1]; exact lo.size
  replace L := below_step L l1
  replace lo := below_step lo l1
  refine E.GL.store_whole rfl rfl rfl rfl rfl b1 rfl info25s (slices4_one _ _ _ _ _ _ _ _ _ _ _ _) fun wS1_2 c1 lS1_2 => ?_
  replace L := E.below_own L h1_L lS1_2
  replace lo := E.below_own lo h1_lo lS1_2
  replace b1 := c1
  clear c1
  refine E.GL.done ?_
  refine E.QG.code ?_
  refine E.CG.seq ?_
  refine E.CG.list ?_
  refine E.GL.run rfl rfl rfl (E.Runs.loads (cs := [.slice m.A 2 m.a, .slice m.B 2 m.b, .slice m.C 2 m.c, .slice m.D 2 m.d]) rfl rfl hu25 rfl info25s (blk_cells b1)) ?_
  refine E.GL.st rfl rfl rfl (E.ST.call rfl ent14 (E.evc rfl E.evn) ((parts14 eV m _ (hEv.below lo) ex_sz).mono ?_))
  rintro e w14 ⟨rfl, l14⟩
  refine ⟨_, rfl, ?_⟩
  replace b1 := blk_below b1 l14
  replace L := below_step L l14
  replace lo := below_step lo l14
  rw [ex_parts, ex_chk]
  refine E.GL.run rfl rfl rfl (E.Runs.move rfl rfl) ?_
  refine E.GL.run rfl rfl rfl (E.Runs.extract rfl rfl rfl) ?_
  refine E.GL.run rfl rfl rfl (E.Runs.extract rfl rfl rfl) ?_
  refine E.GL.run rfl rfl rfl (E.Runs.extract rfl rfl rfl) ?_
  refine E.GL.run rfl rfl rfl (E.Runs.assign rfl rfl) ?_
  refine E.GL.run rfl rfl rfl (E.Runs.assign rfl rfl) ?_
  refine E.GL.run rfl rfl rfl (E.Runs.assign rfl rfl) ?_
  refine E.GL.done ?_
  refine E.QG.code ?_
  refine E.CG.seq ?_
  refine E.CG.list ?_
  refine E.GL.run rfl rfl rfl (E.Runs.loads (cs := [.slice m.A 2 m.a, .slice m.B 2 m.b, .slice m.C 2 m.c, .slice m.D 2 m.d]) rfl rfl hu25 rfl info25s (blk_cells b1)) ?_
  refine E.GL.st rfl rfl rfl (E.ST.call rfl ent15 (E.evc rfl E.evn) ((fewest_calls eV m _ (hEv.below lo) ex_sz).mono ?_))
  rintro e w20 ⟨rfl, l20⟩
  refine ⟨_, rfl, ?_⟩
  replace b1 := blk_below b1 l20
  replace L := below_step L l20
  replace lo := below_step lo l20
  rw [ex_few, ex_err]
  refine E.GL.run rfl rfl rfl (E.Runs.move rfl rfl) ?_
  refine E.GL.run rfl rfl rfl (E.Runs.extract rfl rfl rfl) ?_
  refine E.GL.run rfl rfl rfl (E.Runs.extract rfl rfl rfl) ?_
  refine E.GL.run rfl rfl rfl (E.Runs.assign rfl rfl) ?_
  refine E.GL.run rfl rfl rfl (E.Runs.assign rfl rfl) ?_
  refine E.GL.done ?_
  refine E.QG.code ?_
  refine E.CG.seq ?_
  refine E.CG.list ?_
  refine E.GL.run rfl rfl rfl (E.Runs.loads (cs := [.slice m.A 2 m.a, .slice m.B 2 m.b, .slice m.C 2 m.c, .slice m.D 2 m.d]) rfl rfl hu25 rfl info25s (blk_cells b1)) ?_
  refine E.GL.st rfl rfl rfl (E.ST.call rfl ent16 (E.evc rfl (E.evc rfl (E.evc rfl E.evn))) ((really_calls eV m 1 1 _ (hEv.below lo) ex_sz).mono ?_))
  rintro e w25 ⟨rfl, l25⟩
  refine ⟨_, rfl, ?_⟩
  replace b1 := blk_below b1 l25
  replace L := below_step L l25
  replace lo := below_step lo l25
  rw [ex_span.1, ex_span.2, ex_errT]
  refine E.GL.run rfl rfl rfl (E.Runs.move rfl rfl) ?_
  refine E.GL.run rfl rfl rfl (E.Runs.extract rfl rfl rfl) ?_
  refine E.GL.run rfl rfl rfl (E.Runs.extract rfl rfl rfl) ?_
  refine E.GL.st rfl rfl rfl (E.ST.alloc rfl info34z fun g7 w7 e7 b7 l7 => ?_)
  have h7_L : w.heap.size ≤ g7 := by rw [e7]; exact L.size
  have h7_lo : w11.heap.size ≤ g7 := by rw [e7]; exact lo.size
  have n7_b1 : g1 ≠ g7 := by have := blk_lt b1; omega
  replace b1 := blk_below b1 l7
  replace L := below_step L l7
  replace lo := below_step lo l7
  refine E.GL.store_whole rfl rfl rfl rfl rfl b7 rfl info34s (two_one _ _) fun wS4_6 c7 lS4_6 => ?_
  replace b1 := blk_grown b1 lS4_6 (E.nes (by first | assumption | exact Ne.symm (by assumption)))
  replace L := E.below_own L h7_L lS4_6
  replace lo := E.below_own lo h7_lo lS4_6
  replace b7 := c7
  clear c7
  refine E.GL.run rfl rfl rfl (E.Runs.assign rfl rfl) ?_
  refine E.GL.done ?_
  refine E.QG.code ?_
  refine E.CG.seq ?_
  refine E.CG.list ?_
  refine E.GL.run rfl rfl rfl (E.Runs.loads (cs := [.slice m.A 2 m.a, .slice m.B 2 m.b, .slice m.C 2 m.c, .slice m.D 2 m.d]) rfl rfl hu25 rfl info25s (blk_cells b1)) ?_
  refine E.GL.st rfl rfl rfl (E.ST.call rfl ent17 (E.evc rfl E.evn) ((suspects_calls eV m _ (hEv.below lo) ex_sz).mono ?_))
  rintro e w30 ⟨v30, rfl, R30, l30⟩
  refine ⟨_, rfl, ?_⟩
  replace b1 := blk_below b1 l30
  replace b7 := blk_below b7 l30
  replace L := below_step L l30
  replace lo := below_step lo l30
  have lx := Below.refl w30.heap.size w30
  rw [ex_susp] at R30
  rw [ex_err]
  obtain ⟨A30, c30, hv30⟩ := Kd.R_slice R30
  subst hv30
  obtain ⟨_, _, C30⟩ := Kd.R_reads' R30
  refine E.GL.run rfl rfl rfl (E.Runs.move rfl rfl) ?_
  refine E.GL.run rfl rfl rfl (E.Runs.extract rfl rfl rfl) ?_
  refine E.GL.run rfl rfl rfl (E.Runs.extract rfl rfl rfl) ?_
  refine E.GL.run rfl rfl rfl (E.Runs.assign rfl rfl) ?_
  refine E.GL.run rfl rfl rfl (E.Runs.assign rfl rfl) ?_
  refine E.GL.done ?_
  refine E.QG.code ?_
  refine E.CG.seq ?_
  refine E.CG.list ?_
  refine E.GL.run rfl rfl rfl (E.Runs.move rfl rfl) ?_
  refine E.GL.run rfl rfl rfl (E.Runs.eql rfl rfl rfl (decide_eq_true rfl)) ?_
  refine E.GL.run rfl rfl rfl (E.Runs.move rfl rfl) ?_
  refine E.GL.run rfl rfl rfl (E.Runs.move rfl rfl) ?_
  refine E.GL.run rfl rfl rfl (E.Runs.eql rfl rfl rfl (decide_eq_true rfl)) ?_
  refine E.GL.run rfl rfl rfl (E.Runs.pick_t rfl rfl rfl) ?_
  refine E.GL.run rfl rfl rfl (E.Runs.move rfl rfl) ?_
  refine E.GL.run rfl rfl rfl (E.Runs.move rfl rfl) ?_
  refine E.GL.run rfl rfl rfl (E.Runs.eql rfl rfl rfl (decide_eq_true rfl)) ?_
  refine E.GL.run rfl rfl rfl (E.Runs.pick_t rfl rfl rfl) ?_
  refine E.GL.run rfl rfl rfl (E.Runs.move rfl rfl) ?_
  refine E.GL.run rfl rfl rfl (E.Runs.move rfl rfl) ?_
  refine E.GL.run rfl rfl rfl (E.Runs.eql rfl rfl rfl (decide_eq_true rfl)) ?_
  refine E.GL.run rfl rfl rfl (E.Runs.pick_t rfl rfl rfl) ?_
  refine E.GL.run rfl rfl rfl (E.Runs.move rfl rfl) ?_
  refine E.GL.run rfl rfl rfl (E.Runs.move rfl rfl) ?_
  refine E.GL.run rfl rfl rfl (E.Runs.eql rfl rfl rfl (decide_eq_true rfl)) ?_
  refine E.GL.run rfl rfl rfl (E.Runs.pick_t rfl rfl rfl) ?_
  refine E.GL.run rfl rfl rfl (E.Runs.move rfl rfl) ?_
  refine E.GL.run rfl rfl rfl (E.Runs.move rfl rfl) ?_
  refine E.GL.run rfl rfl rfl (E.Runs.eql rfl rfl rfl (decide_eq_true rfl)) ?_
  refine E.GL.run rfl rfl rfl (E.Runs.pick_t rfl rfl rfl) ?_
  refine E.GL.run rfl rfl rfl (E.Runs.move rfl rfl) ?_
  refine E.GL.run rfl rfl rfl (E.Runs.move rfl rfl) ?_
  refine E.GL.run rfl rfl rfl (E.Runs.eql rfl rfl rfl (decide_eq_true rfl)) ?_
  refine E.GL.run rfl rfl rfl (E.Runs.pick_t rfl rfl rfl) ?_
  refine E.GL.run rfl rfl rfl (E.Runs.move rfl rfl) ?_
  refine E.GL.run rfl rfl rfl (E.Runs.loads (cs := [.int .i64 4, .int .i64 4]) rfl rfl hu34 rfl info34s (blk_cells b7)) ?_
  refine E.GL.run rfl rfl rfl (E.Runs.build rfl (E.epc rfl (E.epc rfl E.epn)) (build34 _ _)) ?_
  refine E.GL.run rfl rfl rfl (E.Runs.eqlv rfl rfl rfl rfl (fun _ _ W => run_eqGuard_agg W _ _ _ _ _ _ Try.eqGuardType34) (equal34 _ _)) ?_
  refine E.GL.run rfl rfl rfl (E.Runs.pick_t rfl rfl rfl) ?_
  refine E.GL.run rfl rfl rfl (E.Runs.move rfl rfl) ?_
  refine E.GL.run rfl rfl rfl (E.Runs.move rfl rfl) ?_
  refine E.GL.st rfl rfl rfl (E.ST.litB (cs := (([1] : List Int).map (Value.int .i64)).toArray) rfl (E.epc rfl E.epn) (lit22_1 _) fun g66 w66 e66 b66 l66 => ?_)
  have h66_L : w.heap.size ≤ g66 := by rw [e66]; exact L.size
  have h66_lo : w11.heap.size ≤ g66 := by rw [e66]; exact lo.size
  have h66_lx : w30.heap.size ≤ g66 := by rw [e66]; exact lx.size
  have n66_b1 : g1 ≠ g66 := by have := blk_lt b1; omega
  have n66_b7 : g7 ≠ g66 := by have := blk_lt b7; omega
  replace b1 := blk_below b1 l66
  replace b7 := blk_below b7 l66
  replace L := below_step L l66
  replace lo := below_step lo l66
  replace lx := below_step lx l66
  refine E.GL.st rfl rfl rfl (E.ST.call rfl ent26 (E.evc rfl (E.evc rfl E.evn)) ((same_calls [1] [1] A30 _ c30 1 _ true (by simp) (Kd.C_below C30 lx) (C_nums [1] b66 (by decide)) (by decide)).mono ?_))
  rintro e w67 ⟨rfl, l67⟩
  refine ⟨_, rfl, ?_⟩
  replace b1 := blk_below b1 l67
  replace b7 := blk_below b7 l67
  replace b66 := blk_below b66 l67
  replace L := below_step L l67
  replace lo := below_step lo l67
  replace lx := below_step lx l67
  refine E.GL.run rfl rfl rfl (E.Runs.pick_t rfl rfl rfl) ?_
  refine E.GL.run rfl rfl rfl (E.Runs.assign rfl rfl) ?_
  refine E.GL.done ?_
  refine E.QG.code ?_
  refine E.CG.ret ?_
  exact E.QG.result rfl rfl ⟨rfl, L⟩

end Go.Proofs.Ytiplichdhcmjdaa.T
namespace Go.Proofs.Ytiplichdhcmjdaa.T
open Go.RowKit Go.Proofs.YtiplichdhcmjdaaW.PrintWords Go.Proofs.YtiplichdhcmjdaaW.PrintMore
open Go.Proofs.Ytiplichdhcmjdaa.P
set_option linter.unusedVariables false
set_option linter.unusedSimpArgs false

end Go.Proofs.Ytiplichdhcmjdaa.T
namespace Go.Proofs.Ytiplichdhcmjdaa.T
open Go.RowKit Go.Proofs.YtiplichdhcmjdaaW.PrintWords Go.Proofs.YtiplichdhcmjdaaW.PrintMore
open Go.Proofs.Ytiplichdhcmjdaa.P
set_option linter.unusedVariables false
set_option linter.unusedSimpArgs false

end Go.Proofs.Ytiplichdhcmjdaa.T
namespace Go.Proofs.Ytiplichdhcmjdaa.T
open Go.RowKit Go.Proofs.YtiplichdhcmjdaaW.PrintWords Go.Proofs.YtiplichdhcmjdaaW.PrintMore
open Go.Proofs.Ytiplichdhcmjdaa.P
set_option linter.unusedVariables false
set_option linter.unusedSimpArgs false

theorem bool_equal (a b : Bool) (W : World) : (Op.equal 4 (.bool a) (.bool b)).run Try.prog W = .ok (a == b) W := run_equal_bool W 4 a b Try.underlying4
theorem err_ok {V : Ev} (h : errV V = 0) : VOk V ∧ ∃ t, Truth V t := by
  rcases errV_cases V with ⟨_, h1⟩ | ⟨_, _, h1⟩ | ⟨h1, h2, _⟩
  · rw [h1] at h; cases h
  · rw [h1] at h; cases h
  · exact ⟨h1, h2⟩
end Go.Proofs.Ytiplichdhcmjdaa.T
namespace Go.Proofs.Ytiplichdhcmjdaa.T
open Go.RowKit Go.Proofs.YtiplichdhcmjdaaW.PrintWords Go.Proofs.YtiplichdhcmjdaaW.PrintMore
open Go.Proofs.Ytiplichdhcmjdaa.P
set_option linter.unusedVariables false
set_option linter.unusedSimpArgs false

theorem err_3 {V : Ev} (ok : VOk V) (h : errV V ≠ 0) : errV V = 3 := by
  rcases errV_cases V with ⟨h1, _⟩ | ⟨_, _, h1⟩ | ⟨_, _, h1⟩
  · exact absurd ok h1
  · exact h1
  · exact absurd h1 h
end Go.Proofs.Ytiplichdhcmjdaa.T
namespace Go.Proofs.Ytiplichdhcmjdaa.T
open Go.RowKit Go.Proofs.YtiplichdhcmjdaaW.PrintWords Go.Proofs.YtiplichdhcmjdaaW.PrintMore
open Go.Proofs.Ytiplichdhcmjdaa.P
set_option linter.unusedVariables false
set_option linter.unusedSimpArgs false

theorem span_is {V : Ev} {till sh : Int} {q : Bl → Int} (ok : VOk V) (hi : till.toNat < V.cs.length) (h : errT V till sh = 0) {t : List Bl} (ht : Truth V t) : valP V till.toNat q (loV V till sh q) ∧ (∀ n, valP V till.toNat q n → loV V till sh q ≤ n) ∧ valP V till.toNat q (hiV V till sh q) ∧ (∀ n, valP V till.toNat q n → n ≤ hiV V till sh q) := by
  have hpos := lkL_pos ok hi ht
  obtain ⟨o0, ho0⟩ := get_ex hpos
  have hm0 := List.mem_of_getElem? ho0
  obtain ⟨e1, e2⟩ := span_ok (q := q) ok hi h rfl hm0
  obtain ⟨a1, a2, a3⟩ := mnL_is (q := q) (lkL V (fewN V) till.toNat (chs V (ct V till.toNat))) (q o0.b)
  obtain ⟨b1, b2, b3⟩ := mxL_is (q := q) (lkL V (fewN V) till.toNat (chs V (ct V till.toNat))) (q o0.b)
  rw [e1, e2]
  refine ⟨(val_iff ok hi).mpr ?_, fun n hn => ?_, (val_iff ok hi).mpr ?_, fun n hn => ?_⟩
  · rcases a1 with a1 | a1
    · exact ⟨o0, hm0, a1.symm⟩
    · exact a1
  · obtain ⟨o, ho, rfl⟩ := (val_iff ok hi).mp hn
    exact a3 o ho
  · rcases b1 with b1 | b1
    · exact ⟨o0, hm0, b1.symm⟩
    · exact b1
  · obtain ⟨o, ho, rfl⟩ := (val_iff ok hi).mp hn
    exact b3 o ho
end Go.Proofs.Ytiplichdhcmjdaa.T
namespace Go.Proofs.Ytiplichdhcmjdaa.T
open Go.RowKit Go.Proofs.YtiplichdhcmjdaaW.PrintWords Go.Proofs.YtiplichdhcmjdaaW.PrintMore
open Go.Proofs.Ytiplichdhcmjdaa.P
set_option linter.unusedVariables false
set_option linter.unusedSimpArgs false

end Go.Proofs.Ytiplichdhcmjdaa.T
namespace Go.Proofs.Ytiplichdhcmjdaa.T
open Go.RowKit Go.Proofs.YtiplichdhcmjdaaW.PrintWords Go.Proofs.YtiplichdhcmjdaaW.PrintMore
open Go.Proofs.Ytiplichdhcmjdaa.P
set_option linter.unusedVariables false
set_option linter.unusedSimpArgs false

theorem firstP_none' {p : Nat → Bool} {n : Nat} (h : firstP p n = none) : ∀ i, i < n → p i = false := fun i hi => by
  unfold firstP at h
  rw [List.find?_eq_none] at h
  have := h i (List.mem_range.mpr hi)
  simpa using this
theorem firstP_some' {p : Nat → Bool} {n i : Nat} (h : firstP p n = some i) : i < n ∧ p i = true := by
  unfold firstP at h
  rw [List.find?_range_eq_some] at h
  exact ⟨List.mem_range.mp h.2.1, h.1⟩
def good (V : Ev) : Prop := (∀ i, i < V.cs.length → badTill V i = false) ∧ ∀ s, s < V.ps.length → badSeat V s = false
theorem parts_cases {V : Ev} (ok : VOk V) : (good V ∧ partsA V = (0, -1)) ∨ (good V ∧ ∃ s : Nat, partsA V = (4, (s : Int))) ∨ (¬ good V ∧ (partsA V).1 ≠ 0 ∧ (partsA V).1 ≠ 4) := by
  rw [partsA_yes ok]
  cases h1 : firstP (badTill V) V.cs.length with
  | some i =>
    obtain ⟨hi, hb⟩ := firstP_some' h1
    refine .inr (.inr ⟨(fun g => by have := g.1 i hi; rw [hb] at this; cases this), ?_⟩)
    unfold partsV
    rw [h1]
    show (if _ then (1 : Int) else 2) ≠ 0 ∧ (if _ then (1 : Int) else 2) ≠ 4
    split <;> decide
  | none =>
    have g1 := firstP_none' h1
    cases h2 : firstP (badSeat V) V.ps.length with
    | some s =>
      obtain ⟨hi, hb⟩ := firstP_some' h2
      refine .inr (.inr ⟨(fun g => by have := g.2 s hi; rw [hb] at this; cases this), ?_⟩)
      unfold partsV
      rw [h1, h2]
      exact ⟨by show (3 : Int) ≠ 0; decide, by show (3 : Int) ≠ 4; decide⟩
    | none =>
      have g2 := firstP_none' h2
      cases h3 : firstP (badStub V) V.ps.length with
      | some s =>
        refine .inr (.inl ⟨⟨g1, g2⟩, s, ?_⟩)
        unfold partsV
        rw [h1, h2, h3]
      | none =>
        refine .inl ⟨⟨g1, g2⟩, ?_⟩
        unfold partsV
        rw [h1, h2, h3]
/-- What the tills say. -/
def ownT (V : Ev) : List Bl := V.cs.map (fun c => bl c.f0)
theorem own_at (V : Ev) {i : Nat} (hi : i < V.cs.length) : (ownT V)[i]? = some (bl (ct V i).f0) := by
  obtain ⟨c, hc⟩ := get_ex hi
  unfold ownT
  rw [List.getElem?_map, hc, ct_of hc]
  rfl
theorem sum_take {V : Ev} : ∀ i, i ≤ V.cs.length → sumT ((ownT V).take i) = allB V i
  | 0, _ => rfl
  | i + 1, h => by
    rw [List.take_add_one, own_at V (by omega), Option.toList_some, sumT_append, sum_take i (by omega), allB]
    show _ = Bl.add _ _
    rw [show sumT [bl (ct V i).f0] = bl (ct V i).f0 from Bl.add_z _]
theorem flT_zero {V : Ev} : ∀ {t : List Bl} {i : Nat}, flT V i t = 0 → ∀ j b, t[j]? = some b → fl V (ct V (i + j)) b = 0
  | x :: t, i, h, 0, b, hj => by
    obtain rfl : x = b := by simpa using hj
    have h1 := flT_01 V t (i + 1)
    have h2 := fl_01 V (ct V i) x
    rw [flT] at h
    rw [Nat.add_zero]
    omega
  | x :: t, i, h, j + 1, b, hj => by
    have h1 := flT_01 V t (i + 1)
    have h2 := fl_01 V (ct V i) x
    rw [flT] at h
    have := flT_zero (V := V) (t := t) (i := i + 1) (by omega) j b (by simpa using hj)
    rwa [show i + 1 + j = i + (j + 1) by omega] at this
  | [], i, h, j, b, hj => by simp at hj
theorem flT_all {V : Ev} : ∀ {t : List Bl} {i : Nat}, (∀ j b, t[j]? = some b → fl V (ct V (i + j)) b = 0) → flT V i t = 0
  | [], _, _ => rfl
  | x :: t, i, h => by
    rw [flT, flT_all (V := V) (t := t) (i := i + 1) fun j b hj => by have := h (j + 1) b (by simpa using hj); rwa [show i + (j + 1) = i + 1 + j by omega] at this]
    have := h 0 x rfl
    rw [Nat.add_zero] at this
    omega
theorem fl_zero {V : Ev} {c : S40} {b : Bl} : fl V c b = 0 ↔ b = bl c.f0 ∧ c.f5 = due V c b := by
  unfold fl flK flM
  by_cases h1 : b = bl c.f0 <;> by_cases h2 : c.f5 = due V c b
  · rw [if_pos h1, if_pos h2]; exact iff_of_true rfl ⟨h1, h2⟩
  · rw [if_pos h1, if_neg h2]; exact iff_of_false (by decide) (fun k => h2 k.2)
  · rw [if_neg h1, if_pos h2]; exact iff_of_false (by decide) (fun k => h1 k.1)
  · rw [if_neg h1, if_neg h2]; exact iff_of_false (by decide) (fun k => h1 k.1)
theorem good_iff {V : Ev} (ok : VOk V) : good V ↔ Truth V (ownT V) ∧ flT V 0 (ownT V) = 0 := by
  have hlen : (ownT V).length = V.cs.length := by simp [ownT]
  have hfin : ∀ i, i < V.cs.length → Fin V.ps.length (bl (ct V i).f0) ∧ SmallB (bl (ct V i).f0) 20 := fun i hi => by
    obtain ⟨c, hc⟩ := get_ex hi
    rw [ct_of hc]
    have hk := ok.c c (List.mem_of_getElem? hc)
    exact ⟨fin_bl hk.1, small_bl hk.2.1 (by decide)⟩
  have hall : sumT (ownT V) = allB V V.cs.length := by
    have := sum_take (V := V) V.cs.length (Nat.le_refl _)
    rwa [List.take_of_length_le (by omega)] at this
  have hp3 := ok.n3
  have hnq := ok.nq
  have hf2 : Fin V.ps.length (allB V V.cs.length) := by
    have : ∀ i, i ≤ V.cs.length → Fin V.ps.length (allB V i) := fun i => by
      induction i with
      | zero => intro _; exact ⟨fun _ => rfl, fun _ => rfl⟩
      | succ i ih => intro h; rw [allB]; exact fin_add (ih (by omega)) (hfin i (by omega)).1
    exact this _ (Nat.le_refl _)
  constructor
  · rintro ⟨g1, g2⟩
    have hbt : ∀ i, i < V.cs.length → (bl (ct V i).f0).sum = rl (ct V i) ∧ (ct V i).f5 = due V (ct V i) (bl (ct V i).f0) := fun i hi => by
      have := g1 i hi
      unfold badTill at this
      rw [decide_eq_false_iff_not] at this
      exact ⟨Decidable.not_not.mp fun k => this (.inl k), Decidable.not_not.mp fun k => this (.inr k)⟩
    refine ⟨⟨hlen, Ws_of fun j b hj => ?_, ?_⟩, flT_all fun j b hj => ?_⟩
    · have hjl : j < V.cs.length := by have := (List.getElem?_eq_some_iff.1 hj).1; omega
      rw [own_at V hjl] at hj
      obtain rfl := Option.some.inj hj
      rw [Nat.zero_add]
      have hs := (hfin j hjl).2
      exact ⟨(hs 0 (by decide)).1, (hs 1 (by decide)).1, (hs 2 (by decide)).1, (hfin j hjl).1.1, (hfin j hjl).1.2, (hbt j hjl).1⟩
    · rw [hall]
      refine Bl.eq_get fun s hs => ?_
      by_cases h : s < V.ps.length
      · have := g2 s h
        unfold badSeat at this
        rw [decide_eq_false_iff_not] at this
        rw [bl_get _ hs]
        exact Decidable.not_not.mp this
      · have h1 : (allB V V.cs.length).get s = 0 := by
          have hs3 : s = 0 ∨ s = 1 ∨ s = 2 := by omega
          have := ok.n1
          rcases hs3 with rfl | rfl | rfl
          · omega
          · exact hf2.1 (by omega)
          · exact hf2.2 (by omega)
        rw [h1, bl_get _ hs, getD_past (by omega)]
    · have hjl : j < V.cs.length := by have := (List.getElem?_eq_some_iff.1 hj).1; omega
      rw [own_at V hjl] at hj
      obtain rfl := Option.some.inj hj
      rw [Nat.zero_add]
      exact fl_zero.mpr ⟨rfl, (hbt j hjl).2⟩
  · rintro ⟨ht, hz⟩
    refine ⟨fun i hi => ?_, fun s hs => ?_⟩
    · have hw := Ws_get ht.2.1 (own_at V hi)
      have h0 := flT_zero hz i _ (own_at V hi)
      rw [Nat.zero_add] at hw h0
      unfold badTill
      rw [decide_eq_false_iff_not]
      rintro (k | k)
      · exact k hw.2.2.2.2.2
      · exact k (fl_zero.mp h0).2
    · unfold badSeat
      rw [decide_eq_false_iff_not, ← hall, ht.2.2, bl_get _ (by omega)]
      exact fun k => k rfl
/-- An evening that agrees. -/
theorem good_one {V : Ev} (ok : VOk V) (g : good V) : errV V = 0 ∧ fewA V = 0 ∧ (∀ t, Lkly V t ↔ t = ownT V) := by
  obtain ⟨ht, hz⟩ := (good_iff ok).mp g
  have hf : fewN V = 0 := fewN_eq ⟨⟨_, ht, hz⟩, fun t _ => (flT_01 V t 0).1⟩
  refine ⟨errV_ok ok ht, by rw [fewA_ok ok ht, hf], fun t => ⟨fun h => ?_, fun h => by subst h; exact ⟨ht, by rw [hf]; exact hz⟩⟩⟩
  have hl : (ownT V).length = V.cs.length := by simp [ownT]
  refine List.ext_getElem? fun j => ?_
  by_cases hj : j < V.cs.length
  · obtain ⟨b, hb⟩ := get_ex (show j < t.length by rw [h.1.1]; exact hj)
    have h0 := flT_zero (h.2.trans hf) j b hb
    rw [Nat.zero_add] at h0
    rw [hb, own_at V hj, (fl_zero.mp h0).1]
  · rw [List.getElem?_eq_none (by rw [h.1.1]; omega), List.getElem?_eq_none (by omega)]
theorem good_susp {V : Ev} (ok : VOk V) (g : good V) : tA V (suspP V) = [] := by
  obtain ⟨h1, _, h3⟩ := good_one ok g
  obtain ⟨ht, hz⟩ := (good_iff ok).mp g
  rw [tA_ok ok ht]
  refine List.eq_nil_iff_forall_not_mem.mpr fun x hx => ?_
  obtain ⟨i, hi, ⟨t, b, k1, k2, k3⟩, _⟩ := tL_mem.mp hx
  rw [(h3 t).mp k1] at k2
  have h0 := flT_zero hz i b k2
  rw [Nat.zero_add] at h0
  omega
theorem good_span {V : Ev} (ok : VOk V) (g : good V) {i s : Nat} (hi : i < V.cs.length) (hs : s < V.ps.length) {x : Int} (hx : (ct V i).f0[s]? = some x) : loV V (i : Int) (s : Int) (fun b => b.get (s : Int).toNat) = x ∧ hiV V (i : Int) (s : Int) (fun b => b.get (s : Int).toNat) = x := by
  obtain ⟨h1, _, h3⟩ := good_one ok g
  obtain ⟨ht, _⟩ := (good_iff ok).mp g
  have hp3 := ok.n3
  have he : errT V (i : Int) (s : Int) = 0 := errT_ok ok ⟨⟨by omega, by omega⟩, ⟨by omega, by omega⟩⟩ ht
  have hv : ∀ n, valP V (i : Int).toNat (fun b => b.get (s : Int).toNat) n → n = x := by
    rintro n ⟨t, b, k1, k2, rfl⟩
    rw [(h3 t).mp k1, show (i : Int).toNat = i from rfl, own_at V hi] at k2
    obtain rfl := Option.some.inj k2
    show (bl (ct V i).f0).get s = x
    rw [bl_get _ (by omega), getD_of hx]
  obtain ⟨p1, _, p3, _⟩ := span_is (till := (i : Int)) (sh := (s : Int)) (q := fun b => b.get (s : Int).toNat) ok (by omega) he ht
  exact ⟨hv _ p1, hv _ p3⟩
theorem own_isT {V : Ev} (ok : VOk V) (g : good V) : IsT V (V.cs.map (·.f0)) := by
  have h := isT_of ok ((good_iff ok).mp g).1
  have e : (ownT V).map (tb V.ps.length) = V.cs.map (·.f0) := by
    unfold ownT
    rw [List.map_map]
    exact List.map_congr_left fun c hc => tb_bl' (ok.c c hc).1 ok.n3
  rwa [e] at h
theorem bad_few {V : Ev} (ok : VOk V) (g : ¬ good V) (h : errV V = 0) : 0 < fewA V ∧ 0 < (tA V (suspP V)).length := by
  obtain ⟨_, t0, ht0⟩ := err_ok h
  obtain ⟨t, ht⟩ := lkly_ex ht0
  have hf := (fewN_01 ht0).1
  rw [fewA_ok ok ht0]
  have hpos : 0 < fewN V := by
    refine Int.not_le.mp fun hle => g ?_
    have hz : flT V 0 t = 0 := by rw [ht.2]; omega
    have e : t = ownT V := by
      refine List.ext_getElem? fun j => ?_
      by_cases hj : j < V.cs.length
      · obtain ⟨b, hb⟩ := get_ex (show j < t.length by rw [ht.1.1]; exact hj)
        have h0 := flT_zero hz j b hb
        rw [Nat.zero_add] at h0
        rw [hb, own_at V hj, (fl_zero.mp h0).1]
      · rw [List.getElem?_eq_none (by rw [ht.1.1]; omega), List.getElem?_eq_none (by simp [ownT]; omega)]
    rw [e] at ht hz
    exact (good_iff ok).mpr ⟨ht.1, hz⟩
  refine ⟨hpos, ?_⟩
  have hex : ∃ i, i < V.cs.length ∧ suspP V i := by
    refine Classical.byContradiction fun hno => ?_
    have hz : flT V 0 t = 0 := flT_all fun j b hj => by
      rw [Nat.zero_add]
      have h01 := fl_01 V (ct V j) b
      have hjl : j < V.cs.length := by have := (List.getElem?_eq_some_iff.1 hj).1; rw [ht.1.1] at this; exact this
      refine Int.le_antisymm (Int.not_lt.mp fun hlt => hno ⟨j, hjl, t, b, ht, hj, hlt⟩) h01.1
    have := ht.2
    omega
  obtain ⟨i, hi, hs⟩ := hex
  rw [tA_ok ok ht0]
  exact List.length_pos_of_mem (tL_mem.mpr ⟨i, hi, hs, rfl⟩)
theorem errT_V {V : Ev} (ok : VOk V) {till sh : Int} (k : (0 ≤ till ∧ till ≤ (V.cs.length : Int) - 1) ∧ (0 ≤ sh ∧ sh ≤ (V.ps.length : Int) - 1)) : errT V till sh = errV V := by
  unfold errT errV
  rw [if_pos ok, if_pos ok, if_pos k]
set_option maxRecDepth 100000 in
set_option maxHeartbeats 8000000 in

theorem agrees_law (V : Ev) (m : Ea) (till sh : Int) (w : World) (hV : EvM w V m) :
    Calls Try.prog 3 #[hv V m, .int .i64 till, .int .i64 sh] w fun e w' => e = .returned (.bool true) ∧ Below w.heap.size w w' := by
  have hu3 := Try.underlying3
  have hu22 := Try.underlying22
  have hu23 := Try.underlying23
  have hu25 := Try.underlying25
  have hu28 := Try.underlying28
  have hu34 := Try.underlying34
  have hu40 := Try.underlying40
  have hu42 := Try.underlying42
  obtain ⟨z3, o3⟩ := info_some info3s (by decide)
  obtain ⟨z22, o22⟩ := info_some info22s (by decide)
  obtain ⟨z23, o23⟩ := info_some info23s (by decide)
  obtain ⟨z40, o40⟩ := info_some info40s (by decide)
  refine E.enter (N := 149) Try.func3 rfl Try.ntmps3 (args := [hv V m, .int .i64 till, .int .i64 sh]) (by simp) ?_
  have L := Below.refl w.heap.size w
  refine E.CG.seq ?_
  refine E.CG.list ?_
  refine E.GL.st rfl rfl rfl (E.ST.box rfl rfl fun g3 w3 e3 b3 l3 => ?_)
  have h3_L : w.heap.size ≤ g3 := by rw [e3]; exact L.size
  replace L := below_step L l3
  refine E.GL.run rfl rfl rfl (E.Runs.assign rfl rfl) ?_
  refine E.GL.done ?_
  refine E.QG.code ?_
  refine E.CG.seq ?_
  refine E.CG.seq ?_
  refine E.CG.list ?_
  refine E.GL.run rfl rfl rfl (E.Runs.loads (cs := [.slice m.A V.ps.length m.a, .slice m.B V.qs.length m.b, .slice m.C V.ts.length m.c, .slice m.D V.cs.length m.d]) rfl rfl hu25 rfl info25s (blk_cells b3)) ?_
  by_cases h18 : ¬ farV V ∧ VOk V
  · have ok : VOk V := h18.2
    have hs : Sz V := not_far h18.1
    have hc4 := ok.c4
    have hp3 := ok.n3
    have hsc := hs.c
    refine E.GL.st rfl rfl rfl (E.ST.call rfl ent12 (E.evc rfl E.evn) ((valid_calls V m _ (hV.below L) true (iff_of_true rfl h18)).mono ?_))
    rintro e w18 ⟨rfl, l18⟩
    refine ⟨_, rfl, ?_⟩
    replace b3 := blk_below b3 l18
    replace L := below_step L l18
    refine E.GL.run rfl rfl rfl (E.Runs.not rfl rfl) ?_
    refine E.GL.run rfl rfl rfl (E.Runs.move rfl rfl) ?_
    refine E.GL.run rfl rfl rfl (E.Runs.move rfl rfl) ?_
    refine E.GL.cmp rfl rfl rfl (fun _ h => (E.Runs.lss rfl rfl rfl h)) (fun h22 => ?_) (fun h22 => ?_)
    · refine E.GL.run rfl rfl rfl (E.Runs.pick_f rfl rfl rfl) ?_
      refine E.GL.run rfl rfl rfl (E.Runs.move rfl rfl) ?_
      refine E.GL.skip rfl rfl rfl ?_
      refine E.GL.skip rfl rfl rfl ?_
      refine E.GL.skip rfl rfl rfl ?_
      refine E.GL.skip rfl rfl rfl ?_
      refine E.GL.skip rfl rfl rfl ?_
      refine E.GL.run rfl rfl rfl (E.Runs.pick_t rfl rfl rfl) ?_
      refine E.GL.run rfl rfl rfl (E.Runs.move rfl rfl) ?_
      refine E.GL.skip rfl rfl rfl ?_
      refine E.GL.skip rfl rfl rfl ?_
      refine E.GL.run rfl rfl rfl (E.Runs.pick_t rfl rfl rfl) ?_
      refine E.GL.run rfl rfl rfl (E.Runs.move rfl rfl) ?_
      refine E.GL.skip rfl rfl rfl ?_
      refine E.GL.skip rfl rfl rfl ?_
      refine E.GL.skip rfl rfl rfl ?_
      refine E.GL.skip rfl rfl rfl ?_
      refine E.GL.skip rfl rfl rfl ?_
      refine E.GL.run rfl rfl rfl (E.Runs.pick_t rfl rfl rfl) ?_
      refine E.GL.done ?_
      refine E.QG.code ?_
      refine E.CG.cond_t rfl ?_
      refine E.CG.seq ?_
      refine E.CG.list ?_
      refine E.GL.st rfl rfl rfl (E.ST.call rfl ent13 E.evn ((works_calls _).mono ?_))
      rintro e w42 ⟨rfl, l42⟩
      refine ⟨_, rfl, ?_⟩
      replace b3 := blk_below b3 l42
      replace L := below_step L l42
      refine E.GL.run rfl rfl rfl (E.Runs.assign rfl rfl) ?_
      refine E.GL.done ?_
      refine E.QG.code ?_
      refine E.CG.ret ?_
      refine E.QG.pass_ret ?_
      exact E.QG.result rfl rfl ⟨rfl, L⟩
    · refine E.GL.run rfl rfl rfl (E.Runs.pick_f rfl rfl rfl) ?_
      refine E.GL.run rfl rfl rfl (E.Runs.move rfl rfl) ?_
      refine E.GL.run rfl rfl rfl (E.Runs.move rfl rfl) ?_
      refine E.GL.run rfl rfl rfl (E.Runs.fieldAddr rfl rfl hu25 rfl (by assumption) rfl) ?_
      refine E.GL.run rfl rfl rfl (E.Runs.load1 rfl rfl hu23 rfl (by first | assumption | exact E.blkc (by assumption) rfl | exact pw_cell_below L (by assumption))) ?_
      refine E.GL.run rfl rfl rfl (E.Runs.len rfl rfl hu23) ?_
      refine E.GL.cmp rfl rfl rfl (fun _ h => (E.Runs.geq rfl rfl rfl h)) (fun h29 => ?_) (fun h29 => ?_)
      · refine E.GL.run rfl rfl rfl (E.Runs.pick_f rfl rfl rfl) ?_
        refine E.GL.run rfl rfl rfl (E.Runs.move rfl rfl) ?_
        refine E.GL.skip rfl rfl rfl ?_
        refine E.GL.skip rfl rfl rfl ?_
        refine E.GL.run rfl rfl rfl (E.Runs.pick_t rfl rfl rfl) ?_
        refine E.GL.run rfl rfl rfl (E.Runs.move rfl rfl) ?_
        refine E.GL.skip rfl rfl rfl ?_
        refine E.GL.skip rfl rfl rfl ?_
        refine E.GL.skip rfl rfl rfl ?_
        refine E.GL.skip rfl rfl rfl ?_
        refine E.GL.skip rfl rfl rfl ?_
        refine E.GL.run rfl rfl rfl (E.Runs.pick_t rfl rfl rfl) ?_
        refine E.GL.done ?_
        refine E.QG.code ?_
        refine E.CG.cond_t rfl ?_
        refine E.CG.seq ?_
        refine E.CG.list ?_
        refine E.GL.st rfl rfl rfl (E.ST.call rfl ent13 E.evn ((works_calls _).mono ?_))
        rintro e w42 ⟨rfl, l42⟩
        refine ⟨_, rfl, ?_⟩
        replace b3 := blk_below b3 l42
        replace L := below_step L l42
        refine E.GL.run rfl rfl rfl (E.Runs.assign rfl rfl) ?_
        refine E.GL.done ?_
        refine E.QG.code ?_
        refine E.CG.ret ?_
        refine E.QG.pass_ret ?_
        exact E.QG.result rfl rfl ⟨rfl, L⟩
      · refine E.GL.run rfl rfl rfl (E.Runs.pick_f rfl rfl rfl) ?_
        refine E.GL.run rfl rfl rfl (E.Runs.move rfl rfl) ?_
        refine E.GL.run rfl rfl rfl (E.Runs.move rfl rfl) ?_
        refine E.GL.cmp rfl rfl rfl (fun _ h => (E.Runs.lss rfl rfl rfl h)) (fun h33 => ?_) (fun h33 => ?_)
        · refine E.GL.run rfl rfl rfl (E.Runs.pick_f rfl rfl rfl) ?_
          refine E.GL.run rfl rfl rfl (E.Runs.move rfl rfl) ?_
          refine E.GL.skip rfl rfl rfl ?_
          refine E.GL.skip rfl rfl rfl ?_
          refine E.GL.skip rfl rfl rfl ?_
          refine E.GL.skip rfl rfl rfl ?_
          refine E.GL.skip rfl rfl rfl ?_
          refine E.GL.run rfl rfl rfl (E.Runs.pick_t rfl rfl rfl) ?_
          refine E.GL.done ?_
          refine E.QG.code ?_
          refine E.CG.cond_t rfl ?_
          refine E.CG.seq ?_
          refine E.CG.list ?_
          refine E.GL.st rfl rfl rfl (E.ST.call rfl ent13 E.evn ((works_calls _).mono ?_))
          rintro e w42 ⟨rfl, l42⟩
          refine ⟨_, rfl, ?_⟩
          replace b3 := blk_below b3 l42
          replace L := below_step L l42
          refine E.GL.run rfl rfl rfl (E.Runs.assign rfl rfl) ?_
          refine E.GL.done ?_
          refine E.QG.code ?_
          refine E.CG.ret ?_
          refine E.QG.pass_ret ?_
          exact E.QG.result rfl rfl ⟨rfl, L⟩
        · refine E.GL.run rfl rfl rfl (E.Runs.pick_f rfl rfl rfl) ?_
          refine E.GL.run rfl rfl rfl (E.Runs.move rfl rfl) ?_
          refine E.GL.run rfl rfl rfl (E.Runs.move rfl rfl) ?_
          refine E.GL.run rfl rfl rfl (E.Runs.fieldAddr rfl rfl hu25 rfl (by assumption) rfl) ?_
          refine E.GL.run rfl rfl rfl (E.Runs.load1 rfl rfl hu22 rfl (by first | assumption | exact E.blkc (by assumption) rfl | exact pw_cell_below L (by assumption))) ?_
          refine E.GL.run rfl rfl rfl (E.Runs.len rfl rfl hu22) ?_
          refine E.GL.cmp rfl rfl rfl (fun _ h => (E.Runs.geq rfl rfl rfl h)) (fun h40 => ?_) (fun h40 => ?_)
          · refine E.GL.run rfl rfl rfl (E.Runs.pick_f rfl rfl rfl) ?_
            refine E.GL.done ?_
            refine E.QG.code ?_
            refine E.CG.cond_t rfl ?_
            refine E.CG.seq ?_
            refine E.CG.list ?_
            refine E.GL.st rfl rfl rfl (E.ST.call rfl ent13 E.evn ((works_calls _).mono ?_))
            rintro e w42 ⟨rfl, l42⟩
            refine ⟨_, rfl, ?_⟩
            replace b3 := blk_below b3 l42
            replace L := below_step L l42
            refine E.GL.run rfl rfl rfl (E.Runs.assign rfl rfl) ?_
            refine E.GL.done ?_
            refine E.QG.code ?_
            refine E.CG.ret ?_
            refine E.QG.pass_ret ?_
            exact E.QG.result rfl rfl ⟨rfl, L⟩
          · refine E.GL.run rfl rfl rfl (E.Runs.pick_f rfl rfl rfl) ?_
            refine E.GL.done ?_
            refine E.QG.code ?_
            refine E.CG.cond_f rfl ?_
            refine E.CG.skip ?_
            refine E.QG.code ?_
            refine E.CG.seq ?_
            obtain ⟨i, rfl⟩ : ∃ i : Nat, till = i := ⟨till.toNat, by omega⟩
            obtain ⟨s, rfl⟩ : ∃ s : Nat, sh = s := ⟨sh.toNat, by omega⟩
            refine E.CG.list ?_
            refine E.GL.run rfl rfl rfl (E.Runs.loads (cs := [.slice m.A V.ps.length m.a, .slice m.B V.qs.length m.b, .slice m.C V.ts.length m.c, .slice m.D V.cs.length m.d]) rfl rfl hu25 rfl info25s (blk_cells b3)) ?_
            refine E.GL.st rfl rfl rfl (E.ST.call rfl ent14 (E.evc rfl E.evn) ((parts14 V m _ (hV.below L) hs).mono ?_))
            rintro e w45 ⟨rfl, l45⟩
            refine ⟨_, rfl, ?_⟩
            replace b3 := blk_below b3 l45
            replace L := below_step L l45
            refine E.GL.run rfl rfl rfl (E.Runs.move rfl rfl) ?_
            refine E.GL.run rfl rfl rfl (E.Runs.extract rfl rfl rfl) ?_
            refine E.GL.run rfl rfl rfl (E.Runs.extract rfl rfl rfl) ?_
            refine E.GL.run rfl rfl rfl (E.Runs.extract rfl rfl rfl) ?_
            refine E.GL.run rfl rfl rfl (E.Runs.assign rfl rfl) ?_
            refine E.GL.run rfl rfl rfl (E.Runs.assign rfl rfl) ?_
            refine E.GL.run rfl rfl rfl (E.Runs.assign rfl rfl) ?_
            refine E.GL.done ?_
            refine E.QG.code ?_
            refine E.CG.seq ?_
            refine E.CG.list ?_
            refine E.GL.run rfl rfl rfl (E.Runs.loads (cs := [.slice m.A V.ps.length m.a, .slice m.B V.qs.length m.b, .slice m.C V.ts.length m.c, .slice m.D V.cs.length m.d]) rfl rfl hu25 rfl info25s (blk_cells b3)) ?_
            refine E.GL.st rfl rfl rfl (E.ST.call rfl ent15 (E.evc rfl E.evn) ((fewest_calls V m _ (hV.below L) hs).mono ?_))
            rintro e w51 ⟨rfl, l51⟩
            refine ⟨_, rfl, ?_⟩
            replace b3 := blk_below b3 l51
            replace L := below_step L l51
            refine E.GL.run rfl rfl rfl (E.Runs.move rfl rfl) ?_
            refine E.GL.run rfl rfl rfl (E.Runs.extract rfl rfl rfl) ?_
            refine E.GL.run rfl rfl rfl (E.Runs.extract rfl rfl rfl) ?_
            refine E.GL.run rfl rfl rfl (E.Runs.assign rfl rfl) ?_
            refine E.GL.run rfl rfl rfl (E.Runs.assign rfl rfl) ?_
            refine E.GL.done ?_
            refine E.QG.code ?_
            refine E.CG.seq ?_
            refine E.CG.list ?_
            refine E.GL.run rfl rfl rfl (E.Runs.loads (cs := [.slice m.A V.ps.length m.a, .slice m.B V.qs.length m.b, .slice m.C V.ts.length m.c, .slice m.D V.cs.length m.d]) rfl rfl hu25 rfl info25s (blk_cells b3)) ?_
            refine E.GL.run rfl rfl rfl (E.Runs.move rfl rfl) ?_
            refine E.GL.run rfl rfl rfl (E.Runs.move rfl rfl) ?_
            refine E.GL.st rfl rfl rfl (E.ST.call rfl ent16 (E.evc rfl (E.evc rfl (E.evc rfl E.evn))) ((really_calls V m (i : Int) (s : Int) _ (hV.below L) hs).mono ?_))
            rintro e w58 ⟨rfl, l58⟩
            refine ⟨_, rfl, ?_⟩
            replace b3 := blk_below b3 l58
            replace L := below_step L l58
            rw [errT_V ok ⟨⟨by omega, by omega⟩, ⟨by omega, by omega⟩⟩]
            refine E.GL.run rfl rfl rfl (E.Runs.move rfl rfl) ?_
            refine E.GL.run rfl rfl rfl (E.Runs.extract rfl rfl rfl) ?_
            refine E.GL.run rfl rfl rfl (E.Runs.extract rfl rfl rfl) ?_
            refine E.GL.st rfl rfl rfl (E.ST.alloc rfl info34z fun g12 w12 e12 b12 l12 => ?_)
            have h12_L : w.heap.size ≤ g12 := by rw [e12]; exact L.size
            have n12_b3 : g3 ≠ g12 := by have := blk_lt b3; omega
            replace b3 := blk_below b3 l12
            replace L := below_step L l12
            refine E.GL.store_whole rfl rfl rfl rfl rfl b12 rfl info34s (two_one _ _) fun wS5_8 c12 lS5_8 => ?_
            replace b3 := blk_grown b3 lS5_8 (E.nes (by first | assumption | exact Ne.symm (by assumption)))
            replace L := E.below_own L h12_L lS5_8
            replace b12 := c12
            clear c12
            refine E.GL.run rfl rfl rfl (E.Runs.assign rfl rfl) ?_
            refine E.GL.done ?_
            refine E.QG.code ?_
            refine E.CG.seq ?_
            refine E.CG.list ?_
            refine E.GL.run rfl rfl rfl (E.Runs.loads (cs := [.slice m.A V.ps.length m.a, .slice m.B V.qs.length m.b, .slice m.C V.ts.length m.c, .slice m.D V.cs.length m.d]) rfl rfl hu25 rfl info25s (blk_cells b3)) ?_
            refine E.GL.st rfl rfl rfl (E.ST.call rfl ent17 (E.evc rfl E.evn) ((suspects_calls V m _ (hV.below L) hs).mono ?_))
            rintro e w63 ⟨v63, rfl, R63, l63⟩
            refine ⟨_, rfl, ?_⟩
            replace b3 := blk_below b3 l63
            replace b12 := blk_below b12 l63
            replace L := below_step L l63
            have la := Below.refl w63.heap.size w63
            obtain ⟨A63, c63, hv63⟩ := Kd.R_slice R63
            subst hv63
            refine E.GL.run rfl rfl rfl (E.Runs.move rfl rfl) ?_
            refine E.GL.run rfl rfl rfl (E.Runs.extract rfl rfl rfl) ?_
            refine E.GL.run rfl rfl rfl (E.Runs.extract rfl rfl rfl) ?_
            refine E.GL.run rfl rfl rfl (E.Runs.assign rfl rfl) ?_
            refine E.GL.run rfl rfl rfl (E.Runs.assign rfl rfl) ?_
            refine E.GL.done ?_
            refine E.QG.code ?_
            refine E.CG.seq ?_
            refine E.CG.seq ?_
            refine E.CG.list ?_
            rcases parts_cases ok with ⟨hg, hp⟩ | ⟨hg, s0, hp⟩ | ⟨hg, hp1, hp2⟩
            · obtain ⟨herr, hfew, hone⟩ := good_one ok hg
              have hsu0 := good_susp ok hg
              have hti := own_isT ok hg
              rw [hp]
              refine E.GL.run rfl rfl rfl (E.Runs.move rfl rfl) ?_
              refine E.GL.run rfl rfl rfl (E.Runs.neq rfl rfl rfl (E.ne_f (chkV_yes ok))) ?_
              refine E.GL.run rfl rfl rfl (E.Runs.move rfl rfl) ?_
              refine E.GL.run rfl rfl rfl (E.Runs.move rfl rfl) ?_
              refine E.GL.run rfl rfl rfl (E.Runs.move rfl rfl) ?_
              refine E.GL.run rfl rfl rfl (E.Runs.neq rfl rfl rfl (E.ne_f rfl)) ?_
              refine E.GL.run rfl rfl rfl (E.Runs.pick_f rfl rfl rfl) ?_
              refine E.GL.run rfl rfl rfl (E.Runs.move rfl rfl) ?_
              refine E.GL.run rfl rfl rfl (E.Runs.move rfl rfl) ?_
              refine E.GL.run rfl rfl rfl (E.Runs.move rfl rfl) ?_
              refine E.GL.run rfl rfl rfl (E.Runs.neq rfl rfl rfl (E.ne_f rfl)) ?_
              refine E.GL.run rfl rfl rfl (E.Runs.pick_f rfl rfl rfl) ?_
              refine E.GL.run rfl rfl rfl (E.Runs.move rfl rfl) ?_
              refine E.GL.run rfl rfl rfl (E.Runs.move rfl rfl) ?_
              refine E.GL.run rfl rfl rfl (E.Runs.neq rfl rfl rfl (E.ne_f herr)) ?_
              refine E.GL.run rfl rfl rfl (E.Runs.move rfl rfl) ?_
              refine E.GL.skip rfl rfl rfl ?_
              refine E.GL.skip rfl rfl rfl ?_
              refine E.GL.run rfl rfl rfl (E.Runs.pick_f rfl rfl rfl) ?_
              refine E.GL.run rfl rfl rfl (E.Runs.pick_f rfl rfl rfl) ?_
              refine E.GL.done ?_
              refine E.QG.code ?_
              refine E.CG.cond_f rfl ?_
              refine E.CG.skip ?_
              refine E.QG.code ?_
              refine E.CG.seq ?_
              refine E.CG.seq ?_
              refine E.CG.list ?_
              refine E.GL.run rfl rfl rfl (E.Runs.move rfl rfl) ?_
              refine E.GL.run rfl rfl rfl (E.Runs.eql rfl rfl rfl (decide_eq_true rfl)) ?_
              refine E.GL.run rfl rfl rfl (E.Runs.move rfl rfl) ?_
              refine E.GL.skip rfl rfl rfl ?_
              refine E.GL.skip rfl rfl rfl ?_
              refine E.GL.run rfl rfl rfl (E.Runs.pick_t rfl rfl rfl) ?_
              refine E.GL.done ?_
              refine E.QG.code ?_
              refine E.CG.cond_t rfl ?_
              refine E.CG.seq ?_
              obtain ⟨c, hc⟩ := get_ex (show i < V.cs.length by omega)
              have hct := ct_of hc
              obtain ⟨adc, a0, k0, eA, _, hx0, XT⟩ := till_at hV.cs hc
              have hcok := ok.c c (List.mem_of_getElem? hc)
              obtain ⟨x, hx⟩ := get_ex (show s < c.f0.length by rw [hcok.1]; omega)
              have hxlen : (s : Int) < c.f0.length := by rw [hcok.1]; omega
              obtain ⟨ax, eX, XX⟩ := int_at hx0 hx
              obtain ⟨hlo, hhi⟩ := good_span ok hg (show i < V.cs.length by omega) (show s < V.ps.length by omega) (by rw [hct]; exact hx)
              rw [hlo, hhi] at b12
              refine E.CG.list ?_
              refine E.GL.run rfl rfl rfl (E.Runs.fieldAddr rfl rfl hu25 rfl (by assumption) rfl) ?_
              refine E.GL.run rfl rfl rfl (E.Runs.load1 rfl rfl hu23 rfl (by first | assumption | exact E.blkc (by assumption) rfl | exact pw_cell_below L (by assumption) | exact pw_cell_below la (by assumption))) ?_
              refine E.GL.run rfl rfl rfl (E.Runs.move rfl rfl) ?_
              refine E.GL.run rfl rfl rfl (E.Runs.indexAddrA (i := i) rfl rfl rfl hu23 z40 o40 (by omega) eA rfl) ?_
              refine E.GL.run rfl rfl rfl (E.Runs.fieldAddr rfl rfl hu40 rfl (by assumption) rfl) ?_
              refine E.GL.run rfl rfl rfl (E.Runs.load1 rfl rfl hu22 rfl (show _ = some (Value.slice a0 c.f0.length k0) from pw_cell_below L (XT 0 _ rfl))) ?_
              refine E.GL.run rfl rfl rfl (E.Runs.move rfl rfl) ?_
              refine E.GL.run rfl rfl rfl (E.Runs.indexAddrA (i := s) rfl rfl rfl hu22 z3 o3 (by omega) eX rfl) ?_
              refine E.GL.run rfl rfl rfl (E.Runs.load rfl rfl hu3 (pw_cell_below L XX)) ?_
              refine E.GL.run rfl rfl rfl (E.Runs.assign rfl rfl) ?_
              refine E.GL.done ?_
              refine E.QG.code ?_
              refine E.CG.seq ?_
              refine E.CG.heldH (none) (by kernel_rfl) fun v11 lD hh => ?_
              replace b3 := blk_below b3 lD
              replace b12 := blk_below b12 lD
              replace L := below_step L lD
              replace la := below_step la lD
              clear lD
              have s_b3 := b3
              have s_b12 := b12
              have s_L := L
              have s_la := la
              refine E.GH.take (i := 0) rfl (by kernel_rfl) (by kernel_rfl) (by kernel_rfl) (by intro c a d v w h; first | (cases d <;> exact h) | exact nomatch (show _ ∧ _ from h).1) rfl rfl rfl (fun w' hS => (E.Runs.move rfl rfl)) ?_
              refine E.GH.take (i := 1) rfl (by kernel_rfl) (by kernel_rfl) (by kernel_rfl) (by intro c a d v w h; first | (cases d <;> exact h) | exact nomatch (show _ ∧ _ from h).1) rfl rfl rfl (fun w' hS => (E.Runs.eql rfl rfl rfl (decide_eq_true rfl))) ?_
              refine E.GH.take (i := 2) rfl (by kernel_rfl) (by kernel_rfl) (by kernel_rfl) (by intro c a d v w h; first | (cases d <;> exact h) | exact nomatch (show _ ∧ _ from h).1) rfl rfl rfl (fun w' hS => (E.Runs.move rfl rfl)) ?_
              refine E.GH.take (i := 3) rfl (by kernel_rfl) (by kernel_rfl) (by kernel_rfl) (by intro c a d v w h; first | (cases d <;> exact h) | exact nomatch (show _ ∧ _ from h).1) rfl rfl rfl (fun w' hS => (E.Runs.eql rfl rfl rfl (decide_eq_true rfl))) ?_
              refine E.GH.take (i := 4) rfl (by kernel_rfl) (by kernel_rfl) (by kernel_rfl) (by intro c a d v w h; first | (cases d <;> exact h) | exact nomatch (show _ ∧ _ from h).1) rfl rfl rfl (fun w' hS => (E.Runs.eqlv rfl rfl rfl rfl (fun _ _ _ => rfl) (bool_equal _ _))) ?_
              refine E.GH.take (i := 5) rfl (by kernel_rfl) (by kernel_rfl) (by kernel_rfl) (by intro c a d v w h; first | (cases d <;> exact h) | exact nomatch (show _ ∧ _ from h).1) rfl rfl rfl (fun w' hS => (E.Runs.move rfl rfl)) ?_
              refine E.GH.take (i := 6) rfl (by kernel_rfl) (by kernel_rfl) (by kernel_rfl) (by intro c a d v w h; first | (cases d <;> exact h) | exact nomatch (show _ ∧ _ from h).1) rfl rfl rfl (fun w' hS => (E.Runs.move rfl rfl)) ?_
              refine E.GH.take (i := 7) rfl (by kernel_rfl) (by kernel_rfl) (by kernel_rfl) (by intro c a d v w h; first | (cases d <;> exact h) | exact nomatch (show _ ∧ _ from h).1) rfl rfl rfl (fun w' hS => (E.Runs.eql rfl rfl rfl (decide_eq_true herr))) ?_
              refine E.GH.take (i := 8) rfl (by kernel_rfl) (by kernel_rfl) (by kernel_rfl) (by intro c a d v w h; first | (cases d <;> exact h) | exact nomatch (show _ ∧ _ from h).1) rfl rfl rfl (fun w' hS => (E.Runs.pick_t rfl rfl rfl)) ?_
              refine E.GH.take (i := 9) rfl (by kernel_rfl) (by kernel_rfl) (by kernel_rfl) (by intro c a d v w h; first | (cases d <;> exact h) | exact nomatch (show _ ∧ _ from h).1) rfl rfl rfl (fun w' hS => (E.Runs.move rfl rfl)) ?_
              refine E.GH.take (i := 10) rfl (by kernel_rfl) (by kernel_rfl) (by kernel_rfl) (by intro c a d v w h; first | (cases d <;> exact h) | exact nomatch (show _ ∧ _ from h).1) rfl rfl rfl (fun w' hS => (E.Runs.move rfl rfl)) ?_
              refine E.GH.take (i := 11) rfl (by kernel_rfl) (by kernel_rfl) (by kernel_rfl) (by intro c a d v w h; first | (cases d <;> exact h) | exact nomatch (show _ ∧ _ from h).1) rfl rfl rfl (fun w' hS => (E.Runs.eql rfl rfl rfl (decide_eq_true hfew))) ?_
              refine E.GH.take (i := 12) rfl (by kernel_rfl) (by kernel_rfl) (by kernel_rfl) (by intro c a d v w h; first | (cases d <;> exact h) | exact nomatch (show _ ∧ _ from h).1) rfl rfl rfl (fun w' hS => (E.Runs.pick_t rfl rfl rfl)) ?_
              refine E.GH.take (i := 13) rfl (by kernel_rfl) (by kernel_rfl) (by kernel_rfl) (by intro c a d v w h; first | (cases d <;> exact h) | exact nomatch (show _ ∧ _ from h).1) rfl rfl rfl (fun w' hS => (E.Runs.move rfl rfl)) ?_
              refine E.GH.take (i := 14) rfl (by kernel_rfl) (by kernel_rfl) (by kernel_rfl) (by intro c a d v w h; first | (cases d <;> exact h) | exact nomatch (show _ ∧ _ from h).1) rfl rfl rfl (fun w' hS => (E.Runs.move rfl rfl)) ?_
              refine E.GH.take (i := 15) rfl (by kernel_rfl) (by kernel_rfl) (by kernel_rfl) (by intro c a d v w h; first | (cases d <;> exact h) | exact nomatch (show _ ∧ _ from h).1) rfl rfl rfl (fun w' hS => (E.Runs.len rfl rfl hu22)) ?_
              refine E.GH.take (i := 16) rfl (by kernel_rfl) (by kernel_rfl) (by kernel_rfl) (by intro c a d v w h; first | (cases d <;> exact h) | exact nomatch (show _ ∧ _ from h).1) rfl rfl rfl (fun w' hS => (E.Runs.eql rfl rfl rfl (decide_eq_true (by rw [hsu0]; rfl)))) ?_
              refine E.GH.take (i := 17) rfl (by kernel_rfl) (by kernel_rfl) (by kernel_rfl) (by intro c a d v w h; first | (cases d <;> exact h) | exact nomatch (show _ ∧ _ from h).1) rfl rfl rfl (fun w' hS => (E.Runs.pick_t rfl rfl rfl)) ?_
              refine E.GH.take (i := 18) rfl (by kernel_rfl) (by kernel_rfl) (by kernel_rfl) (by intro c a d v w h; first | (cases d <;> exact h) | exact nomatch (show _ ∧ _ from h).1) rfl rfl rfl (fun w' hS => (E.Runs.move rfl rfl)) ?_
              refine E.GH.take (i := 19) rfl (by kernel_rfl) (by kernel_rfl) (by kernel_rfl) (by intro c a d v w h; first | (cases d <;> exact h) | exact nomatch (show _ ∧ _ from h).1) rfl rfl rfl (fun w' hS => (E.Runs.loads (cs := [.int .i64 x, .int .i64 x]) rfl rfl hu34 rfl info34s (blk_cells (blk_grown s_b12 hS E.nen)))) ?_
              refine E.GH.take (i := 20) rfl (by kernel_rfl) (by kernel_rfl) (by kernel_rfl) (by intro c a d v w h; first | (cases d <;> exact h) | exact nomatch (show _ ∧ _ from h).1) rfl rfl rfl (fun w' hS => (E.Runs.move rfl rfl)) ?_
              refine E.GH.take (i := 21) rfl (by kernel_rfl) (by kernel_rfl) (by kernel_rfl) (by intro c a d v w h; first | (cases d <;> exact h) | exact nomatch (show _ ∧ _ from h).1) rfl rfl rfl (fun w' hS => (E.Runs.move rfl rfl)) ?_
              refine E.GH.take (i := 22) rfl (by kernel_rfl) (by kernel_rfl) (by kernel_rfl) (by intro c a d v w h; first | (cases d <;> exact h) | exact nomatch (show _ ∧ _ from h).1) rfl rfl rfl (fun w' hS => (E.Runs.build rfl (E.epc rfl (E.epc rfl E.epn)) (build34 _ _))) ?_
              refine E.GH.take (i := 23) rfl (by kernel_rfl) (by kernel_rfl) (by kernel_rfl) (by intro c a d v w h; first | (cases d <;> exact h) | exact nomatch (show _ ∧ _ from h).1) rfl rfl rfl (fun w' hS => (E.Runs.eqlv rfl rfl rfl rfl (fun _ _ W => run_eqGuard_agg W _ _ _ _ _ _ Try.eqGuardType34) (equal34 _ _))) ?_
              refine E.GH.take (i := 24) rfl (by kernel_rfl) (by kernel_rfl) (by kernel_rfl) (by intro c a d v w h; first | (cases d <;> exact h) | exact nomatch (show _ ∧ _ from h).1) rfl rfl rfl (fun w' hS => (E.Runs.pick_t rfl rfl rfl)) ?_
              refine E.GH.take (i := 25) rfl (by kernel_rfl) (by kernel_rfl) (by kernel_rfl) (by intro c a d v w h; first | (cases d <;> exact h) | exact nomatch (show _ ∧ _ from h).1) rfl rfl rfl (fun w' hS => (E.Runs.move rfl rfl)) ?_
              refine E.GH.take (i := 26) rfl (by kernel_rfl) (by kernel_rfl) (by kernel_rfl) (by intro c a d v w h; first | (cases d <;> exact h) | exact nomatch (show _ ∧ _ from h).1) rfl rfl rfl (fun w' hS => (E.Runs.loads (cs := [.slice m.A V.ps.length m.a, .slice m.B V.qs.length m.b, .slice m.C V.ts.length m.c, .slice m.D V.cs.length m.d]) rfl rfl hu25 rfl info25s (blk_cells (blk_grown s_b3 hS E.nen)))) ?_
              refine E.GH.take (i := 27) rfl (by kernel_rfl) (by kernel_rfl) (by kernel_rfl) (by intro c a d v w h; first | (cases d <;> exact h) | exact nomatch (show _ ∧ _ from h).1) rfl rfl rfl (fun w' hS => (E.Runs.loads (cs := [.slice m.A V.ps.length m.a, .slice m.B V.qs.length m.b, .slice m.C V.ts.length m.c, .slice m.D V.cs.length m.d]) rfl rfl hu25 rfl info25s (blk_cells (blk_grown s_b3 hS E.nen)))) ?_
              refine E.GH.one (i := 28) (by kernel_rfl) rfl ?_
              refine E.GO.st rfl rfl rfl (E.ST.call rfl ent19 (E.evc rfl E.evn) ((own_calls V m _ (hV.below L) hs).mono ?_))
              rintro e w129 ⟨AO, kO, rfl, hO, l129⟩
              refine ⟨_, rfl, hh.trans (E.gbB l129), ?_⟩
              replace hh := hh.trans (E.gbB l129)
              replace b3 := blk_below b3 l129
              replace b12 := blk_below b12 l129
              replace L := below_step L l129
              replace la := below_step la l129
              have lo := Below.refl w129.heap.size w129
              generalize V.cs.map (·.f0) = tso at hO hti ⊢
              refine E.GH.one (i := 29) (by kernel_rfl) rfl ?_
              refine E.GO.st rfl rfl rfl (E.ST.call rfl ent18 (E.evc rfl (E.evc rfl E.evn)) ((isTruth_calls V m tso AO kO _ (hV.below L) ok (Kd.C_below hO lo) true (iff_of_true rfl hti)).mono ?_))
              rintro e w130 ⟨rfl, l130⟩
              refine ⟨_, rfl, hh.trans (E.gbB l130), ?_⟩
              replace hh := hh.trans (E.gbB l130)
              replace b3 := blk_below b3 l130
              replace b12 := blk_below b12 l130
              replace L := below_step L l130
              replace la := below_step la l130
              replace lo := below_step lo l130
              refine E.GH.take (i := 30) rfl (by kernel_rfl) (by kernel_rfl) (by kernel_rfl) (by intro c a d v w h; first | (cases d <;> exact h) | exact nomatch (show _ ∧ _ from h).1) rfl rfl rfl (fun w' hS => (E.Runs.pick_t rfl rfl rfl)) ?_
              refine E.GH.take (i := 31) rfl (by kernel_rfl) (by kernel_rfl) (by kernel_rfl) (by intro c a d v w h; first | (cases d <;> exact h) | exact nomatch (show _ ∧ _ from h).1) rfl rfl rfl (fun w' hS => (E.Runs.move rfl rfl)) ?_
              refine E.GH.one (i := 32) (by kernel_rfl) rfl ?_
              refine E.GO.st rfl rfl rfl (E.ST.call rfl ent13 E.evn ((works_calls _).mono ?_))
              rintro e w133 ⟨rfl, l133⟩
              refine ⟨_, rfl, hh.trans (E.gbB l133), ?_⟩
              replace hh := hh.trans (E.gbB l133)
              replace b3 := blk_below b3 l133
              replace b12 := blk_below b12 l133
              replace L := below_step L l133
              replace la := below_step la l133
              replace lo := below_step lo l133
              refine E.GH.take (i := 33) rfl (by kernel_rfl) (by kernel_rfl) (by kernel_rfl) (by intro c a d v w h; first | (cases d <;> exact h) | exact nomatch (show _ ∧ _ from h).1) rfl rfl rfl (fun w' hS => (E.Runs.pick_t rfl rfl rfl)) ?_
              refine E.GH.take (i := 34) rfl (by kernel_rfl) (by kernel_rfl) (by kernel_rfl) (by intro c a d v w h; first | (cases d <;> exact h) | exact nomatch (show _ ∧ _ from h).1) rfl rfl rfl (fun w' hS => (E.Runs.assign rfl rfl)) ?_
              refine E.GH.done (by kernel_rfl) ?_
              refine E.QG.code ?_
              refine E.CG.ret ?_
              refine E.QG.pass_ret ?_
              exact E.QG.result rfl rfl ⟨rfl, L⟩
            · obtain ⟨herr, hfew, hone⟩ := good_one ok hg
              have hsu0 := good_susp ok hg
              have hti := own_isT ok hg
              rw [hp]
              refine E.GL.run rfl rfl rfl (E.Runs.move rfl rfl) ?_
              refine E.GL.run rfl rfl rfl (E.Runs.neq rfl rfl rfl (E.ne_f (chkV_yes ok))) ?_
              refine E.GL.run rfl rfl rfl (E.Runs.move rfl rfl) ?_
              refine E.GL.run rfl rfl rfl (E.Runs.move rfl rfl) ?_
              refine E.GL.run rfl rfl rfl (E.Runs.move rfl rfl) ?_
              refine E.GL.run rfl rfl rfl (E.Runs.neq rfl rfl rfl (E.ne_f rfl)) ?_
              refine E.GL.run rfl rfl rfl (E.Runs.pick_f rfl rfl rfl) ?_
              refine E.GL.run rfl rfl rfl (E.Runs.move rfl rfl) ?_
              refine E.GL.run rfl rfl rfl (E.Runs.move rfl rfl) ?_
              refine E.GL.run rfl rfl rfl (E.Runs.move rfl rfl) ?_
              refine E.GL.run rfl rfl rfl (E.Runs.neq rfl rfl rfl (E.ne_f rfl)) ?_
              refine E.GL.run rfl rfl rfl (E.Runs.pick_f rfl rfl rfl) ?_
              refine E.GL.run rfl rfl rfl (E.Runs.move rfl rfl) ?_
              refine E.GL.run rfl rfl rfl (E.Runs.move rfl rfl) ?_
              refine E.GL.run rfl rfl rfl (E.Runs.neq rfl rfl rfl (E.ne_f herr)) ?_
              refine E.GL.run rfl rfl rfl (E.Runs.move rfl rfl) ?_
              refine E.GL.skip rfl rfl rfl ?_
              refine E.GL.skip rfl rfl rfl ?_
              refine E.GL.run rfl rfl rfl (E.Runs.pick_f rfl rfl rfl) ?_
              refine E.GL.run rfl rfl rfl (E.Runs.pick_f rfl rfl rfl) ?_
              refine E.GL.done ?_
              refine E.QG.code ?_
              refine E.CG.cond_f rfl ?_
              refine E.CG.skip ?_
              refine E.QG.code ?_
              refine E.CG.seq ?_
              refine E.CG.seq ?_
              refine E.CG.list ?_
              refine E.GL.run rfl rfl rfl (E.Runs.move rfl rfl) ?_
              refine E.GL.run rfl rfl rfl (E.Runs.eql rfl rfl rfl (decide_eq_false (show ¬ ((4 : Int) = 0) by decide))) ?_
              refine E.GL.run rfl rfl rfl (E.Runs.move rfl rfl) ?_
              refine E.GL.run rfl rfl rfl (E.Runs.move rfl rfl) ?_
              refine E.GL.run rfl rfl rfl (E.Runs.eql rfl rfl rfl (decide_eq_true rfl)) ?_
              refine E.GL.run rfl rfl rfl (E.Runs.pick_f rfl rfl rfl) ?_
              refine E.GL.done ?_
              refine E.QG.code ?_
              refine E.CG.cond_t rfl ?_
              refine E.CG.seq ?_
              obtain ⟨c, hc⟩ := get_ex (show i < V.cs.length by omega)
              have hct := ct_of hc
              obtain ⟨adc, a0, k0, eA, _, hx0, XT⟩ := till_at hV.cs hc
              have hcok := ok.c c (List.mem_of_getElem? hc)
              obtain ⟨x, hx⟩ := get_ex (show s < c.f0.length by rw [hcok.1]; omega)
              have hxlen : (s : Int) < c.f0.length := by rw [hcok.1]; omega
              obtain ⟨ax, eX, XX⟩ := int_at hx0 hx
              obtain ⟨hlo, hhi⟩ := good_span ok hg (show i < V.cs.length by omega) (show s < V.ps.length by omega) (by rw [hct]; exact hx)
              rw [hlo, hhi] at b12
              refine E.CG.list ?_
              refine E.GL.run rfl rfl rfl (E.Runs.fieldAddr rfl rfl hu25 rfl (by assumption) rfl) ?_
              refine E.GL.run rfl rfl rfl (E.Runs.load1 rfl rfl hu23 rfl (by first | assumption | exact E.blkc (by assumption) rfl | exact pw_cell_below L (by assumption) | exact pw_cell_below la (by assumption))) ?_
              refine E.GL.run rfl rfl rfl (E.Runs.move rfl rfl) ?_
              refine E.GL.run rfl rfl rfl (E.Runs.indexAddrA (i := i) rfl rfl rfl hu23 z40 o40 (by omega) eA rfl) ?_
              refine E.GL.run rfl rfl rfl (E.Runs.fieldAddr rfl rfl hu40 rfl (by assumption) rfl) ?_
              refine E.GL.run rfl rfl rfl (E.Runs.load1 rfl rfl hu22 rfl (show _ = some (Value.slice a0 c.f0.length k0) from pw_cell_below L (XT 0 _ rfl))) ?_
              refine E.GL.run rfl rfl rfl (E.Runs.move rfl rfl) ?_
              refine E.GL.run rfl rfl rfl (E.Runs.indexAddrA (i := s) rfl rfl rfl hu22 z3 o3 (by omega) eX rfl) ?_
              refine E.GL.run rfl rfl rfl (E.Runs.load rfl rfl hu3 (pw_cell_below L XX)) ?_
              refine E.GL.run rfl rfl rfl (E.Runs.assign rfl rfl) ?_
              refine E.GL.done ?_
              refine E.QG.code ?_
              refine E.CG.seq ?_
              refine E.CG.heldH (none) (by kernel_rfl) fun v11 lD hh => ?_
              replace b3 := blk_below b3 lD
              replace b12 := blk_below b12 lD
              replace L := below_step L lD
              replace la := below_step la lD
              clear lD
              have s_b3 := b3
              have s_b12 := b12
              have s_L := L
              have s_la := la
              refine E.GH.take (i := 0) rfl (by kernel_rfl) (by kernel_rfl) (by kernel_rfl) (by intro c a d v w h; first | (cases d <;> exact h) | exact nomatch (show _ ∧ _ from h).1) rfl rfl rfl (fun w' hS => (E.Runs.move rfl rfl)) ?_
              refine E.GH.take (i := 1) rfl (by kernel_rfl) (by kernel_rfl) (by kernel_rfl) (by intro c a d v w h; first | (cases d <;> exact h) | exact nomatch (show _ ∧ _ from h).1) rfl rfl rfl (fun w' hS => (E.Runs.eql rfl rfl rfl (decide_eq_false (show ¬ ((4 : Int) = 0) by decide)))) ?_
              refine E.GH.take (i := 2) rfl (by kernel_rfl) (by kernel_rfl) (by kernel_rfl) (by intro c a d v w h; first | (cases d <;> exact h) | exact nomatch (show _ ∧ _ from h).1) rfl rfl rfl (fun w' hS => (E.Runs.move rfl rfl)) ?_
              refine E.GH.take (i := 3) rfl (by kernel_rfl) (by kernel_rfl) (by kernel_rfl) (by intro c a d v w h; first | (cases d <;> exact h) | exact nomatch (show _ ∧ _ from h).1) rfl rfl rfl (fun w' hS => (E.Runs.eql rfl rfl rfl (decide_eq_false (by omega)))) ?_
              refine E.GH.take (i := 4) rfl (by kernel_rfl) (by kernel_rfl) (by kernel_rfl) (by intro c a d v w h; first | (cases d <;> exact h) | exact nomatch (show _ ∧ _ from h).1) rfl rfl rfl (fun w' hS => (E.Runs.eqlv rfl rfl rfl rfl (fun _ _ _ => rfl) (bool_equal _ _))) ?_
              refine E.GH.take (i := 5) rfl (by kernel_rfl) (by kernel_rfl) (by kernel_rfl) (by intro c a d v w h; first | (cases d <;> exact h) | exact nomatch (show _ ∧ _ from h).1) rfl rfl rfl (fun w' hS => (E.Runs.move rfl rfl)) ?_
              refine E.GH.take (i := 6) rfl (by kernel_rfl) (by kernel_rfl) (by kernel_rfl) (by intro c a d v w h; first | (cases d <;> exact h) | exact nomatch (show _ ∧ _ from h).1) rfl rfl rfl (fun w' hS => (E.Runs.move rfl rfl)) ?_
              refine E.GH.take (i := 7) rfl (by kernel_rfl) (by kernel_rfl) (by kernel_rfl) (by intro c a d v w h; first | (cases d <;> exact h) | exact nomatch (show _ ∧ _ from h).1) rfl rfl rfl (fun w' hS => (E.Runs.eql rfl rfl rfl (decide_eq_true herr))) ?_
              refine E.GH.take (i := 8) rfl (by kernel_rfl) (by kernel_rfl) (by kernel_rfl) (by intro c a d v w h; first | (cases d <;> exact h) | exact nomatch (show _ ∧ _ from h).1) rfl rfl rfl (fun w' hS => (E.Runs.pick_t rfl rfl rfl)) ?_
              refine E.GH.take (i := 9) rfl (by kernel_rfl) (by kernel_rfl) (by kernel_rfl) (by intro c a d v w h; first | (cases d <;> exact h) | exact nomatch (show _ ∧ _ from h).1) rfl rfl rfl (fun w' hS => (E.Runs.move rfl rfl)) ?_
              refine E.GH.take (i := 10) rfl (by kernel_rfl) (by kernel_rfl) (by kernel_rfl) (by intro c a d v w h; first | (cases d <;> exact h) | exact nomatch (show _ ∧ _ from h).1) rfl rfl rfl (fun w' hS => (E.Runs.move rfl rfl)) ?_
              refine E.GH.take (i := 11) rfl (by kernel_rfl) (by kernel_rfl) (by kernel_rfl) (by intro c a d v w h; first | (cases d <;> exact h) | exact nomatch (show _ ∧ _ from h).1) rfl rfl rfl (fun w' hS => (E.Runs.eql rfl rfl rfl (decide_eq_true hfew))) ?_
              refine E.GH.take (i := 12) rfl (by kernel_rfl) (by kernel_rfl) (by kernel_rfl) (by intro c a d v w h; first | (cases d <;> exact h) | exact nomatch (show _ ∧ _ from h).1) rfl rfl rfl (fun w' hS => (E.Runs.pick_t rfl rfl rfl)) ?_
              refine E.GH.take (i := 13) rfl (by kernel_rfl) (by kernel_rfl) (by kernel_rfl) (by intro c a d v w h; first | (cases d <;> exact h) | exact nomatch (show _ ∧ _ from h).1) rfl rfl rfl (fun w' hS => (E.Runs.move rfl rfl)) ?_
              refine E.GH.take (i := 14) rfl (by kernel_rfl) (by kernel_rfl) (by kernel_rfl) (by intro c a d v w h; first | (cases d <;> exact h) | exact nomatch (show _ ∧ _ from h).1) rfl rfl rfl (fun w' hS => (E.Runs.move rfl rfl)) ?_
              refine E.GH.take (i := 15) rfl (by kernel_rfl) (by kernel_rfl) (by kernel_rfl) (by intro c a d v w h; first | (cases d <;> exact h) | exact nomatch (show _ ∧ _ from h).1) rfl rfl rfl (fun w' hS => (E.Runs.len rfl rfl hu22)) ?_
              refine E.GH.take (i := 16) rfl (by kernel_rfl) (by kernel_rfl) (by kernel_rfl) (by intro c a d v w h; first | (cases d <;> exact h) | exact nomatch (show _ ∧ _ from h).1) rfl rfl rfl (fun w' hS => (E.Runs.eql rfl rfl rfl (decide_eq_true (by rw [hsu0]; rfl)))) ?_
              refine E.GH.take (i := 17) rfl (by kernel_rfl) (by kernel_rfl) (by kernel_rfl) (by intro c a d v w h; first | (cases d <;> exact h) | exact nomatch (show _ ∧ _ from h).1) rfl rfl rfl (fun w' hS => (E.Runs.pick_t rfl rfl rfl)) ?_
              refine E.GH.take (i := 18) rfl (by kernel_rfl) (by kernel_rfl) (by kernel_rfl) (by intro c a d v w h; first | (cases d <;> exact h) | exact nomatch (show _ ∧ _ from h).1) rfl rfl rfl (fun w' hS => (E.Runs.move rfl rfl)) ?_
              refine E.GH.take (i := 19) rfl (by kernel_rfl) (by kernel_rfl) (by kernel_rfl) (by intro c a d v w h; first | (cases d <;> exact h) | exact nomatch (show _ ∧ _ from h).1) rfl rfl rfl (fun w' hS => (E.Runs.loads (cs := [.int .i64 x, .int .i64 x]) rfl rfl hu34 rfl info34s (blk_cells (blk_grown s_b12 hS E.nen)))) ?_
              refine E.GH.take (i := 20) rfl (by kernel_rfl) (by kernel_rfl) (by kernel_rfl) (by intro c a d v w h; first | (cases d <;> exact h) | exact nomatch (show _ ∧ _ from h).1) rfl rfl rfl (fun w' hS => (E.Runs.move rfl rfl)) ?_
              refine E.GH.take (i := 21) rfl (by kernel_rfl) (by kernel_rfl) (by kernel_rfl) (by intro c a d v w h; first | (cases d <;> exact h) | exact nomatch (show _ ∧ _ from h).1) rfl rfl rfl (fun w' hS => (E.Runs.move rfl rfl)) ?_
              refine E.GH.take (i := 22) rfl (by kernel_rfl) (by kernel_rfl) (by kernel_rfl) (by intro c a d v w h; first | (cases d <;> exact h) | exact nomatch (show _ ∧ _ from h).1) rfl rfl rfl (fun w' hS => (E.Runs.build rfl (E.epc rfl (E.epc rfl E.epn)) (build34 _ _))) ?_
              refine E.GH.take (i := 23) rfl (by kernel_rfl) (by kernel_rfl) (by kernel_rfl) (by intro c a d v w h; first | (cases d <;> exact h) | exact nomatch (show _ ∧ _ from h).1) rfl rfl rfl (fun w' hS => (E.Runs.eqlv rfl rfl rfl rfl (fun _ _ W => run_eqGuard_agg W _ _ _ _ _ _ Try.eqGuardType34) (equal34 _ _))) ?_
              refine E.GH.take (i := 24) rfl (by kernel_rfl) (by kernel_rfl) (by kernel_rfl) (by intro c a d v w h; first | (cases d <;> exact h) | exact nomatch (show _ ∧ _ from h).1) rfl rfl rfl (fun w' hS => (E.Runs.pick_t rfl rfl rfl)) ?_
              refine E.GH.take (i := 25) rfl (by kernel_rfl) (by kernel_rfl) (by kernel_rfl) (by intro c a d v w h; first | (cases d <;> exact h) | exact nomatch (show _ ∧ _ from h).1) rfl rfl rfl (fun w' hS => (E.Runs.move rfl rfl)) ?_
              refine E.GH.take (i := 26) rfl (by kernel_rfl) (by kernel_rfl) (by kernel_rfl) (by intro c a d v w h; first | (cases d <;> exact h) | exact nomatch (show _ ∧ _ from h).1) rfl rfl rfl (fun w' hS => (E.Runs.loads (cs := [.slice m.A V.ps.length m.a, .slice m.B V.qs.length m.b, .slice m.C V.ts.length m.c, .slice m.D V.cs.length m.d]) rfl rfl hu25 rfl info25s (blk_cells (blk_grown s_b3 hS E.nen)))) ?_
              refine E.GH.take (i := 27) rfl (by kernel_rfl) (by kernel_rfl) (by kernel_rfl) (by intro c a d v w h; first | (cases d <;> exact h) | exact nomatch (show _ ∧ _ from h).1) rfl rfl rfl (fun w' hS => (E.Runs.loads (cs := [.slice m.A V.ps.length m.a, .slice m.B V.qs.length m.b, .slice m.C V.ts.length m.c, .slice m.D V.cs.length m.d]) rfl rfl hu25 rfl info25s (blk_cells (blk_grown s_b3 hS E.nen)))) ?_
              refine E.GH.one (i := 28) (by kernel_rfl) rfl ?_
              refine E.GO.st rfl rfl rfl (E.ST.call rfl ent19 (E.evc rfl E.evn) ((own_calls V m _ (hV.below L) hs).mono ?_))
              rintro e w129 ⟨AO, kO, rfl, hO, l129⟩
              refine ⟨_, rfl, hh.trans (E.gbB l129), ?_⟩
              replace hh := hh.trans (E.gbB l129)
              replace b3 := blk_below b3 l129
              replace b12 := blk_below b12 l129
              replace L := below_step L l129
              replace la := below_step la l129
              have lo := Below.refl w129.heap.size w129
              generalize V.cs.map (·.f0) = tso at hO hti ⊢
              refine E.GH.one (i := 29) (by kernel_rfl) rfl ?_
              refine E.GO.st rfl rfl rfl (E.ST.call rfl ent18 (E.evc rfl (E.evc rfl E.evn)) ((isTruth_calls V m tso AO kO _ (hV.below L) ok (Kd.C_below hO lo) true (iff_of_true rfl hti)).mono ?_))
              rintro e w130 ⟨rfl, l130⟩
              refine ⟨_, rfl, hh.trans (E.gbB l130), ?_⟩
              replace hh := hh.trans (E.gbB l130)
              replace b3 := blk_below b3 l130
              replace b12 := blk_below b12 l130
              replace L := below_step L l130
              replace la := below_step la l130
              replace lo := below_step lo l130
              refine E.GH.take (i := 30) rfl (by kernel_rfl) (by kernel_rfl) (by kernel_rfl) (by intro c a d v w h; first | (cases d <;> exact h) | exact nomatch (show _ ∧ _ from h).1) rfl rfl rfl (fun w' hS => (E.Runs.pick_t rfl rfl rfl)) ?_
              refine E.GH.take (i := 31) rfl (by kernel_rfl) (by kernel_rfl) (by kernel_rfl) (by intro c a d v w h; first | (cases d <;> exact h) | exact nomatch (show _ ∧ _ from h).1) rfl rfl rfl (fun w' hS => (E.Runs.move rfl rfl)) ?_
              refine E.GH.one (i := 32) (by kernel_rfl) rfl ?_
              refine E.GO.st rfl rfl rfl (E.ST.call rfl ent13 E.evn ((works_calls _).mono ?_))
              rintro e w133 ⟨rfl, l133⟩
              refine ⟨_, rfl, hh.trans (E.gbB l133), ?_⟩
              replace hh := hh.trans (E.gbB l133)
              replace b3 := blk_below b3 l133
              replace b12 := blk_below b12 l133
              replace L := below_step L l133
              replace la := below_step la l133
              replace lo := below_step lo l133
              refine E.GH.take (i := 33) rfl (by kernel_rfl) (by kernel_rfl) (by kernel_rfl) (by intro c a d v w h; first | (cases d <;> exact h) | exact nomatch (show _ ∧ _ from h).1) rfl rfl rfl (fun w' hS => (E.Runs.pick_t rfl rfl rfl)) ?_
              refine E.GH.take (i := 34) rfl (by kernel_rfl) (by kernel_rfl) (by kernel_rfl) (by intro c a d v w h; first | (cases d <;> exact h) | exact nomatch (show _ ∧ _ from h).1) rfl rfl rfl (fun w' hS => (E.Runs.assign rfl rfl)) ?_
              refine E.GH.done (by kernel_rfl) ?_
              refine E.QG.code ?_
              refine E.CG.ret ?_
              refine E.QG.pass_ret ?_
              exact E.QG.result rfl rfl ⟨rfl, L⟩
            · refine E.GL.run rfl rfl rfl (E.Runs.move rfl rfl) ?_
              refine E.GL.run rfl rfl rfl (E.Runs.neq rfl rfl rfl (E.ne_f (chkV_yes ok))) ?_
              refine E.GL.run rfl rfl rfl (E.Runs.move rfl rfl) ?_
              refine E.GL.run rfl rfl rfl (E.Runs.move rfl rfl) ?_
              refine E.GL.run rfl rfl rfl (E.Runs.move rfl rfl) ?_
              refine E.GL.run rfl rfl rfl (E.Runs.neq rfl rfl rfl (E.ne_f rfl)) ?_
              refine E.GL.run rfl rfl rfl (E.Runs.pick_f rfl rfl rfl) ?_
              refine E.GL.run rfl rfl rfl (E.Runs.move rfl rfl) ?_
              refine E.GL.run rfl rfl rfl (E.Runs.move rfl rfl) ?_
              refine E.GL.run rfl rfl rfl (E.Runs.move rfl rfl) ?_
              refine E.GL.run rfl rfl rfl (E.Runs.neq rfl rfl rfl (E.ne_f rfl)) ?_
              refine E.GL.run rfl rfl rfl (E.Runs.pick_f rfl rfl rfl) ?_
              refine E.GL.run rfl rfl rfl (E.Runs.move rfl rfl) ?_
              refine E.GL.run rfl rfl rfl (E.Runs.move rfl rfl) ?_
              refine E.GL.cmpn rfl rfl rfl (fun _ h => (E.Runs.neq rfl rfl rfl h)) (fun h80 => ?_) (fun h80 => ?_)
              · have h3 := err_3 ok h80
                refine E.GL.run rfl rfl rfl (E.Runs.move rfl rfl) ?_
                refine E.GL.run rfl rfl rfl (E.Runs.move rfl rfl) ?_
                refine E.GL.run rfl rfl rfl (E.Runs.neq rfl rfl rfl (E.ne_f h3)) ?_
                refine E.GL.run rfl rfl rfl (E.Runs.pick_t rfl rfl rfl) ?_
                refine E.GL.run rfl rfl rfl (E.Runs.pick_f rfl rfl rfl) ?_
                refine E.GL.done ?_
                refine E.QG.code ?_
                refine E.CG.cond_f rfl ?_
                refine E.CG.skip ?_
                refine E.QG.code ?_
                refine E.CG.seq ?_
                refine E.CG.seq ?_
                refine E.CG.list ?_
                refine E.GL.run rfl rfl rfl (E.Runs.move rfl rfl) ?_
                refine E.GL.run rfl rfl rfl (E.Runs.eql rfl rfl rfl (decide_eq_false hp1)) ?_
                refine E.GL.run rfl rfl rfl (E.Runs.move rfl rfl) ?_
                refine E.GL.run rfl rfl rfl (E.Runs.move rfl rfl) ?_
                refine E.GL.run rfl rfl rfl (E.Runs.eql rfl rfl rfl (decide_eq_false hp2)) ?_
                refine E.GL.run rfl rfl rfl (E.Runs.pick_f rfl rfl rfl) ?_
                refine E.GL.done ?_
                refine E.QG.code ?_
                refine E.CG.cond_f rfl ?_
                refine E.CG.skip ?_
                refine E.QG.code ?_
                refine E.CG.seq ?_
                refine E.CG.list ?_
                refine E.GL.run rfl rfl rfl (E.Runs.move rfl rfl) ?_
                refine E.GL.run rfl rfl rfl (E.Runs.neq rfl rfl rfl (E.ne_t h80)) ?_
                refine E.GL.run rfl rfl rfl (E.Runs.move rfl rfl) ?_
                refine E.GL.skip rfl rfl rfl ?_
                refine E.GL.skip rfl rfl rfl ?_
                refine E.GL.skip rfl rfl rfl ?_
                refine E.GL.skip rfl rfl rfl ?_
                refine E.GL.skip rfl rfl rfl ?_
                refine E.GL.skip rfl rfl rfl ?_
                refine E.GL.skip rfl rfl rfl ?_
                refine E.GL.run rfl rfl rfl (E.Runs.pick_t rfl rfl rfl) ?_
                refine E.GL.run rfl rfl rfl (E.Runs.move rfl rfl) ?_
                refine E.GL.st rfl rfl rfl (E.ST.call rfl ent13 E.evn ((works_calls _).mono ?_))
                rintro e w147 ⟨rfl, l147⟩
                refine ⟨_, rfl, ?_⟩
                replace b3 := blk_below b3 l147
                replace b12 := blk_below b12 l147
                replace L := below_step L l147
                replace la := below_step la l147
                refine E.GL.run rfl rfl rfl (E.Runs.pick_t rfl rfl rfl) ?_
                refine E.GL.run rfl rfl rfl (E.Runs.assign rfl rfl) ?_
                refine E.GL.done ?_
                refine E.QG.code ?_
                refine E.CG.ret ?_
                exact E.QG.result rfl rfl ⟨rfl, L⟩
              · obtain ⟨hb1, hb2⟩ := bad_few ok hg h80
                refine E.GL.run rfl rfl rfl (E.Runs.move rfl rfl) ?_
                refine E.GL.skip rfl rfl rfl ?_
                refine E.GL.skip rfl rfl rfl ?_
                refine E.GL.run rfl rfl rfl (E.Runs.pick_f rfl rfl rfl) ?_
                refine E.GL.run rfl rfl rfl (E.Runs.pick_f rfl rfl rfl) ?_
                refine E.GL.done ?_
                refine E.QG.code ?_
                refine E.CG.cond_f rfl ?_
                refine E.CG.skip ?_
                refine E.QG.code ?_
                refine E.CG.seq ?_
                refine E.CG.seq ?_
                refine E.CG.list ?_
                refine E.GL.run rfl rfl rfl (E.Runs.move rfl rfl) ?_
                refine E.GL.run rfl rfl rfl (E.Runs.eql rfl rfl rfl (decide_eq_false hp1)) ?_
                refine E.GL.run rfl rfl rfl (E.Runs.move rfl rfl) ?_
                refine E.GL.run rfl rfl rfl (E.Runs.move rfl rfl) ?_
                refine E.GL.run rfl rfl rfl (E.Runs.eql rfl rfl rfl (decide_eq_false hp2)) ?_
                refine E.GL.run rfl rfl rfl (E.Runs.pick_f rfl rfl rfl) ?_
                refine E.GL.done ?_
                refine E.QG.code ?_
                refine E.CG.cond_f rfl ?_
                refine E.CG.skip ?_
                refine E.QG.code ?_
                refine E.CG.seq ?_
                refine E.CG.list ?_
                refine E.GL.run rfl rfl rfl (E.Runs.move rfl rfl) ?_
                refine E.GL.run rfl rfl rfl (E.Runs.neq rfl rfl rfl (E.ne_f h80)) ?_
                refine E.GL.run rfl rfl rfl (E.Runs.move rfl rfl) ?_
                refine E.GL.run rfl rfl rfl (E.Runs.move rfl rfl) ?_
                refine E.GL.run rfl rfl rfl (E.Runs.gtr rfl rfl rfl (decide_eq_true hb1)) ?_
                refine E.GL.run rfl rfl rfl (E.Runs.move rfl rfl) ?_
                refine E.GL.run rfl rfl rfl (E.Runs.move rfl rfl) ?_
                refine E.GL.run rfl rfl rfl (E.Runs.len rfl rfl hu22) ?_
                refine E.GL.run rfl rfl rfl (E.Runs.gtr rfl rfl rfl (decide_eq_true (by omega))) ?_
                refine E.GL.run rfl rfl rfl (E.Runs.pick_t rfl rfl rfl) ?_
                refine E.GL.run rfl rfl rfl (E.Runs.pick_f rfl rfl rfl) ?_
                refine E.GL.run rfl rfl rfl (E.Runs.move rfl rfl) ?_
                refine E.GL.st rfl rfl rfl (E.ST.call rfl ent13 E.evn ((works_calls _).mono ?_))
                rintro e w147 ⟨rfl, l147⟩
                refine ⟨_, rfl, ?_⟩
                replace b3 := blk_below b3 l147
                replace b12 := blk_below b12 l147
                replace L := below_step L l147
                replace la := below_step la l147
                refine E.GL.run rfl rfl rfl (E.Runs.pick_t rfl rfl rfl) ?_
                refine E.GL.run rfl rfl rfl (E.Runs.assign rfl rfl) ?_
                refine E.GL.done ?_
                refine E.QG.code ?_
                refine E.CG.ret ?_
                exact E.QG.result rfl rfl ⟨rfl, L⟩
  · refine E.GL.st rfl rfl rfl (E.ST.call rfl ent12 (E.evc rfl E.evn) ((valid_calls V m _ (hV.below L) false (iff_of_false Bool.false_ne_true h18)).mono ?_))
    rintro e w18 ⟨rfl, l18⟩
    refine ⟨_, rfl, ?_⟩
    replace b3 := blk_below b3 l18
    replace L := below_step L l18
    refine E.GL.run rfl rfl rfl (E.Runs.not rfl rfl) ?_
    refine E.GL.run rfl rfl rfl (E.Runs.move rfl rfl) ?_
    refine E.GL.skip rfl rfl rfl ?_
    refine E.GL.skip rfl rfl rfl ?_
    refine E.GL.run rfl rfl rfl (E.Runs.pick_t rfl rfl rfl) ?_
    refine E.GL.run rfl rfl rfl (E.Runs.move rfl rfl) ?_
    refine E.GL.skip rfl rfl rfl ?_
    refine E.GL.skip rfl rfl rfl ?_
    refine E.GL.skip rfl rfl rfl ?_
    refine E.GL.skip rfl rfl rfl ?_
    refine E.GL.skip rfl rfl rfl ?_
    refine E.GL.run rfl rfl rfl (E.Runs.pick_t rfl rfl rfl) ?_
    refine E.GL.run rfl rfl rfl (E.Runs.move rfl rfl) ?_
    refine E.GL.skip rfl rfl rfl ?_
    refine E.GL.skip rfl rfl rfl ?_
    refine E.GL.run rfl rfl rfl (E.Runs.pick_t rfl rfl rfl) ?_
    refine E.GL.run rfl rfl rfl (E.Runs.move rfl rfl) ?_
    refine E.GL.skip rfl rfl rfl ?_
    refine E.GL.skip rfl rfl rfl ?_
    refine E.GL.skip rfl rfl rfl ?_
    refine E.GL.skip rfl rfl rfl ?_
    refine E.GL.skip rfl rfl rfl ?_
    refine E.GL.run rfl rfl rfl (E.Runs.pick_t rfl rfl rfl) ?_
    refine E.GL.done ?_
    refine E.QG.code ?_
    refine E.CG.cond_t rfl ?_
    refine E.CG.seq ?_
    refine E.CG.list ?_
    refine E.GL.st rfl rfl rfl (E.ST.call rfl ent13 E.evn ((works_calls _).mono ?_))
    rintro e w42 ⟨rfl, l42⟩
    refine ⟨_, rfl, ?_⟩
    replace b3 := blk_below b3 l42
    replace L := below_step L l42
    refine E.GL.run rfl rfl rfl (E.Runs.assign rfl rfl) ?_
    refine E.GL.done ?_
    refine E.QG.code ?_
    refine E.CG.ret ?_
    refine E.QG.pass_ret ?_
    exact E.QG.result rfl rfl ⟨rfl, L⟩

end Go.Proofs.Ytiplichdhcmjdaa.T
namespace Go.Proofs.Ytiplichdhcmjdaa.T
open Go.ChangeShapes Go.WideShapes Go.ChangeAt Go.Deep
open Go.RowKit Go.Proofs.YtiplichdhcmjdaaW.PrintWords Go.Proofs.YtiplichdhcmjdaaW.PrintMore
open Go.Proofs.Ytiplichdhcmjdaa.P
set_option linter.unusedVariables false
set_option linter.unusedSimpArgs false

section
variable {X : Type} {enc : TypeId × Value → X} {w : World} {base : Nat} {spare : Nat → Bool} {held : Bool}
theorem fld {fs : Array Field} {n : Nat} {cs : List Value} {xs : List (DataW X × List MemPlace)} (hlen : xs.length = fs.size) (hg : ∀ (i : Nat) (f : Field), fs[i]? = some f → DataW.trod enc Try.prog w base spare held n f.type ((cs.drop f.offset).take (Try.prog.cellsOf f.type)) = xs[i]?) (i : Nat) (f : Field) (hf : fs[i]? = some f)
    (ty : TypeId) (off k : Nat) (h1 : f.type = ty) (h2 : f.offset = off) (h3 : Try.prog.cellsOf ty = k) :
    ∃ y, DataW.trod enc Try.prog w base spare held n ty ((cs.drop off).take k) = some y := by
  have hi : i < xs.length := by rw [hlen]; exact (Array.getElem?_eq_some_iff.1 hf).1
  subst h1 h2 h3
  exact ⟨_, (hg i f hf).trans (List.getElem?_eq_getElem hi)⟩

theorem ocells3 : Try.prog.cellsOf 3 = 1 := by kernel_rfl

theorem trod3 {n : Nat} {cs : List Value} {x : DataW X × List MemPlace} (h : DataW.trod enc Try.prog w base spare held n 3 cs = some x) : ∃ (a : Int), cs = [.int .i64 a] := by
  obtain ⟨a, hc, _⟩ := DataW.trod_int Try.underlying3 h
  exact ⟨a, hc⟩

set_option maxRecDepth 100000 in
theorem int_open {r : Reach} {b0 : Nat} {v : Value} {d : DataW X} {p : List MemPlace} (hval : Value.okWide Try.prog w r b0 3 v) (h : DataW.Trod enc Try.prog w base spare held 3 v d p) : ∃ m : Int, v = .int .i64 m := okWide_int Try.underlying3 hval

theorem ocells25 : Try.prog.cellsOf 25 = 4 := by kernel_rfl

theorem ocells22 : Try.prog.cellsOf 22 = 1 := by kernel_rfl

theorem trod22 {n : Nat} {cs : List Value} {x : DataW X × List MemPlace} (h : DataW.trod enc Try.prog w base spare held n 22 cs = some x) : ∃ (aA : Option Addr) (ac : Nat) (al : List Int), cs = [.slice aA al.length ac] ∧ al.length ≤ ac ∧ Kd.C (Kd.int .i64) w aA al.length al := by
  rcases open_slice Try.underlying22 h with ⟨rfl, _⟩ | ⟨a, len, cap, m, k, D, Pl, rfl, hb, hl, hm, hmm, hx, hi⟩
  · exact ⟨none, 0, [], rfl, Nat.le_refl _, rfl, by simp, fun h => absurd h (by simp)⟩
  · have hlm : len ≤ m := by rw [hmm]; split <;> omega
    have H : ∀ i, i < len → ∃ s : Int, w.cells? base (a.add (i * 1)) 1 = some [.int .i64 s] := by
      intro i hil
      obtain ⟨cs', hc, ht⟩ := hi i (by omega)
      obtain ⟨a, rfl⟩ := trod3 ht
      rw [ocells3] at hc
      exact ⟨a, hc⟩
    obtain ⟨F, hF⟩ : ∃ F : Nat → Int, ∀ i, i < len → w.cells? base (a.add (i * 1)) 1 = some [.int .i64 (F i)] := by
      refine ⟨fun i => if h : i < len then (H i h).choose else 0, fun i h => ?_⟩
      simp only [dif_pos h]
      exact (H i h).choose_spec
    refine ⟨some a, cap, (List.range len).map F, by simp, by simpa using hl, ?_, ?_, ?_⟩
    · rfl
    · simp only [List.length_map, List.length_range]
      unfold maxLen at hm
      omega
    · intro _
      refine ⟨a, rfl, fun j p hj => ?_⟩
      have hjl : j < len := by
        have := (List.getElem?_eq_some_iff.1 hj).1
        simpa using this
      have hp : p = F j := by
        rw [List.getElem?_map, List.getElem?_range hjl] at hj
        simpa using hj.symm
      subst hp
      refine ⟨[.int .i64 (F j)], rfl, rfl, ?_⟩
      intro i u hu
      obtain ⟨_, hcl, hat⟩ := World.cells?_some (hF j hjl)
      have hil : i < 1 := (List.getElem?_eq_some_iff.1 hu).1
      have := hat i hil
      rw [Go.Deep.add_add] at this
      rw [show j * ((Kd.int .i64)).sz + i = j * 1 + i from rfl, this, hu]

theorem ocells23 : Try.prog.cellsOf 23 = 1 := by kernel_rfl

theorem ocells40 : Try.prog.cellsOf 40 = 6 := by kernel_rfl

theorem list_of6 {cs : List Value} (h : cs.length = 6) : ∃ v0 v1 v2 v3 v4 v5, cs = [v0, v1, v2, v3, v4, v5] := by
  match cs, h with
  | [v0, v1, v2, v3, v4, v5], _ => exact ⟨v0, v1, v2, v3, v4, v5, rfl⟩

theorem trod40 {n : Nat} {cs : List Value} {x : DataW X × List MemPlace} (h : DataW.trod enc Try.prog w base spare held n 40 cs = some x) : ∃ (a_0A : Option Addr) (a_0c : Nat) (a_0l : List Int) (a_1 : Int) (a_2 : Int) (a_3 : Int) (a_4 : Int) (a_5 : Int), cs = [.slice a_0A a_0l.length a_0c, .int .i64 a_1, .int .i64 a_2, .int .i64 a_3, .int .i64 a_4, .int .i64 a_5] ∧ a_0l.length ≤ a_0c ∧ Kd.C (Kd.int .i64) w a_0A a_0l.length a_0l := by
  obtain ⟨xs, m, _, hx, hl, hlen, hg⟩ := DataW.trod_struct Try.underlying40 h
  rw [ocells40] at hl
  obtain ⟨v0, v1, v2, v3, v4, v5, rfl⟩ := list_of6 hl
  obtain ⟨y0, h0⟩ := fld hlen hg 0 _ rfl 22 0 1 rfl rfl ocells22
  obtain ⟨y1, h1⟩ := fld hlen hg 1 _ rfl 3 1 1 rfl rfl ocells3
  obtain ⟨y2, h2⟩ := fld hlen hg 2 _ rfl 3 2 1 rfl rfl ocells3
  obtain ⟨y3, h3⟩ := fld hlen hg 3 _ rfl 3 3 1 rfl rfl ocells3
  obtain ⟨y4, h4⟩ := fld hlen hg 4 _ rfl 3 4 1 rfl rfl ocells3
  obtain ⟨y5, h5⟩ := fld hlen hg 5 _ rfl 3 5 1 rfl rfl ocells3
  obtain ⟨a_0A, a_0c, a_0l, e0, f0_0, f0_1⟩ := trod22 h0
  obtain ⟨a_1, e1⟩ := trod3 h1
  obtain ⟨a_2, e2⟩ := trod3 h2
  obtain ⟨a_3, e3⟩ := trod3 h3
  obtain ⟨a_4, e4⟩ := trod3 h4
  obtain ⟨a_5, e5⟩ := trod3 h5
  simp only [List.drop_zero, List.take_succ_cons, List.take_zero, List.drop_succ_cons, List.cons.injEq, and_true] at e0 e1 e2 e3 e4 e5
  subst e0 e1 e2 e3 e4 e5
  exact ⟨a_0A, a_0c, a_0l, a_1, a_2, a_3, a_4, a_5, rfl, f0_0, f0_1⟩

theorem trod23 {n : Nat} {cs : List Value} {x : DataW X × List MemPlace} (h : DataW.trod enc Try.prog w base spare held n 23 cs = some x) : ∃ (aA : Option Addr) (ac : Nat) (al : List S40), cs = [.slice aA al.length ac] ∧ al.length ≤ ac ∧ Kd.C k40 w aA al.length al := by
  rcases open_slice Try.underlying23 h with ⟨rfl, _⟩ | ⟨a, len, cap, m, k, D, Pl, rfl, hb, hl, hm, hmm, hx, hi⟩
  · exact ⟨none, 0, [], rfl, Nat.le_refl _, rfl, by simp, fun h => absurd h (by simp)⟩
  · have hlm : len ≤ m := by rw [hmm]; split <;> omega
    have H : ∀ i, i < len → ∃ p : S40 × List Value, w.cells? base (a.add (i * 6)) 6 = some p.2 ∧ Kd.K k40 w p.1 p.2 := by
      intro i hil
      obtain ⟨cs', hc, ht⟩ := hi i (by omega)
      obtain ⟨a_0A, a_0c, a_0l, a_1, a_2, a_3, a_4, a_5, rfl, q0, q1⟩ := trod40 ht
      rw [ocells40] at hc
      exact ⟨((⟨a_0l, a_1, a_2, a_3, a_4, a_5⟩ : S40), _), hc, k40_mk w _ q0 q1⟩
    obtain ⟨F, hF⟩ : ∃ F : Nat → S40 × List Value, ∀ i, i < len → w.cells? base (a.add (i * 6)) 6 = some (F i).2 ∧ Kd.K k40 w (F i).1 (F i).2 := by
      refine ⟨fun i => if h : i < len then (H i h).choose else (P.z40, []), fun i h => ?_⟩
      simp only [dif_pos h]
      exact (H i h).choose_spec
    refine ⟨some a, cap, (List.range len).map (fun i => (F i).1), by simp, by simpa using hl, ?_, ?_, ?_⟩
    · rfl
    · simp only [List.length_map, List.length_range]
      unfold maxLen at hm
      omega
    · intro _
      refine ⟨a, rfl, fun j p hj => ?_⟩
      have hjl : j < len := by
        have := (List.getElem?_eq_some_iff.1 hj).1
        simpa using this
      have hp : p = (F j).1 := by
        rw [List.getElem?_map, List.getElem?_range hjl] at hj
        simpa using hj.symm
      subst hp
      refine ⟨(F j).2, Kd.K_len _ (hF j hjl).2, (hF j hjl).2, ?_⟩
      intro i u hu
      obtain ⟨_, hcl, hat⟩ := World.cells?_some (hF j hjl).1
      have hil : i < 6 := by
        have h1 := (List.getElem?_eq_some_iff.1 hu).1
        have h2 : (F j).2.length = 6 := Kd.K_len _ (hF j hjl).2
        omega
      have := hat i hil
      rw [Go.Deep.add_add] at this
      rw [show j * (Kd.sz k40) + i = j * 6 + i from rfl, this, hu]

theorem list_of4 {cs : List Value} (h : cs.length = 4) : ∃ v0 v1 v2 v3, cs = [v0, v1, v2, v3] := by
  match cs, h with
  | [v0, v1, v2, v3], _ => exact ⟨v0, v1, v2, v3, rfl⟩

theorem trod25 {n : Nat} {cs : List Value} {x : DataW X × List MemPlace} (h : DataW.trod enc Try.prog w base spare held n 25 cs = some x) : ∃ (a_0A : Option Addr) (a_0c : Nat) (a_0l : List Int) (a_1A : Option Addr) (a_1c : Nat) (a_1l : List Int) (a_2A : Option Addr) (a_2c : Nat) (a_2l : List Int) (a_3A : Option Addr) (a_3c : Nat) (a_3l : List S40), cs = [.slice a_0A a_0l.length a_0c, .slice a_1A a_1l.length a_1c, .slice a_2A a_2l.length a_2c, .slice a_3A a_3l.length a_3c] ∧ a_0l.length ≤ a_0c ∧ Kd.C (Kd.int .i64) w a_0A a_0l.length a_0l ∧ a_1l.length ≤ a_1c ∧ Kd.C (Kd.int .i64) w a_1A a_1l.length a_1l ∧ a_2l.length ≤ a_2c ∧ Kd.C (Kd.int .i64) w a_2A a_2l.length a_2l ∧ a_3l.length ≤ a_3c ∧ Kd.C k40 w a_3A a_3l.length a_3l := by
  obtain ⟨xs, m, _, hx, hl, hlen, hg⟩ := DataW.trod_struct Try.underlying25 h
  rw [ocells25] at hl
  obtain ⟨v0, v1, v2, v3, rfl⟩ := list_of4 hl
  obtain ⟨y0, h0⟩ := fld hlen hg 0 _ rfl 22 0 1 rfl rfl ocells22
  obtain ⟨y1, h1⟩ := fld hlen hg 1 _ rfl 22 1 1 rfl rfl ocells22
  obtain ⟨y2, h2⟩ := fld hlen hg 2 _ rfl 22 2 1 rfl rfl ocells22
  obtain ⟨y3, h3⟩ := fld hlen hg 3 _ rfl 23 3 1 rfl rfl ocells23
  obtain ⟨a_0A, a_0c, a_0l, e0, f0_0, f0_1⟩ := trod22 h0
  obtain ⟨a_1A, a_1c, a_1l, e1, f1_0, f1_1⟩ := trod22 h1
  obtain ⟨a_2A, a_2c, a_2l, e2, f2_0, f2_1⟩ := trod22 h2
  obtain ⟨a_3A, a_3c, a_3l, e3, f3_0, f3_1⟩ := trod23 h3
  simp only [List.drop_zero, List.take_succ_cons, List.take_zero, List.drop_succ_cons, List.cons.injEq, and_true] at e0 e1 e2 e3
  subst e0 e1 e2 e3
  exact ⟨a_0A, a_0c, a_0l, a_1A, a_1c, a_1l, a_2A, a_2c, a_2l, a_3A, a_3c, a_3l, rfl, f0_0, f0_1, f1_0, f1_1, f2_0, f2_1, f3_0, f3_1⟩

set_option maxRecDepth 100000 in
theorem evening_open {r : Reach} {b0 : Nat} {v : Value} {d : DataW X} {p : List MemPlace} (hval : Value.okWide Try.prog w r b0 25 v) (h : DataW.Trod enc Try.prog w base spare held 25 v d p) : ∃ (a_0A : Option Addr) (a_0c : Nat) (a_0l : List Int) (a_1A : Option Addr) (a_1c : Nat) (a_1l : List Int) (a_2A : Option Addr) (a_2c : Nat) (a_2l : List Int) (a_3A : Option Addr) (a_3c : Nat) (a_3l : List S40), v = .agg #[.slice a_0A a_0l.length a_0c, .slice a_1A a_1l.length a_1c, .slice a_2A a_2l.length a_2c, .slice a_3A a_3l.length a_3c] ∧ a_0l.length ≤ a_0c ∧ Kd.C (Kd.int .i64) w a_0A a_0l.length a_0l ∧ a_1l.length ≤ a_1c ∧ Kd.C (Kd.int .i64) w a_1A a_1l.length a_1l ∧ a_2l.length ≤ a_2c ∧ Kd.C (Kd.int .i64) w a_2A a_2l.length a_2l ∧ a_3l.length ≤ a_3c ∧ Kd.C k40 w a_3A a_3l.length a_3l := by
  obtain ⟨cs, rfl, hsz⟩ := okWide_struct Try.underlying25 hval
  obtain ⟨n, hn⟩ := h
  obtain ⟨a_0A, a_0c, a_0l, a_1A, a_1c, a_1l, a_2A, a_2c, a_2l, a_3A, a_3c, a_3l, hH, f0, f1, f2, f3, f4, f5, f6, f7⟩ := trod25 hn
  obtain ⟨l⟩ := cs
  obtain rfl : l = _ := hH
  exact ⟨a_0A, a_0c, a_0l, a_1A, a_1c, a_1l, a_2A, a_2c, a_2l, a_3A, a_3c, a_3l, rfl, f0, f1, f2, f3, f4, f5, f6, f7⟩

end

end Go.Proofs.Ytiplichdhcmjdaa.T
