/- The search for teams: the walk of assign. -/
import Derived.Test.YthdbkhdiaehblaaT46
namespace Go.Proofs.Ythdbkhdiaehblaa.T
open Go.RowKit Go.Proofs.YthdbkhdiaehblaaW.PrintWords Go.Proofs.YthdbkhdiaehblaaW.PrintMore
open Go.Proofs.Ythdbkhdiaehblaa.P
set_option linter.unusedVariables false
set_option linter.unusedSimpArgs false

/-- What the search tells of a day and slots. -/
def AsgOk (H : Hs) (n : Int) (d : Day) (l : List S36) (o : Option (List Int)) : Prop :=
  (∀ ts, o = some ts → Tms n l ts ∧ okT (pcL H) H d (withT l ts)) ∧ (o = none → ∀ ts, Tms n l ts → ¬ okT (pcL H) H d (withT l ts))
theorem all_step {P : Int → Prop} {i : Nat} (hi : P i) (h : ∀ t : Int, 0 ≤ t → t < (i : Int) → P t) : ∀ t : Int, 0 ≤ t → t < ((i + 1 : Nat) : Int) → P t := by
  intro t h1 h2
  by_cases e : t = (i : Int)
  · subst e
    exact hi
  · exact h t h1 (by omega)
theorem info97s : (Try.prog.info? 97).map (·.size) = some 4 := by kernel_rfl
theorem info99z : (Try.prog.info? 99).map (·.zero) = some (some (.agg #[.int .i64 0, .int .i64 0, .int .i64 0, .int .i64 0, .int .i64 0, .int .i64 0, .int .i64 0, .int .i64 0, .nilFunc, .int .i64 0, .int .i64 0, .int .i64 0, .int .i64 0, .int .i64 0, .int .i64 0, .int .i64 0, .int .i64 0, .int .i64 0, .int .i64 0, .int .i64 0, .int .i64 0])) := by kernel_rfl
/-- A day is read whole. -/
theorem runs_day {N : Nat} {env : E.Env} {o : Oper} {W : World} {x : Operand} {g : Nat} {p : Pc} {H : Hs} {d : Day} (ho : o.op = .load 99 x) (hx : E.Ev env x (.pointer (some ⟨g, 0, none⟩))) (hb : W.heap[g]? = some (.cells (dayCells p H d) 99 (0, 0))) (h1 : d.clean.length = 6) (h2 : d.done.length = 4) : E.Runs Try.prog N env o W (.agg (dayCells p H d)) := by
  have hs := dayCells_size (p := p) (H := H) h1 h2
  exact E.Runs.loads (cs := dayPre p H ++ d.clean.map (Value.int .i64) ++ d.done.map (Value.int .i64)) ho hx Try.underlying99 rfl (by
    rw [show (dayPre p H ++ d.clean.map (Value.int .i64) ++ d.done.map (Value.int .i64)).length = 21 from hs]
    exact info99) (blk_cells hb)
theorem play_L {H : Hs} {d : Day} {s : S36} {b t : Int} {g : Nat} {W : World} (hH : HouseOk H) (hs : SlotIn H s) (hd : DayOk b d) (hb : b ≤ 900000) (ht : 0 ≤ t ∧ t < 4) (hg : W.heap[g]? = some (.cells (dayCells (pcL H) H d) 99 (0, 0))) :
    Calls Try.prog 60 #[.pointer (some ⟨g, 0, none⟩), sv s, .int .i64 t] W fun e w' => e = .returned (tv (playT (pcL H) H d s t)) ∧ w'.heap[g]? = some (.cells (dayCells (pcL H) H (playD (pcL H) H d s t)) 99 (0, 0)) ∧ W.grownBy w' (some g) := by
  have F := fitsL hH
  have S := sfitsL hH hs
  have c1 := hd.hc _ (rd_mem S.s0 (by rw [hd.hl]; exact S.s1))
  have c2 := hd.hd _ (rd_mem ht.1 (by rw [hd.hm]; exact ht.2))
  exact play_calls (pcL H) H d g s t W F.hf (fun W => F.hfn s W) hg hd.hl hd.hm S.s0 S.s1 ht.1 ht.2 F.e0 F.e1 S.b0 S.b1 F.r0 F.r1 S.p0 S.p1 S.u0 S.u1 c1.1 (by omega) c2.1 (by omega) F.v0 F.v1 F.v2 F.v3
theorem day_next {H : Hs} {d : Day} {s : S36} {b t : Int} (hH : HouseOk H) (hs : SlotIn H s) (hd : DayOk b d) (hb : 10000 ≤ b) (ht : 0 ≤ t ∧ t < 4) : DayOk (b + 6000) (playD (pcL H) H d s t) :=
  playD_ok (p := pcL H) (s := teamS s t) (fitsL hH) (sfitsL (house_four hH) (slot_four hs ht)) hd hb
theorem reps_int1 (W : World) (base : Nat) (x : Int) : Reps (kI.M W base (fun _ => False)) kI.sz [x] [.int .i64 x] := by
  have := Reps.snoc (p := x) (c := [.int .i64 x]) (Reps.none (kI.M W base (fun _ => False)) kI.sz) rfl rfl
  simpa using this
theorem late_any {H : Hs} {d : Day} {s : S36} {r : List S36} {n t : Int} (h : s.f1 < (playT (pcL H) H d s t).start) : ∀ ts, Tms n (s :: r) ts → ¬ okT (pcL H) H d (withT (s :: r) ts)
  | [], T, _ => by have := T.1; simp at this
  | u :: us, T, k => k.1 h
theorem asg_yes {H : Hs} {d : Day} {s : S36} {r : List S36} {n t : Int} {us : List Int} (h : ¬ s.f1 < (playT (pcL H) H d s t).start) (ht : 0 ≤ t ∧ t < n) (k : Tms n r us ∧ okT (pcL H) H (playD (pcL H) H d s t) (withT r us)) : AsgOk H n d (s :: r) (some (t :: us)) := by
  refine ⟨fun ts e => ?_, fun e => nomatch e⟩
  cases e
  refine ⟨⟨by simp [k.1.1], fun x hx => ?_⟩, h, k.2⟩
  rcases List.mem_cons.mp hx with rfl | hx
  · exact ht
  · exact k.1.2 x hx
theorem asg_no {H : Hs} {d : Day} {s : S36} {r : List S36} {n : Int} (h : ∀ t : Int, 0 ≤ t → t < n → ∀ us, Tms n (s :: r) (t :: us) → ¬ okT (pcL H) H d (withT (s :: r) (t :: us))) : AsgOk H n d (s :: r) none := by
  refine ⟨(fun ts e => nomatch e), fun _ ts T k => ?_⟩
  rcases ts with _ | ⟨t, us⟩
  · have := T.1
    simp at this
  · have := T.2 t (List.mem_cons_self ..)
    exact h t this.1 this.2 us T k
set_option maxRecDepth 100000 in
set_option maxHeartbeats 8000000 in

theorem assign_nil (H : Hs) (d : Day) (n : Int) (A1 : Option Addr) (c1 : Nat) (w : World) :
    Calls Try.prog 57 #[.agg (dayCells (pcL H) H d), .slice A1 0 c1, .int .i64 n] w fun e w' => e = .returned (.tuple #[.slice none 0 0, .bool true]) ∧ Below w.heap.size w w' := by
  have hu3 := Try.underlying3
  have hu26 := Try.underlying26
  have hu99 := Try.underlying99
  refine E.enter (N := 54) Try.func57 rfl Try.ntmps57 (args := [.agg (dayCells (pcL H) H d), .slice A1 0 c1, .int .i64 n]) (by simp) ?_
  have L := Below.refl w.heap.size w
  refine E.CG.seq ?_
  refine E.CG.list ?_
  refine E.GL.st rfl rfl rfl (E.ST.box rfl rfl fun g3 w3 e3 b3 l3 => ?_)
  have h3_L : w.heap.size ≤ g3 := by rw [e3]; exact L.size
  replace L := below_step L l3
  refine E.GL.run rfl rfl rfl (E.Runs.assign rfl rfl) ?_
  refine E.GL.run rfl rfl rfl (E.Runs.assign rfl rfl) ?_
  refine E.GL.done ?_
  refine E.QG.code ?_
  refine E.CG.seq ?_
  refine E.CG.seq ?_
  refine E.CG.list ?_
  refine E.GL.run rfl rfl rfl (E.Runs.move rfl rfl) ?_
  refine E.GL.run rfl rfl rfl (E.Runs.len rfl rfl hu26) ?_
  refine E.GL.run rfl rfl rfl (E.Runs.eql rfl rfl rfl (decide_eq_true rfl)) ?_
  refine E.GL.done ?_
  refine E.QG.code ?_
  refine E.CG.cond_t rfl ?_
  refine E.CG.seq ?_
  refine E.CG.list ?_
  refine E.GL.run rfl rfl rfl (E.Runs.assign rfl rfl) ?_
  refine E.GL.run rfl rfl rfl (E.Runs.assign rfl rfl) ?_
  refine E.GL.done ?_
  refine E.QG.code ?_
  refine E.CG.ret ?_
  refine E.QG.pass_ret ?_
  exact E.QG.result2 rfl rfl rfl ⟨rfl, L⟩

set_option maxRecDepth 100000 in
set_option maxHeartbeats 8000000 in

theorem assign_step (H : Hs) (n b : Int) (d : Day) (s : S36) (r : List S36) (A1 : Option Addr) (c1 : Nat) (w : World) (hH : HouseOk H) (hn : 0 ≤ n ∧ n ≤ 4) (hs : SlotIn H s) (hd : DayOk b d) (hb : 10000 ≤ b ∧ b ≤ 900000)
    (ih : ∀ (d' : Day) (A : Option Addr) (c : Nat) (W : World), DayOk (b + 6000) d' → Kd.C k36 W A r.length r → r.length ≤ c → Calls Try.prog 57 #[.agg (dayCells (pcL H) H d'), .slice A r.length c, .int .i64 n] W fun e w' => ∃ v o, e = .returned (.tuple #[v, .bool (Option.isSome o)]) ∧ Kd.R kI 3 w' W.heap.size (fun _ => True) v (o.getD []) ∧ AsgOk H n d' r o ∧ Below W.heap.size W w')
    (hr : Kd.C k36 w A1 (s :: r).length (s :: r)) (hc : (s :: r).length ≤ c1) (hl : r.length ≤ 1000) :
    Calls Try.prog 57 #[.agg (dayCells (pcL H) H d), .slice A1 (s :: r).length c1, .int .i64 n] w fun e w' => ∃ v o, e = .returned (.tuple #[v, .bool (Option.isSome o)]) ∧ Kd.R kI 3 w' w.heap.size (fun _ => True) v (o.getD []) ∧ AsgOk H n d (s :: r) o ∧ Below w.heap.size w w' := by
  have hu3 := Try.underlying3
  have hu26 := Try.underlying26
  have hu36 := Try.underlying36
  have hu47 := Try.underlying47
  have hu83 := Try.underlying83
  have hu97 := Try.underlying97
  have hu99 := Try.underlying99
  obtain ⟨z3, o3⟩ := info_some info3s (by decide)
  obtain ⟨z36, o36⟩ := info_some info36s (by decide)
  obtain ⟨z83, o83⟩ := info_some info83s (by decide)
  obtain ⟨z97, o97⟩ := info_some info97s (by decide)
  obtain ⟨ad, eA, S⟩ := slot_at (i := 0) (s := s) hr rfl
  have hlen : (s :: r).length = r.length + 1 := rfl
  refine E.enter (N := 54) Try.func57 rfl Try.ntmps57 (args := [.agg (dayCells (pcL H) H d), .slice A1 (s :: r).length c1, .int .i64 n]) (by simp) ?_
  have L := Below.refl w.heap.size w
  refine E.CG.seq ?_
  refine E.CG.list ?_
  refine E.GL.st rfl rfl rfl (E.ST.box rfl rfl fun g3 w3 e3 b3 l3 => ?_)
  have h3_L : w.heap.size ≤ g3 := by rw [e3]; exact L.size
  replace L := below_step L l3
  refine E.GL.run rfl rfl rfl (E.Runs.assign rfl rfl) ?_
  refine E.GL.run rfl rfl rfl (E.Runs.assign rfl rfl) ?_
  refine E.GL.done ?_
  refine E.QG.code ?_
  refine E.CG.seq ?_
  refine E.CG.seq ?_
  refine E.CG.list ?_
  refine E.GL.run rfl rfl rfl (E.Runs.move rfl rfl) ?_
  refine E.GL.run rfl rfl rfl (E.Runs.len rfl rfl hu26) ?_
  refine E.GL.run rfl rfl rfl (E.Runs.eql rfl rfl rfl (decide_eq_false (by simp only [List.length_cons]; omega))) ?_
  refine E.GL.done ?_
  refine E.QG.code ?_
  refine E.CG.cond_f rfl ?_
  refine E.CG.skip ?_
  refine E.QG.code ?_
  refine E.CG.seq ?_
  refine E.CG.list ?_
  refine E.GL.run rfl rfl rfl (E.Runs.assign rfl rfl) ?_
  refine E.GL.done ?_
  refine E.QG.code ?_
  refine E.CG.seq ?_
  refine E.CG.seq ?_
  refine E.CG.list ?_
  refine E.GL.run rfl rfl rfl (E.Runs.move rfl rfl) ?_
  refine E.GL.run rfl rfl rfl (E.Runs.move rfl rfl) ?_
  refine E.GL.done ?_
  refine E.QG.code ?_
  refine E.CG.block ?_
  have s5_b3 := b3
  have s5_L := L
  refine E.CG.loop2 (fun (i : Nat) (f : Bool) => [(1, .slice A1 (s :: r).length c1), (2, .int .i64 n), (3, .pointer (some ⟨g3, 0, none⟩)), (8, .bool f), (17, .int .i64 n), (18, .int .i64 i)]) (fun i f w' => (i : Int) ≤ n ∧ w'.heap[g3]? = some (.cells (dayCells (pcL H) H d) 99 (0, 0)) ∧ Below w.heap.size w w' ∧ (f = true → ∃ j : Int, 0 ≤ j ∧ j < (i : Int) ∧ rd d.done j = -1) ∧ ∀ j : Int, 0 ≤ j → j < (i : Int) → (fun j : Int => ∀ us, Tms n (s :: r) (j :: us) → ¬ okT (pcL H) H d (withT (s :: r) (j :: us))) j) (fun i f => n.toNat - i) 0 false (E.subc rfl (E.subc rfl (E.subc rfl (E.subc rfl (E.subc rfl (E.subc rfl (E.subn))))))) ⟨by omega, b3, L, (fun h => Bool.noConfusion h), fun j h1 h2 => by omega⟩ ?_
  rintro i f w5 ⟨hi, b3, L, hf, hno⟩
  refine E.CG.seq ?_
  refine E.CG.list ?_
  refine E.GL.cmp rfl rfl rfl (fun _ h => (E.Runs.lss rfl rfl rfl h)) (fun h19 => ?_) (fun h19 => ?_)
  · have hi4 : i < 4 := by omega
    have hd2 := day_next hH hs hd hb.1 (t := (i : Int)) ⟨by omega, by omega⟩
    refine E.GL.done ?_
    refine E.QG.code ?_
    refine E.CG.seq ?_
    refine E.CG.cond_t rfl ?_
    refine E.CG.skip ?_
    refine E.QG.code ?_
    refine E.CG.seq ?_
    refine E.CG.block ?_
    refine E.CG.seq ?_
    refine E.CG.list ?_
    refine E.GL.run rfl rfl rfl (E.Runs.move rfl rfl) ?_
    refine E.GL.run rfl rfl rfl (E.Runs.assign rfl rfl) ?_
    refine E.GL.done ?_
    refine E.QG.code ?_
    refine E.CG.seq ?_
    refine E.CG.seq ?_
    refine E.CG.list ?_
    refine E.GL.run rfl rfl rfl (E.Runs.move rfl rfl) ?_
    refine E.GL.run rfl rfl rfl (E.Runs.fieldAddr rfl rfl hu99 rfl (by assumption) rfl) ?_
    refine E.GL.run rfl rfl rfl (E.Runs.indexArr rfl rfl rfl hu97 z3 o3 (by omega) (by omega) (show (⟨g3, 17, none⟩ : Addr).add ((i : Int).toNat * 1) = (⟨g3, 17 + (i : Int).toNat, none⟩ : Addr) from by rw [Go.Addr.add_mid, Nat.mul_one])) ?_
    refine E.GL.run rfl rfl rfl (E.Runs.load rfl rfl hu3 (day_done b3 hd.hl (i : Int) (by omega) (by rw [hd.hm]; omega))) ?_
    refine E.GL.cmp rfl rfl rfl (fun _ h => (E.Runs.eql rfl rfl rfl h)) (fun h25 => ?_) (fun h25 => ?_)
    · refine E.GL.done ?_
      refine E.QG.code ?_
      refine E.CG.cond_t rfl ?_
      refine E.CG.seq ?_
      refine E.CG.seq ?_
      refine E.CG.list ?_
      rcases f with _ | _
      · have hf2 : true = true → ∃ j : Int, 0 ≤ j ∧ j < ((i + 1 : Nat) : Int) ∧ rd d.done j = -1 := fun _ => ⟨(i : Int), by omega, by omega, h25⟩
        refine E.GL.run rfl rfl rfl (E.Runs.move rfl rfl) ?_
        refine E.GL.done ?_
        refine E.QG.code ?_
        refine E.CG.cond_f rfl ?_
        refine E.CG.skip ?_
        refine E.QG.code ?_
        refine E.CG.list ?_
        refine E.GL.run rfl rfl rfl (E.Runs.assign rfl rfl) ?_
        refine E.GL.done ?_
        refine E.QG.code ?_
        refine E.CG.seq ?_
        refine E.CG.list ?_
        refine E.GL.run rfl rfl rfl (runs_day rfl rfl b3 hd.hl hd.hm) ?_
        refine E.GL.st rfl rfl rfl (E.ST.alloc rfl info99z fun g10 w10 e10 b10 l10 => ?_)
        have h10_L : w.heap.size ≤ g10 := by rw [e10]; exact L.size
        have n10_b3 : g3 ≠ g10 := by have := blk_lt b3; omega
        replace b3 := blk_below b3 l10
        replace L := below_step L l10
        refine E.GL.store_whole rfl rfl rfl rfl rfl b10 (dayCells_size hd.hl hd.hm).symm (by rw [dayCells_size hd.hl hd.hm]; exact info99) dayCells_one fun wS cS lS => ?_
        replace b3 := blk_grown b3 lS (E.nes (by first | assumption | exact Ne.symm (by assumption)))
        replace L := E.below_own L h10_L lS
        replace b10 := cS
        clear cS
        refine E.GL.done ?_
        refine E.QG.code ?_
        refine E.CG.seq ?_
        refine E.CG.seq ?_
        refine E.CG.list ?_
        refine E.GL.run rfl rfl rfl (E.Runs.move rfl rfl) ?_
        refine E.GL.run rfl rfl rfl (E.Runs.indexAddrA (i := 0) rfl rfl rfl hu26 z36 o36 (by simp) eA rfl) ?_
        refine E.GL.run rfl rfl rfl (E.Runs.loads (cs := [.int .i64 s.f0, .int .i64 s.f1, .int .i64 s.f2.f0, .int .i64 s.f2.f1, .int .i64 s.f3, .int .i64 s.f4]) rfl rfl hu36 rfl info36s ((S.below L).cells)) ?_
        refine E.GL.run rfl rfl rfl (E.Runs.move rfl rfl) ?_
        refine E.GL.st rfl rfl rfl (E.ST.call rfl ent60 (E.evc rfl (E.evc rfl (E.evc rfl E.evn))) ((play_L hH hs hd (by omega) (t := (i : Int)) ⟨by omega, by omega⟩ b10).mono ?_))
        rintro e w32 ⟨rfl, c10, l32⟩
        refine ⟨_, rfl, ?_⟩
        replace b3 := blk_grown b3 l32 (E.nes (by first | assumption | exact Ne.symm (by assumption)))
        replace L := E.below_own L h10_L l32
        replace b10 := c10
        clear c10
        refine E.GL.st rfl rfl rfl (E.ST.alloc rfl info83z fun g11 w11 e11 b11 l11 => ?_)
        have h11_L : w.heap.size ≤ g11 := by rw [e11]; exact L.size
        have n11_b3 : g3 ≠ g11 := by have := blk_lt b3; omega
        have n11_b10 : g10 ≠ g11 := by have := blk_lt b10; omega
        replace b3 := blk_below b3 l11
        replace b10 := blk_below b10 l11
        replace L := below_step L l11
        refine E.GL.store_whole rfl rfl rfl rfl rfl b11 rfl info83s (five_one _ _ _ _ _) fun wS11_6 c11 lS11_6 => ?_
        replace b3 := blk_grown b3 lS11_6 (E.nes (by first | assumption | exact Ne.symm (by assumption)))
        replace b10 := blk_grown b10 lS11_6 (E.nes (by first | assumption | exact Ne.symm (by assumption)))
        replace L := E.below_own L h11_L lS11_6
        replace b11 := c11
        clear c11
        refine E.GL.done ?_
        refine E.QG.code ?_
        refine E.CG.seq ?_
        refine E.CG.quietF (by kernel_rfl) rfl (by kernel_rfl) (by kernel_rfl) ?_
        refine E.GQ.run rfl rfl rfl (E.Runs.fieldAddr rfl rfl hu83 rfl (by assumption) rfl) ?_
        refine E.GQ.run rfl rfl rfl (E.Runs.load rfl rfl hu3 (by first | assumption | exact E.blkc (by assumption) rfl | exact pw_cell_below L (by assumption) | exact pw_cell_below L S.c0 | exact pw_cell_below L S.c1 | exact pw_cell_below L S.c2 | exact pw_cell_below L S.c3 | exact pw_cell_below L S.c4 | exact pw_cell_below L S.c5)) ?_
        refine E.GQ.run rfl rfl rfl (E.Runs.move rfl rfl) ?_
        refine E.GQ.run rfl rfl rfl (E.Runs.indexAddrA (i := 0) rfl rfl rfl hu26 z36 o36 (by simp) eA rfl) ?_
        refine E.GQ.run rfl rfl rfl (E.Runs.fieldAddr rfl rfl hu36 rfl (by assumption) rfl) ?_
        refine E.GQ.run rfl rfl rfl (E.Runs.load rfl rfl hu3 (by first | assumption | exact E.blkc (by assumption) rfl | exact pw_cell_below L (by assumption) | exact pw_cell_below L S.c0 | exact pw_cell_below L S.c1 | exact pw_cell_below L S.c2 | exact pw_cell_below L S.c3 | exact pw_cell_below L S.c4 | exact pw_cell_below L S.c5)) ?_
        refine E.GQ.cmp rfl rfl rfl (fun _ h => (E.Runs.gtr rfl rfl rfl h)) (fun h39 => ?_) (fun h39 => ?_)
        · have hany := late_any (n := n) (r := r) h39
          refine E.GQ.doneB fun v12 lD => ?_
          replace b3 := blk_below b3 lD
          replace b10 := blk_below b10 lD
          replace b11 := blk_below b11 lD
          replace L := below_step L lD
          clear lD
          refine E.QG.code ?_
          refine E.CG.cond_t rfl ?_
          refine E.CG.seq ?_
          refine E.CG.list ?_
          refine E.GL.run rfl rfl rfl (E.Runs.assign rfl rfl) ?_
          refine E.GL.run rfl rfl rfl (E.Runs.assign rfl rfl) ?_
          refine E.GL.done ?_
          refine E.QG.code ?_
          refine E.CG.ret ?_
          refine E.QG.pass_ret ?_
          refine E.QG.block_ret ?_
          refine E.QG.pass_ret ?_
          refine E.QG.pass_ret ?_
          refine E.QG.block_ret ?_
          refine E.QG.pass_ret ?_
          exact E.QG.result2 rfl rfl rfl ⟨_, none, rfl, Kd.R_nil _ _ _ _ _, ⟨(fun _ e => nomatch e), fun _ => hany⟩, L⟩
        · refine E.GQ.doneB fun v12 lD => ?_
          replace b3 := blk_below b3 lD
          replace b10 := blk_below b10 lD
          replace b11 := blk_below b11 lD
          replace L := below_step L lD
          clear lD
          refine E.QG.code ?_
          refine E.CG.cond_f rfl ?_
          refine E.CG.skip ?_
          refine E.QG.code ?_
          refine E.CG.seq ?_
          refine E.CG.heldH (none) (by kernel_rfl) fun v14 lD hh => ?_
          replace b3 := blk_below b3 lD
          replace b10 := blk_below b10 lD
          replace b11 := blk_below b11 lD
          replace L := below_step L lD
          clear lD
          have s_b3 := b3
          have s_b10 := b10
          have s_b11 := b11
          have s_L := L
          refine E.GH.take (i := 0) rfl (by kernel_rfl) (by kernel_rfl) (by kernel_rfl) (by intro c a d v w h; cases d <;> exact h) rfl rfl rfl (fun w' hS => (runs_day rfl rfl (blk_grown s_b10 hS E.nen) hd2.hl hd2.hm)) ?_
          refine E.GH.take (i := 1) rfl (by kernel_rfl) (by kernel_rfl) (by kernel_rfl) (by intro c a d v w h; cases d <;> exact h) rfl rfl rfl (fun w' hS => (E.Runs.move rfl rfl)) ?_
          refine E.GH.take (i := 2) rfl (by kernel_rfl) (by kernel_rfl) (by kernel_rfl) (by intro c a d v w h; cases d <;> exact h) rfl rfl rfl (fun w' hS => (E.Runs.sliceFrom (n := r.length + 1) (i := 1) rfl rfl rfl hu26 z36 o36 (by omega) hc rfl)) ?_
          refine E.GH.take (i := 3) rfl (by kernel_rfl) (by kernel_rfl) (by kernel_rfl) (by intro c a d v w h; cases d <;> exact h) rfl rfl rfl (fun w' hS => (E.Runs.move rfl rfl)) ?_
          refine E.GH.one (i := 4) (by kernel_rfl) rfl ?_
          refine E.GO.st rfl rfl rfl (E.ST.call rfl ent57 (E.evc rfl (E.evc rfl (E.evc rfl E.evn))) ((ih (playD (pcL H) H d s (i : Int)) _ _ _ hd2 (Kd.C_tail (c := c1) (Kd.C_below hr L) hc) (by omega)).mono ?_))
          rintro e w45 ⟨v45, o45, rfl, R45, ho1, l45⟩
          refine ⟨_, rfl, hh.trans (E.gbB l45), ?_⟩
          replace hh := hh.trans (E.gbB l45)
          replace b3 := blk_below b3 l45
          replace b10 := blk_below b10 l45
          replace b11 := blk_below b11 l45
          replace L := below_step L l45
          refine E.GH.take (i := 5) rfl (by kernel_rfl) (by kernel_rfl) (by kernel_rfl) (by intro c a d v w h; cases d <;> exact h) rfl rfl rfl (fun w' hS => (E.Runs.move rfl rfl)) ?_
          refine E.GH.take (i := 6) rfl (by kernel_rfl) (by kernel_rfl) (by kernel_rfl) (by intro c a d v w h; cases d <;> exact h) rfl rfl rfl (fun w' hS => (E.Runs.extract rfl rfl rfl)) ?_
          refine E.GH.take (i := 7) rfl (by kernel_rfl) (by kernel_rfl) (by kernel_rfl) (by intro c a d v w h; cases d <;> exact h) rfl rfl rfl (fun w' hS => (E.Runs.extract rfl rfl rfl)) ?_
          refine E.GH.take (i := 8) rfl (by kernel_rfl) (by kernel_rfl) (by kernel_rfl) (by intro c a d v w h; cases d <;> exact h) rfl rfl rfl (fun w' hS => (E.Runs.assign rfl rfl)) ?_
          refine E.GH.take (i := 9) rfl (by kernel_rfl) (by kernel_rfl) (by kernel_rfl) (by intro c a d v w h; cases d <;> exact h) rfl rfl rfl (fun w' hS => (E.Runs.assign rfl rfl)) ?_
          refine E.GH.done (by kernel_rfl) ?_
          refine E.QG.code ?_
          refine E.CG.seq ?_
          refine E.CG.list ?_
          rcases o45 with _ | us
          · have hnew : (fun j : Int => ∀ us, Tms n (s :: r) (j :: us) → ¬ okT (pcL H) H d (withT (s :: r) (j :: us))) (i : Int) := fun us T k => ho1.2 rfl us ⟨by have := T.1; simpa using this, fun x hx => T.2 x (List.mem_cons_of_mem _ hx)⟩ k.2
            refine E.GL.run rfl rfl rfl (E.Runs.move rfl rfl) ?_
            refine E.GL.done ?_
            refine E.QG.code ?_
            refine E.CG.cond_f rfl ?_
            refine E.CG.skip ?_
            refine E.QG.block_normal ?_
            refine E.QG.code ?_
            refine E.CG.list ?_
            refine E.GL.run rfl rfl rfl (E.Runs.add rfl rfl rfl (IntWalk.i64_in _ (by omega))) ?_
            refine E.GL.run rfl rfl rfl (E.Runs.move rfl rfl) ?_
            refine E.GL.done ?_
            exact E.QG.round2 (d := true) (i + 1) true (E.subc rfl (E.subc rfl (E.subc rfl (E.subc rfl (E.subc rfl (E.subc rfl E.subn)))))) ⟨by omega, b3, L, hf2, all_step (P := (fun j : Int => ∀ us, Tms n (s :: r) (j :: us) → ¬ okT (pcL H) H d (withT (s :: r) (j :: us)))) hnew hno⟩ (by omega)
          · refine E.GL.run rfl rfl rfl (E.Runs.move rfl rfl) ?_
            refine E.GL.done ?_
            refine E.QG.code ?_
            refine E.CG.cond_t rfl ?_
            refine E.CG.seq ?_
            refine E.CG.list ?_
            refine E.GL.run rfl rfl rfl (E.Runs.move rfl rfl) ?_
            refine E.GL.st rfl rfl rfl (E.ST.litR kI w.heap.size (w0 := w) (ys := [(i : Int)]) (inner := [.int .i64 (i : Int)]) rfl rfl (E.epc rfl E.epn) (lit47 (i : Int)) (reps_int1 _ _ _) L L.size (by simp) fun v50 w50 r50 k50 g50 => ?_)
            replace L := k50
            replace R45 := Kd.R_grown R45 g50 (fun _ _ e => nomatch e)
            obtain ⟨A45, c45, h45⟩ := Kd.R_slice R45
            subst h45
            obtain ⟨_, _, C45⟩ := Kd.R_reads' R45
            refine E.GL.run rfl rfl rfl (E.Runs.move rfl rfl) ?_
            refine E.GL.st rfl rfl rfl (E.ST.appendRows kI w.heap.size (w0 := w) (s := .tmp 50) (x := .tmp 51) rfl hu47 info3 rfl (by decide) (by decide) rfl rfl r50 C45 int_made L L.size (by have := (ho1.1 _ rfl).1.1; simp only [List.length_singleton, Option.getD_some]; omega) fun v52 w52 r52 k52 g52 => ?_)
            replace L := k52
            refine E.GL.run rfl rfl rfl (E.Runs.assign rfl rfl) ?_
            refine E.GL.run rfl rfl rfl (E.Runs.assign rfl rfl) ?_
            refine E.GL.done ?_
            refine E.QG.code ?_
            refine E.CG.ret ?_
            refine E.QG.block_ret ?_
            refine E.QG.pass_ret ?_
            refine E.QG.pass_ret ?_
            refine E.QG.block_ret ?_
            refine E.QG.pass_ret ?_
            exact E.QG.result2 rfl rfl rfl ⟨_, some ((i : Int) :: us), rfl, r52, asg_yes h39 ⟨by omega, h19⟩ (ho1.1 _ rfl), L⟩
      · have hf2 : true = true → ∃ j : Int, 0 ≤ j ∧ j < ((i + 1 : Nat) : Int) ∧ rd d.done j = -1 := fun _ => by obtain ⟨j, j0, j1, j2⟩ := hf rfl; exact ⟨j, j0, by omega, j2⟩
        have hnew : (fun j : Int => ∀ us, Tms n (s :: r) (j :: us) → ¬ okT (pcL H) H d (withT (s :: r) (j :: us))) (i : Int) := fun us T k => by
          obtain ⟨j, j0, j1, j2⟩ := hf rfl
          obtain ⟨vs, T2, k2⟩ := okT_fresh (pcL_same H) hn.2 hd.hm ⟨by omega, h19⟩ ⟨j0, by omega⟩ h25 j2 T k
          exact hno j j0 (by omega) vs T2 k2
        refine E.GL.run rfl rfl rfl (E.Runs.move rfl rfl) ?_
        refine E.GL.done ?_
        refine E.QG.code ?_
        refine E.CG.cond_t rfl ?_
        refine E.CG.exit ?_
        refine E.QG.pass_exit ?_
        refine E.QG.pass_exit ?_
        refine E.QG.block_here ?_
        refine E.QG.code ?_
        refine E.CG.list ?_
        refine E.GL.run rfl rfl rfl (E.Runs.add rfl rfl rfl (IntWalk.i64_in _ (by omega))) ?_
        refine E.GL.run rfl rfl rfl (E.Runs.move rfl rfl) ?_
        refine E.GL.done ?_
        exact E.QG.round2 (d := true) (i + 1) true (E.subc rfl (E.subc rfl (E.subc rfl (E.subc rfl (E.subc rfl (E.subc rfl E.subn)))))) ⟨by omega, b3, L, hf2, all_step (P := (fun j : Int => ∀ us, Tms n (s :: r) (j :: us) → ¬ okT (pcL H) H d (withT (s :: r) (j :: us)))) hnew hno⟩ (by omega)
    · have hf2 : f = true → ∃ j : Int, 0 ≤ j ∧ j < ((i + 1 : Nat) : Int) ∧ rd d.done j = -1 := fun h => by obtain ⟨j, j0, j1, j2⟩ := hf h; exact ⟨j, j0, by omega, j2⟩
      refine E.GL.done ?_
      refine E.QG.code ?_
      refine E.CG.cond_f rfl ?_
      refine E.CG.skip ?_
      refine E.QG.code ?_
      refine E.CG.seq ?_
      refine E.CG.list ?_
      refine E.GL.run rfl rfl rfl (runs_day rfl rfl b3 hd.hl hd.hm) ?_
      refine E.GL.st rfl rfl rfl (E.ST.alloc rfl info99z fun g10 w10 e10 b10 l10 => ?_)
      have h10_L : w.heap.size ≤ g10 := by rw [e10]; exact L.size
      have n10_b3 : g3 ≠ g10 := by have := blk_lt b3; omega
      replace b3 := blk_below b3 l10
      replace L := below_step L l10
      refine E.GL.store_whole rfl rfl rfl rfl rfl b10 (dayCells_size hd.hl hd.hm).symm (by rw [dayCells_size hd.hl hd.hm]; exact info99) dayCells_one fun wS cS lS => ?_
      replace b3 := blk_grown b3 lS (E.nes (by first | assumption | exact Ne.symm (by assumption)))
      replace L := E.below_own L h10_L lS
      replace b10 := cS
      clear cS
      refine E.GL.done ?_
      refine E.QG.code ?_
      refine E.CG.seq ?_
      refine E.CG.seq ?_
      refine E.CG.list ?_
      refine E.GL.run rfl rfl rfl (E.Runs.move rfl rfl) ?_
      refine E.GL.run rfl rfl rfl (E.Runs.indexAddrA (i := 0) rfl rfl rfl hu26 z36 o36 (by simp) eA rfl) ?_
      refine E.GL.run rfl rfl rfl (E.Runs.loads (cs := [.int .i64 s.f0, .int .i64 s.f1, .int .i64 s.f2.f0, .int .i64 s.f2.f1, .int .i64 s.f3, .int .i64 s.f4]) rfl rfl hu36 rfl info36s ((S.below L).cells)) ?_
      refine E.GL.run rfl rfl rfl (E.Runs.move rfl rfl) ?_
      refine E.GL.st rfl rfl rfl (E.ST.call rfl ent60 (E.evc rfl (E.evc rfl (E.evc rfl E.evn))) ((play_L hH hs hd (by omega) (t := (i : Int)) ⟨by omega, by omega⟩ b10).mono ?_))
      rintro e w32 ⟨rfl, c10, l32⟩
      refine ⟨_, rfl, ?_⟩
      replace b3 := blk_grown b3 l32 (E.nes (by first | assumption | exact Ne.symm (by assumption)))
      replace L := E.below_own L h10_L l32
      replace b10 := c10
      clear c10
      refine E.GL.st rfl rfl rfl (E.ST.alloc rfl info83z fun g11 w11 e11 b11 l11 => ?_)
      have h11_L : w.heap.size ≤ g11 := by rw [e11]; exact L.size
      have n11_b3 : g3 ≠ g11 := by have := blk_lt b3; omega
      have n11_b10 : g10 ≠ g11 := by have := blk_lt b10; omega
      replace b3 := blk_below b3 l11
      replace b10 := blk_below b10 l11
      replace L := below_step L l11
      refine E.GL.store_whole rfl rfl rfl rfl rfl b11 rfl info83s (five_one _ _ _ _ _) fun wS11_6 c11 lS11_6 => ?_
      replace b3 := blk_grown b3 lS11_6 (E.nes (by first | assumption | exact Ne.symm (by assumption)))
      replace b10 := blk_grown b10 lS11_6 (E.nes (by first | assumption | exact Ne.symm (by assumption)))
      replace L := E.below_own L h11_L lS11_6
      replace b11 := c11
      clear c11
      refine E.GL.done ?_
      refine E.QG.code ?_
      refine E.CG.seq ?_
      refine E.CG.quietF (by kernel_rfl) rfl (by kernel_rfl) (by kernel_rfl) ?_
      refine E.GQ.run rfl rfl rfl (E.Runs.fieldAddr rfl rfl hu83 rfl (by assumption) rfl) ?_
      refine E.GQ.run rfl rfl rfl (E.Runs.load rfl rfl hu3 (by first | assumption | exact E.blkc (by assumption) rfl | exact pw_cell_below L (by assumption) | exact pw_cell_below L S.c0 | exact pw_cell_below L S.c1 | exact pw_cell_below L S.c2 | exact pw_cell_below L S.c3 | exact pw_cell_below L S.c4 | exact pw_cell_below L S.c5)) ?_
      refine E.GQ.run rfl rfl rfl (E.Runs.move rfl rfl) ?_
      refine E.GQ.run rfl rfl rfl (E.Runs.indexAddrA (i := 0) rfl rfl rfl hu26 z36 o36 (by simp) eA rfl) ?_
      refine E.GQ.run rfl rfl rfl (E.Runs.fieldAddr rfl rfl hu36 rfl (by assumption) rfl) ?_
      refine E.GQ.run rfl rfl rfl (E.Runs.load rfl rfl hu3 (by first | assumption | exact E.blkc (by assumption) rfl | exact pw_cell_below L (by assumption) | exact pw_cell_below L S.c0 | exact pw_cell_below L S.c1 | exact pw_cell_below L S.c2 | exact pw_cell_below L S.c3 | exact pw_cell_below L S.c4 | exact pw_cell_below L S.c5)) ?_
      refine E.GQ.cmp rfl rfl rfl (fun _ h => (E.Runs.gtr rfl rfl rfl h)) (fun h39 => ?_) (fun h39 => ?_)
      · have hany := late_any (n := n) (r := r) h39
        refine E.GQ.doneB fun v12 lD => ?_
        replace b3 := blk_below b3 lD
        replace b10 := blk_below b10 lD
        replace b11 := blk_below b11 lD
        replace L := below_step L lD
        clear lD
        refine E.QG.code ?_
        refine E.CG.cond_t rfl ?_
        refine E.CG.seq ?_
        refine E.CG.list ?_
        refine E.GL.run rfl rfl rfl (E.Runs.assign rfl rfl) ?_
        refine E.GL.run rfl rfl rfl (E.Runs.assign rfl rfl) ?_
        refine E.GL.done ?_
        refine E.QG.code ?_
        refine E.CG.ret ?_
        refine E.QG.pass_ret ?_
        refine E.QG.block_ret ?_
        refine E.QG.pass_ret ?_
        refine E.QG.pass_ret ?_
        refine E.QG.block_ret ?_
        refine E.QG.pass_ret ?_
        exact E.QG.result2 rfl rfl rfl ⟨_, none, rfl, Kd.R_nil _ _ _ _ _, ⟨(fun _ e => nomatch e), fun _ => hany⟩, L⟩
      · refine E.GQ.doneB fun v12 lD => ?_
        replace b3 := blk_below b3 lD
        replace b10 := blk_below b10 lD
        replace b11 := blk_below b11 lD
        replace L := below_step L lD
        clear lD
        refine E.QG.code ?_
        refine E.CG.cond_f rfl ?_
        refine E.CG.skip ?_
        refine E.QG.code ?_
        refine E.CG.seq ?_
        refine E.CG.heldH (none) (by kernel_rfl) fun v14 lD hh => ?_
        replace b3 := blk_below b3 lD
        replace b10 := blk_below b10 lD
        replace b11 := blk_below b11 lD
        replace L := below_step L lD
        clear lD
        have s_b3 := b3
        have s_b10 := b10
        have s_b11 := b11
        have s_L := L
        refine E.GH.take (i := 0) rfl (by kernel_rfl) (by kernel_rfl) (by kernel_rfl) (by intro c a d v w h; cases d <;> exact h) rfl rfl rfl (fun w' hS => (runs_day rfl rfl (blk_grown s_b10 hS E.nen) hd2.hl hd2.hm)) ?_
        refine E.GH.take (i := 1) rfl (by kernel_rfl) (by kernel_rfl) (by kernel_rfl) (by intro c a d v w h; cases d <;> exact h) rfl rfl rfl (fun w' hS => (E.Runs.move rfl rfl)) ?_
        refine E.GH.take (i := 2) rfl (by kernel_rfl) (by kernel_rfl) (by kernel_rfl) (by intro c a d v w h; cases d <;> exact h) rfl rfl rfl (fun w' hS => (E.Runs.sliceFrom (n := r.length + 1) (i := 1) rfl rfl rfl hu26 z36 o36 (by omega) hc rfl)) ?_
        refine E.GH.take (i := 3) rfl (by kernel_rfl) (by kernel_rfl) (by kernel_rfl) (by intro c a d v w h; cases d <;> exact h) rfl rfl rfl (fun w' hS => (E.Runs.move rfl rfl)) ?_
        refine E.GH.one (i := 4) (by kernel_rfl) rfl ?_
        refine E.GO.st rfl rfl rfl (E.ST.call rfl ent57 (E.evc rfl (E.evc rfl (E.evc rfl E.evn))) ((ih (playD (pcL H) H d s (i : Int)) _ _ _ hd2 (Kd.C_tail (c := c1) (Kd.C_below hr L) hc) (by omega)).mono ?_))
        rintro e w45 ⟨v45, o45, rfl, R45, ho1, l45⟩
        refine ⟨_, rfl, hh.trans (E.gbB l45), ?_⟩
        replace hh := hh.trans (E.gbB l45)
        replace b3 := blk_below b3 l45
        replace b10 := blk_below b10 l45
        replace b11 := blk_below b11 l45
        replace L := below_step L l45
        refine E.GH.take (i := 5) rfl (by kernel_rfl) (by kernel_rfl) (by kernel_rfl) (by intro c a d v w h; cases d <;> exact h) rfl rfl rfl (fun w' hS => (E.Runs.move rfl rfl)) ?_
        refine E.GH.take (i := 6) rfl (by kernel_rfl) (by kernel_rfl) (by kernel_rfl) (by intro c a d v w h; cases d <;> exact h) rfl rfl rfl (fun w' hS => (E.Runs.extract rfl rfl rfl)) ?_
        refine E.GH.take (i := 7) rfl (by kernel_rfl) (by kernel_rfl) (by kernel_rfl) (by intro c a d v w h; cases d <;> exact h) rfl rfl rfl (fun w' hS => (E.Runs.extract rfl rfl rfl)) ?_
        refine E.GH.take (i := 8) rfl (by kernel_rfl) (by kernel_rfl) (by kernel_rfl) (by intro c a d v w h; cases d <;> exact h) rfl rfl rfl (fun w' hS => (E.Runs.assign rfl rfl)) ?_
        refine E.GH.take (i := 9) rfl (by kernel_rfl) (by kernel_rfl) (by kernel_rfl) (by intro c a d v w h; cases d <;> exact h) rfl rfl rfl (fun w' hS => (E.Runs.assign rfl rfl)) ?_
        refine E.GH.done (by kernel_rfl) ?_
        refine E.QG.code ?_
        refine E.CG.seq ?_
        refine E.CG.list ?_
        rcases o45 with _ | us
        · have hnew : (fun j : Int => ∀ us, Tms n (s :: r) (j :: us) → ¬ okT (pcL H) H d (withT (s :: r) (j :: us))) (i : Int) := fun us T k => ho1.2 rfl us ⟨by have := T.1; simpa using this, fun x hx => T.2 x (List.mem_cons_of_mem _ hx)⟩ k.2
          refine E.GL.run rfl rfl rfl (E.Runs.move rfl rfl) ?_
          refine E.GL.done ?_
          refine E.QG.code ?_
          refine E.CG.cond_f rfl ?_
          refine E.CG.skip ?_
          refine E.QG.block_normal ?_
          refine E.QG.code ?_
          refine E.CG.list ?_
          refine E.GL.run rfl rfl rfl (E.Runs.add rfl rfl rfl (IntWalk.i64_in _ (by omega))) ?_
          refine E.GL.run rfl rfl rfl (E.Runs.move rfl rfl) ?_
          refine E.GL.done ?_
          exact E.QG.round2 (d := true) (i + 1) f (E.subc rfl (E.subc rfl (E.subc rfl (E.subc rfl (E.subc rfl (E.subc rfl E.subn)))))) ⟨by omega, b3, L, hf2, all_step (P := (fun j : Int => ∀ us, Tms n (s :: r) (j :: us) → ¬ okT (pcL H) H d (withT (s :: r) (j :: us)))) hnew hno⟩ (by omega)
        · refine E.GL.run rfl rfl rfl (E.Runs.move rfl rfl) ?_
          refine E.GL.done ?_
          refine E.QG.code ?_
          refine E.CG.cond_t rfl ?_
          refine E.CG.seq ?_
          refine E.CG.list ?_
          refine E.GL.run rfl rfl rfl (E.Runs.move rfl rfl) ?_
          refine E.GL.st rfl rfl rfl (E.ST.litR kI w.heap.size (w0 := w) (ys := [(i : Int)]) (inner := [.int .i64 (i : Int)]) rfl rfl (E.epc rfl E.epn) (lit47 (i : Int)) (reps_int1 _ _ _) L L.size (by simp) fun v50 w50 r50 k50 g50 => ?_)
          replace L := k50
          replace R45 := Kd.R_grown R45 g50 (fun _ _ e => nomatch e)
          obtain ⟨A45, c45, h45⟩ := Kd.R_slice R45
          subst h45
          obtain ⟨_, _, C45⟩ := Kd.R_reads' R45
          refine E.GL.run rfl rfl rfl (E.Runs.move rfl rfl) ?_
          refine E.GL.st rfl rfl rfl (E.ST.appendRows kI w.heap.size (w0 := w) (s := .tmp 50) (x := .tmp 51) rfl hu47 info3 rfl (by decide) (by decide) rfl rfl r50 C45 int_made L L.size (by have := (ho1.1 _ rfl).1.1; simp only [List.length_singleton, Option.getD_some]; omega) fun v52 w52 r52 k52 g52 => ?_)
          replace L := k52
          refine E.GL.run rfl rfl rfl (E.Runs.assign rfl rfl) ?_
          refine E.GL.run rfl rfl rfl (E.Runs.assign rfl rfl) ?_
          refine E.GL.done ?_
          refine E.QG.code ?_
          refine E.CG.ret ?_
          refine E.QG.block_ret ?_
          refine E.QG.pass_ret ?_
          refine E.QG.pass_ret ?_
          refine E.QG.block_ret ?_
          refine E.QG.pass_ret ?_
          exact E.QG.result2 rfl rfl rfl ⟨_, some ((i : Int) :: us), rfl, r52, asg_yes h39 ⟨by omega, h19⟩ (ho1.1 _ rfl), L⟩
  · refine E.GL.done ?_
    refine E.QG.code ?_
    refine E.CG.seq ?_
    refine E.CG.cond_f rfl ?_
    refine E.CG.exit ?_
    refine E.QG.pass_exit ?_
    refine E.QG.pass_exit ?_
    refine E.QG.block_here ?_
    refine E.QG.code ?_
    refine E.CG.seq ?_
    refine E.CG.list ?_
    refine E.GL.run rfl rfl rfl (E.Runs.assign rfl rfl) ?_
    refine E.GL.run rfl rfl rfl (E.Runs.assign rfl rfl) ?_
    refine E.GL.done ?_
    refine E.QG.code ?_
    refine E.CG.ret ?_
    exact E.QG.result2 rfl rfl rfl ⟨_, none, rfl, Kd.R_nil _ _ _ _ _, asg_no (fun t h0 h1 => hno t h0 (by omega)), L⟩

theorem assign_calls (H : Hs) (n : Int) (hH : HouseOk H) (hn : 0 ≤ n ∧ n ≤ 4) : ∀ (l : List S36) (b : Int) (d : Day) (A1 : Option Addr) (c1 : Nat) (w : World), (∀ s ∈ l, SlotIn H s) → DayOk b d → 10000 ≤ b → b + 6000 * l.length ≤ 900000 → Kd.C k36 w A1 l.length l → l.length ≤ c1 →
    Calls Try.prog 57 #[.agg (dayCells (pcL H) H d), .slice A1 l.length c1, .int .i64 n] w fun e w' => ∃ v o, e = .returned (.tuple #[v, .bool (Option.isSome o)]) ∧ Kd.R kI 3 w' w.heap.size (fun _ => True) v (o.getD []) ∧ AsgOk H n d l o ∧ Below w.heap.size w w'
  | [], b, d, A1, c1, w, _, _, _, _, _, _ => by
    refine (assign_nil H d n A1 c1 w).mono ?_
    rintro e w' ⟨rfl, L⟩
    refine ⟨_, some [], rfl, Kd.R_nil _ _ _ _ _, ⟨fun ts e => ?_, fun e => nomatch e⟩, L⟩
    cases e
    exact ⟨⟨rfl, fun t h => by simp at h⟩, trivial⟩
  | s :: r, b, d, A1, c1, w, hs, hd, hb, hl, hr, hc => by
    simp only [List.length_cons, Int.natCast_add] at hl
    refine assign_step H n b d s r A1 c1 w hH hn (hs s (List.mem_cons_self ..)) hd ⟨hb, by omega⟩ (fun d' A c W hd' hr' hc' => ?_) hr hc (by omega)
    exact assign_calls H n hH hn r (b + 6000) d' A c W (fun x hx => hs x (List.mem_cons_of_mem _ hx)) hd' (by omega) (by omega) hr' hc'
end Go.Proofs.Ythdbkhdiaehblaa.T
