/- What is a lamp: the walks of Check, of both texts; the light. -/
import Derived.Test.YtbajpjnloikpdaaU1
namespace Go.Proofs.Ytbajpjnloikpdaa.T
open Go.RowKit Go.Proofs.YtbajpjnloikpdaaW.PrintWords Go.Proofs.YtbajpjnloikpdaaW.PrintMore
open Go.Proofs.Ytbajpjnloikpdaa.P
set_option linter.unusedVariables false
set_option linter.unusedSimpArgs false

theorem bool_no {b : Bool} {p : Prop} (h : b = true ↔ p) (k : ¬ p) : b = false := Bool.eq_false_iff.mpr (fun hb => k (h.mp hb))
set_option maxRecDepth 100000 in
theorem build23 (a b : Int) (W : World) : (Instr.build 23 #[(0, .int .i64 a), (1, .int .i64 b)]).run Try.prog W = .ok (.agg #[.int .i64 a, .int .i64 b]) W := by
  have hu3 := Try.underlying3
  have hu23 := Try.underlying23
  go_simp
/-- The cells of a reading in a row. -/
structure GaugeAt (w : World) (ae : Addr) (k : Nat) (g : S64) : Prop where
  c0 : w.cell? (ae.add (k * 3)) = some (.int .i64 g.f0)
  c1 : w.cell? ⟨(ae.add (k * 3)).block, (ae.add (k * 3)).off + 1, none⟩ = some (.int .i64 g.f1)
  c2 : w.cell? ⟨(ae.add (k * 3)).block, (ae.add (k * 3)).off + 2, none⟩ = some (.int .i64 g.f2)
theorem GaugeAt.below {w w' : World} {ae : Addr} {k : Nat} {g : S64} (h : GaugeAt w ae k g) (hb : Below w.heap.size w w') : GaugeAt w' ae k g := ⟨pw_cell_below hb h.c0, pw_cell_below hb h.c1, pw_cell_below hb h.c2⟩
theorem gauge_at {w : World} {A : Option Addr} {l : List S64} (h : Kd.C k64 w A l.length l) {i : Nat} {g : S64} (hi : l[i]? = some g) : ∃ ad, A = some ad ∧ GaugeAt w ad i g := by
  have hil : i < l.length := (List.getElem?_eq_some_iff.1 hi).1
  obtain ⟨ad, e, m0, m1, m2⟩ := at_T64 h (i : Int) (by omega) (by omega)
  have hs : rd_T64 l (i : Int) = g := by unfold rd_T64; simp [List.getD_eq_getElem?_getD, hi]
  rw [hs] at m0 m1 m2
  simp only [Int.toNat_natCast] at m0 m1 m2
  exact ⟨ad, e, m0, m1, m2⟩
theorem GaugeAt.cells {w : World} {ad : Addr} {k : Nat} {g : S64} (h : GaugeAt w ad k g) (j : Nat) (v : Value) (hv : ([.int .i64 g.f0, .int .i64 g.f1, .int .i64 g.f2] : List Value)[j]? = some v) : w.cell? ((ad.add (k * 3)).add j) = some v := by
  rcases j with _ | _ | _ | j
  · cases hv; exact h.c0
  · cases hv; exact h.c1
  · cases hv; exact h.c2
  · simp at hv
theorem cells2 {w : World} {g : Nat} {t : TypeId} {cs : List Value} {a b : Value} (h : w.heap[g]? = some (.cells cs.toArray t (0, 0))) (i : Nat) (h1 : cs[i]? = some a) (h2 : cs[i + 1]? = some b) (j : Nat) (v : Value) (hv : ([a, b] : List Value)[j]? = some v) : w.cell? ((⟨g, i, none⟩ : Addr).add j) = some v := by
  rw [Addr.add_mid, blk_cell h]
  rcases j with _ | _ | j
  · cases hv; simpa using h1
  · cases hv; simpa using h2
  · simp at hv
theorem checkE_no {L : Lm} (h : ¬ LampOk L) : checkE L = 90 := if_neg h
theorem checkE_yes {L : Lm} (h : LampOk L) : checkE L = 0 := if_pos h
theorem all_of {l : List S64} {n : Nat} (h : ∀ k, k < n → ∀ g, l[k]? = some g → GaugeOk g) (hn : l.length ≤ n) : ∀ g ∈ l, GaugeOk g := fun g hg => by
  obtain ⟨k, hk⟩ := List.mem_iff_getElem?.mp hg
  exact h k (by have := (List.getElem?_eq_some_iff.1 hk).1; omega) g hk
theorem one_more {l : List S64} {n : Nat} {g : S64} (h : ∀ k, k < n → ∀ g, l[k]? = some g → GaugeOk g) (hg : l[n]? = some g) (k : GaugeOk g) : ∀ k, k < n + 1 → ∀ g, l[k]? = some g → GaugeOk g := by
  intro j hj x hx
  by_cases e : j = n
  · subst e
    rw [hg] at hx
    cases hx
    exact k
  · exact h j (by omega) x hx
theorem bad_at {L : Lm} {n : Nat} {g : S64} (hg : L.gs[n]? = some g) (k : ¬ GaugeOk g) : ¬ LampOk L := fun h => k (h.2 g (List.mem_of_getElem? hg))
set_option maxRecDepth 100000 in
set_option maxHeartbeats 8000000 in

theorem within_o (n lo hi : Int) (b : Bool) (h : b = true ↔ inR n lo hi) (w : World) :
    Calls Try.prog 43 #[.int .i64 n, .int .i64 lo, .int .i64 hi] w fun e w' => e = .returned (.bool b) ∧ Below w.heap.size w w' := by
  unfold inR at h
  refine E.enter (N := 15) Try.func43 rfl Try.ntmps43 (args := [.int .i64 n, .int .i64 lo, .int .i64 hi]) (by simp) ?_
  have L := Below.refl w.heap.size w
  refine E.CG.seq ?_
  refine E.CG.list ?_
  refine E.GL.run rfl rfl rfl (E.Runs.assign rfl rfl) ?_
  refine E.GL.done ?_
  refine E.QG.code ?_
  refine E.CG.seq ?_
  refine E.CG.list ?_
  refine E.GL.run rfl rfl rfl (E.Runs.move rfl rfl) ?_
  refine E.GL.run rfl rfl rfl (E.Runs.move rfl rfl) ?_
  refine E.GL.cmp rfl rfl rfl (fun _ h => (E.Runs.leq rfl rfl rfl h)) (fun h9 => ?_) (fun h9 => ?_)
  · refine E.GL.run rfl rfl rfl (E.Runs.move rfl rfl) ?_
    refine E.GL.run rfl rfl rfl (E.Runs.move rfl rfl) ?_
    refine E.GL.run rfl rfl rfl (E.Runs.move rfl rfl) ?_
    refine E.GL.cmp rfl rfl rfl (fun _ h => (E.Runs.leq rfl rfl rfl h)) (fun h13 => ?_) (fun h13 => ?_)
    · refine E.GL.run rfl rfl rfl (E.Runs.pick_t rfl rfl rfl) ?_
      refine E.GL.run rfl rfl rfl (E.Runs.assign rfl rfl) ?_
      refine E.GL.done ?_
      refine E.QG.code ?_
      refine E.CG.ret ?_
      exact E.QG.result rfl rfl ⟨by rw [h.mpr ⟨by omega, by omega⟩], L⟩
    · refine E.GL.run rfl rfl rfl (E.Runs.pick_t rfl rfl rfl) ?_
      refine E.GL.run rfl rfl rfl (E.Runs.assign rfl rfl) ?_
      refine E.GL.done ?_
      refine E.QG.code ?_
      refine E.CG.ret ?_
      exact E.QG.result rfl rfl ⟨by rw [bool_no h (by omega)], L⟩
  · refine E.GL.run rfl rfl rfl (E.Runs.move rfl rfl) ?_
    refine E.GL.skip rfl rfl rfl ?_
    refine E.GL.skip rfl rfl rfl ?_
    refine E.GL.skip rfl rfl rfl ?_
    refine E.GL.run rfl rfl rfl (E.Runs.pick_f rfl rfl rfl) ?_
    refine E.GL.run rfl rfl rfl (E.Runs.assign rfl rfl) ?_
    refine E.GL.done ?_
    refine E.QG.code ?_
    refine E.CG.ret ?_
    exact E.QG.result rfl rfl ⟨by rw [bool_no h (by omega)], L⟩

set_option maxRecDepth 100000 in
set_option maxHeartbeats 8000000 in

theorem within_r (n lo hi : Int) (b : Bool) (h : b = true ↔ inR n lo hi) (w : World) :
    Calls Try.prog 56 #[.int .i64 n, .int .i64 lo, .int .i64 hi] w fun e w' => e = .returned (.bool b) ∧ Below w.heap.size w w' := by
  unfold inR at h
  refine E.enter (N := 15) Try.func56 rfl Try.ntmps56 (args := [.int .i64 n, .int .i64 lo, .int .i64 hi]) (by simp) ?_
  have L := Below.refl w.heap.size w
  refine E.CG.seq ?_
  refine E.CG.list ?_
  refine E.GL.run rfl rfl rfl (E.Runs.assign rfl rfl) ?_
  refine E.GL.done ?_
  refine E.QG.code ?_
  refine E.CG.seq ?_
  refine E.CG.list ?_
  refine E.GL.run rfl rfl rfl (E.Runs.move rfl rfl) ?_
  refine E.GL.run rfl rfl rfl (E.Runs.move rfl rfl) ?_
  refine E.GL.cmp rfl rfl rfl (fun _ h => (E.Runs.geq rfl rfl rfl h)) (fun h9 => ?_) (fun h9 => ?_)
  · refine E.GL.run rfl rfl rfl (E.Runs.move rfl rfl) ?_
    refine E.GL.run rfl rfl rfl (E.Runs.move rfl rfl) ?_
    refine E.GL.run rfl rfl rfl (E.Runs.move rfl rfl) ?_
    refine E.GL.cmp rfl rfl rfl (fun _ h => (E.Runs.leq rfl rfl rfl h)) (fun h13 => ?_) (fun h13 => ?_)
    · refine E.GL.run rfl rfl rfl (E.Runs.pick_t rfl rfl rfl) ?_
      refine E.GL.run rfl rfl rfl (E.Runs.assign rfl rfl) ?_
      refine E.GL.done ?_
      refine E.QG.code ?_
      refine E.CG.ret ?_
      exact E.QG.result rfl rfl ⟨by rw [h.mpr ⟨by omega, by omega⟩], L⟩
    · refine E.GL.run rfl rfl rfl (E.Runs.pick_t rfl rfl rfl) ?_
      refine E.GL.run rfl rfl rfl (E.Runs.assign rfl rfl) ?_
      refine E.GL.done ?_
      refine E.QG.code ?_
      refine E.CG.ret ?_
      exact E.QG.result rfl rfl ⟨by rw [bool_no h (by omega)], L⟩
  · refine E.GL.run rfl rfl rfl (E.Runs.move rfl rfl) ?_
    refine E.GL.skip rfl rfl rfl ?_
    refine E.GL.skip rfl rfl rfl ?_
    refine E.GL.skip rfl rfl rfl ?_
    refine E.GL.run rfl rfl rfl (E.Runs.pick_f rfl rfl rfl) ?_
    refine E.GL.run rfl rfl rfl (E.Runs.assign rfl rfl) ?_
    refine E.GL.done ?_
    refine E.QG.code ?_
    refine E.CG.ret ?_
    exact E.QG.result rfl rfl ⟨by rw [bool_no h (by omega)], L⟩

set_option maxRecDepth 100000 in
set_option maxHeartbeats 8000000 in

theorem span_o (a b lo hi : Int) (r : Bool) (h : r = true ↔ spanR a b lo hi) (w : World) :
    Calls Try.prog 65 #[.agg #[.int .i64 a, .int .i64 b], .int .i64 lo, .int .i64 hi] w fun e w' => e = .returned (.bool r) ∧ Below w.heap.size w w' := by
  have hu3 := Try.underlying3
  have hu23 := Try.underlying23
  obtain ⟨z3, o3⟩ := info_some info3s (by decide)
  unfold spanR at h
  refine E.enter (N := 24) Try.func65 rfl Try.ntmps65 (args := [.agg #[.int .i64 a, .int .i64 b], .int .i64 lo, .int .i64 hi]) (by simp) ?_
  have L := Below.refl w.heap.size w
  refine E.CG.seq ?_
  refine E.CG.list ?_
  refine E.GL.st rfl rfl rfl (E.ST.box rfl rfl fun g3 w3 e3 b3 l3 => ?_)
  have h3_L : w.heap.size ≤ g3 := by rw [e3]; exact L.size
  replace L := below_step L l3
  refine E.GL.run rfl rfl rfl (E.Runs.assign rfl rfl) ?_
  refine E.GL.done ?_
  refine E.QG.code ?_
  refine E.CG.seq ?_
  refine E.CG.list ?_
  refine E.GL.run rfl rfl rfl (E.Runs.move rfl rfl) ?_
  refine E.GL.run rfl rfl rfl (E.Runs.fieldAddr rfl rfl hu23 rfl (by assumption) rfl) ?_
  refine E.GL.run rfl rfl rfl (E.Runs.load rfl rfl hu3 (by first | assumption | exact E.blkc (by assumption) rfl | exact pw_cell_below L (by assumption))) ?_
  refine E.GL.cmp rfl rfl rfl (fun _ h => (E.Runs.leq rfl rfl rfl h)) (fun h10 => ?_) (fun h10 => ?_)
  · refine E.GL.run rfl rfl rfl (E.Runs.move rfl rfl) ?_
    refine E.GL.run rfl rfl rfl (E.Runs.fieldAddr rfl rfl hu23 rfl (by assumption) rfl) ?_
    refine E.GL.run rfl rfl rfl (E.Runs.load rfl rfl hu3 (by first | assumption | exact E.blkc (by assumption) rfl | exact pw_cell_below L (by assumption))) ?_
    refine E.GL.run rfl rfl rfl (E.Runs.fieldAddr rfl rfl hu23 rfl (by assumption) rfl) ?_
    refine E.GL.run rfl rfl rfl (E.Runs.load rfl rfl hu3 (by first | assumption | exact E.blkc (by assumption) rfl | exact pw_cell_below L (by assumption))) ?_
    refine E.GL.cmp rfl rfl rfl (fun _ h => (E.Runs.leq rfl rfl rfl h)) (fun h16 => ?_) (fun h16 => ?_)
    · refine E.GL.run rfl rfl rfl (E.Runs.pick_t rfl rfl rfl) ?_
      refine E.GL.run rfl rfl rfl (E.Runs.move rfl rfl) ?_
      refine E.GL.run rfl rfl rfl (E.Runs.fieldAddr rfl rfl hu23 rfl (by assumption) rfl) ?_
      refine E.GL.run rfl rfl rfl (E.Runs.load rfl rfl hu3 (by first | assumption | exact E.blkc (by assumption) rfl | exact pw_cell_below L (by assumption))) ?_
      refine E.GL.run rfl rfl rfl (E.Runs.move rfl rfl) ?_
      refine E.GL.cmp rfl rfl rfl (fun _ h => (E.Runs.leq rfl rfl rfl h)) (fun h22 => ?_) (fun h22 => ?_)
      · refine E.GL.run rfl rfl rfl (E.Runs.pick_t rfl rfl rfl) ?_
        refine E.GL.run rfl rfl rfl (E.Runs.assign rfl rfl) ?_
        refine E.GL.done ?_
        refine E.QG.code ?_
        refine E.CG.ret ?_
        exact E.QG.result rfl rfl ⟨by rw [h.mpr ⟨by omega, by omega, by omega⟩], L⟩
      · refine E.GL.run rfl rfl rfl (E.Runs.pick_t rfl rfl rfl) ?_
        refine E.GL.run rfl rfl rfl (E.Runs.assign rfl rfl) ?_
        refine E.GL.done ?_
        refine E.QG.code ?_
        refine E.CG.ret ?_
        exact E.QG.result rfl rfl ⟨by rw [bool_no h (by omega)], L⟩
    · refine E.GL.run rfl rfl rfl (E.Runs.pick_t rfl rfl rfl) ?_
      refine E.GL.run rfl rfl rfl (E.Runs.move rfl rfl) ?_
      refine E.GL.skip rfl rfl rfl ?_
      refine E.GL.skip rfl rfl rfl ?_
      refine E.GL.skip rfl rfl rfl ?_
      refine E.GL.skip rfl rfl rfl ?_
      refine E.GL.run rfl rfl rfl (E.Runs.pick_f rfl rfl rfl) ?_
      refine E.GL.run rfl rfl rfl (E.Runs.assign rfl rfl) ?_
      refine E.GL.done ?_
      refine E.QG.code ?_
      refine E.CG.ret ?_
      exact E.QG.result rfl rfl ⟨by rw [bool_no h (by omega)], L⟩
  · refine E.GL.run rfl rfl rfl (E.Runs.move rfl rfl) ?_
    refine E.GL.skip rfl rfl rfl ?_
    refine E.GL.skip rfl rfl rfl ?_
    refine E.GL.skip rfl rfl rfl ?_
    refine E.GL.skip rfl rfl rfl ?_
    refine E.GL.skip rfl rfl rfl ?_
    refine E.GL.run rfl rfl rfl (E.Runs.pick_f rfl rfl rfl) ?_
    refine E.GL.run rfl rfl rfl (E.Runs.move rfl rfl) ?_
    refine E.GL.skip rfl rfl rfl ?_
    refine E.GL.skip rfl rfl rfl ?_
    refine E.GL.skip rfl rfl rfl ?_
    refine E.GL.skip rfl rfl rfl ?_
    refine E.GL.run rfl rfl rfl (E.Runs.pick_f rfl rfl rfl) ?_
    refine E.GL.run rfl rfl rfl (E.Runs.assign rfl rfl) ?_
    refine E.GL.done ?_
    refine E.QG.code ?_
    refine E.CG.ret ?_
    exact E.QG.result rfl rfl ⟨by rw [bool_no h (by omega)], L⟩

set_option maxRecDepth 100000 in
set_option maxHeartbeats 8000000 in

theorem span_r (a b hi : Int) (r : Bool) (h : r = true ↔ spanR a b 0 hi) (w : World) :
    Calls Try.prog 66 #[.agg #[.int .i64 a, .int .i64 b], .int .i64 hi] w fun e w' => e = .returned (.bool r) ∧ Below w.heap.size w w' := by
  have hu3 := Try.underlying3
  have hu23 := Try.underlying23
  obtain ⟨z3, o3⟩ := info_some info3s (by decide)
  unfold spanR at h
  refine E.enter (N := 16) Try.func66 rfl Try.ntmps66 (args := [.agg #[.int .i64 a, .int .i64 b], .int .i64 hi]) (by simp) ?_
  have L := Below.refl w.heap.size w
  refine E.CG.seq ?_
  refine E.CG.list ?_
  refine E.GL.st rfl rfl rfl (E.ST.box rfl rfl fun g2 w2 e2 b2 l2 => ?_)
  have h2_L : w.heap.size ≤ g2 := by rw [e2]; exact L.size
  replace L := below_step L l2
  refine E.GL.run rfl rfl rfl (E.Runs.assign rfl rfl) ?_
  refine E.GL.done ?_
  refine E.QG.code ?_
  refine E.CG.seq ?_
  refine E.CG.list ?_
  refine E.GL.run rfl rfl rfl (E.Runs.fieldAddr rfl rfl hu23 rfl (by assumption) rfl) ?_
  refine E.GL.run rfl rfl rfl (E.Runs.load rfl rfl hu3 (by first | assumption | exact E.blkc (by assumption) rfl | exact pw_cell_below L (by assumption))) ?_
  refine E.GL.run rfl rfl rfl (E.Runs.fieldAddr rfl rfl hu23 rfl (by assumption) rfl) ?_
  refine E.GL.run rfl rfl rfl (E.Runs.load rfl rfl hu3 (by first | assumption | exact E.blkc (by assumption) rfl | exact pw_cell_below L (by assumption))) ?_
  by_cases h9 : inR a 0 b
  · unfold inR at h9
    refine E.GL.st rfl rfl rfl (E.ST.call rfl ent56 (E.evc rfl (E.evc rfl (E.evc rfl E.evn))) ((within_r a 0 b true (iff_of_true rfl h9) _).mono ?_))
    rintro e w9 ⟨rfl, l9⟩
    refine ⟨_, rfl, ?_⟩
    replace b2 := blk_below b2 l9
    replace L := below_step L l9
    refine E.GL.run rfl rfl rfl (E.Runs.move rfl rfl) ?_
    refine E.GL.run rfl rfl rfl (E.Runs.fieldAddr rfl rfl hu23 rfl (by assumption) rfl) ?_
    refine E.GL.run rfl rfl rfl (E.Runs.load rfl rfl hu3 (by first | assumption | exact E.blkc (by assumption) rfl | exact pw_cell_below L (by assumption))) ?_
    refine E.GL.run rfl rfl rfl (E.Runs.move rfl rfl) ?_
    refine E.GL.cmp rfl rfl rfl (fun _ h => (E.Runs.leq rfl rfl rfl h)) (fun h14 => ?_) (fun h14 => ?_)
    · refine E.GL.run rfl rfl rfl (E.Runs.pick_t rfl rfl rfl) ?_
      refine E.GL.run rfl rfl rfl (E.Runs.assign rfl rfl) ?_
      refine E.GL.done ?_
      refine E.QG.code ?_
      refine E.CG.ret ?_
      exact E.QG.result rfl rfl ⟨by rw [h.mpr ⟨by omega, by omega, by omega⟩], L⟩
    · refine E.GL.run rfl rfl rfl (E.Runs.pick_t rfl rfl rfl) ?_
      refine E.GL.run rfl rfl rfl (E.Runs.assign rfl rfl) ?_
      refine E.GL.done ?_
      refine E.QG.code ?_
      refine E.CG.ret ?_
      exact E.QG.result rfl rfl ⟨by rw [bool_no h (by omega)], L⟩
  · unfold inR at h9
    refine E.GL.st rfl rfl rfl (E.ST.call rfl ent56 (E.evc rfl (E.evc rfl (E.evc rfl E.evn))) ((within_r a 0 b false (iff_of_false Bool.false_ne_true h9) _).mono ?_))
    rintro e w9 ⟨rfl, l9⟩
    refine ⟨_, rfl, ?_⟩
    replace b2 := blk_below b2 l9
    replace L := below_step L l9
    refine E.GL.run rfl rfl rfl (E.Runs.move rfl rfl) ?_
    refine E.GL.skip rfl rfl rfl ?_
    refine E.GL.skip rfl rfl rfl ?_
    refine E.GL.skip rfl rfl rfl ?_
    refine E.GL.skip rfl rfl rfl ?_
    refine E.GL.run rfl rfl rfl (E.Runs.pick_f rfl rfl rfl) ?_
    refine E.GL.run rfl rfl rfl (E.Runs.assign rfl rfl) ?_
    refine E.GL.done ?_
    refine E.QG.code ?_
    refine E.CG.ret ?_
    exact E.QG.result rfl rfl ⟨by rw [bool_no h (by omega)], L⟩

set_option maxRecDepth 100000 in
set_option maxHeartbeats 8000000 in

theorem at_o (p : Ln) (t : Int) (w : World) (hp : PtOk p) (h0 : 0 ≤ t) (h1 : t ≤ 1000) :
    Calls Try.prog 55 #[pv p, .int .i64 t] w fun e w' => e = .returned (.int .i64 (light p t)) ∧ Below w.heap.size w w' := by
  have hu3 := Try.underlying3
  have hu80 := Try.underlying80
  obtain ⟨z3, o3⟩ := info_some info3s (by decide)
  have hb := light_b hp h0 h1
  obtain ⟨a0, a1, b0, b1⟩ := hp
  refine E.enter (N := 12) Try.func55 rfl Try.ntmps55 (args := [pv p, .int .i64 t]) (by simp) ?_
  have L := Below.refl w.heap.size w
  refine E.CG.seq ?_
  refine E.CG.list ?_
  refine E.GL.st rfl rfl rfl (E.ST.box rfl rfl fun g2 w2 e2 b2 l2 => ?_)
  have h2_L : w.heap.size ≤ g2 := by rw [e2]; exact L.size
  replace L := below_step L l2
  refine E.GL.run rfl rfl rfl (E.Runs.assign rfl rfl) ?_
  refine E.GL.done ?_
  refine E.QG.code ?_
  refine E.CG.seq ?_
  refine E.CG.list ?_
  refine E.GL.run rfl rfl rfl (E.Runs.fieldAddr rfl rfl hu80 rfl (by assumption) rfl) ?_
  refine E.GL.run rfl rfl rfl (E.Runs.load rfl rfl hu3 (by first | assumption | exact E.blkc (by assumption) rfl | exact pw_cell_below L (by assumption))) ?_
  refine E.GL.run rfl rfl rfl (E.Runs.move rfl rfl) ?_
  refine E.GL.run rfl rfl rfl (E.Runs.fieldAddr rfl rfl hu80 rfl (by assumption) rfl) ?_
  refine E.GL.run rfl rfl rfl (E.Runs.load rfl rfl hu3 (by first | assumption | exact E.blkc (by assumption) rfl | exact pw_cell_below L (by assumption))) ?_
  refine E.GL.run rfl rfl rfl (E.Runs.mul rfl rfl rfl (IntWalk.i64_in _ (by omega))) ?_
  refine E.GL.run rfl rfl rfl (E.Runs.sub rfl rfl rfl (IntWalk.i64_in _ (by omega))) ?_
  refine E.GL.run rfl rfl rfl (E.Runs.assign rfl rfl) ?_
  refine E.GL.done ?_
  refine E.QG.code ?_
  refine E.CG.ret ?_
  exact E.QG.result rfl rfl ⟨rfl, L⟩

set_option maxRecDepth 100000 in
set_option maxHeartbeats 8000000 in

theorem light_r (p : Ln) (t : Int) (w : World) (hp : PtOk p) (h0 : 0 ≤ t) (h1 : t ≤ 1000) :
    Calls Try.prog 31 #[pv p, .int .i64 t] w fun e w' => e = .returned (.int .i64 (light p t)) ∧ Below w.heap.size w w' := by
  have hu3 := Try.underlying3
  have hu54 := Try.underlying54
  obtain ⟨z3, o3⟩ := info_some info3s (by decide)
  have hb := light_b hp h0 h1
  obtain ⟨a0, a1, b0, b1⟩ := hp
  refine E.enter (N := 12) Try.func31 rfl Try.ntmps31 (args := [pv p, .int .i64 t]) (by simp) ?_
  have L := Below.refl w.heap.size w
  refine E.CG.seq ?_
  refine E.CG.list ?_
  refine E.GL.st rfl rfl rfl (E.ST.box rfl rfl fun g2 w2 e2 b2 l2 => ?_)
  have h2_L : w.heap.size ≤ g2 := by rw [e2]; exact L.size
  replace L := below_step L l2
  refine E.GL.run rfl rfl rfl (E.Runs.assign rfl rfl) ?_
  refine E.GL.done ?_
  refine E.QG.code ?_
  refine E.CG.seq ?_
  refine E.CG.list ?_
  refine E.GL.run rfl rfl rfl (E.Runs.fieldAddr rfl rfl hu54 rfl (by assumption) rfl) ?_
  refine E.GL.run rfl rfl rfl (E.Runs.load rfl rfl hu3 (by first | assumption | exact E.blkc (by assumption) rfl | exact pw_cell_below L (by assumption))) ?_
  refine E.GL.run rfl rfl rfl (E.Runs.move rfl rfl) ?_
  refine E.GL.run rfl rfl rfl (E.Runs.fieldAddr rfl rfl hu54 rfl (by assumption) rfl) ?_
  refine E.GL.run rfl rfl rfl (E.Runs.load rfl rfl hu3 (by first | assumption | exact E.blkc (by assumption) rfl | exact pw_cell_below L (by assumption))) ?_
  refine E.GL.run rfl rfl rfl (E.Runs.mul rfl rfl rfl (IntWalk.i64_in _ (by omega))) ?_
  refine E.GL.run rfl rfl rfl (E.Runs.sub rfl rfl rfl (IntWalk.i64_in _ (by omega))) ?_
  refine E.GL.run rfl rfl rfl (E.Runs.assign rfl rfl) ?_
  refine E.GL.done ?_
  refine E.QG.code ?_
  refine E.CG.ret ?_
  exact E.QG.result rfl rfl ⟨rfl, L⟩

set_option maxRecDepth 100000 in
set_option maxHeartbeats 8000000 in


theorem check_o (M : Lm) (A : Option Addr) (c : Nat) (w : World) (hr : Kd.C k64 w A M.gs.length M.gs) (hn : M.gs.length ≤ 1000000) :
    Calls Try.prog 39 #[lv M A c] w fun e w' => e = .returned (.int .i64 (checkE M)) ∧ Below w.heap.size w w' := by
  have hu3 := Try.underlying3
  have hu23 := Try.underlying23
  have hu24 := Try.underlying24
  have hu26 := Try.underlying26
  have hu64 := Try.underlying64
  obtain ⟨z3, o3⟩ := info_some info3s (by decide)
  obtain ⟨z23, o23⟩ := info_some info23s (by decide)
  obtain ⟨z24, o24⟩ := info_some info24s (by decide)
  obtain ⟨z64, o64⟩ := info_some info64s (by decide)
  refine E.enter (N := 60) Try.func39 rfl Try.ntmps39 (args := [lv M A c]) (by simp) ?_
  have L := Below.refl w.heap.size w
  refine E.CG.seq ?_
  refine E.CG.list ?_
  refine E.GL.st rfl rfl rfl (E.ST.box rfl rfl fun g1 w1 e1 b1 l1 => ?_)
  have h1_L : w.heap.size ≤ g1 := by rw [e1]; exact L.size
  replace L := below_step L l1
  refine E.GL.run rfl rfl rfl (E.Runs.assign rfl rfl) ?_
  refine E.GL.done ?_
  refine E.QG.code ?_
  refine E.CG.seq ?_
  refine E.CG.seq ?_
  refine E.CG.list ?_
  refine E.GL.run rfl rfl rfl (E.Runs.fieldAddr rfl rfl hu26 rfl (by assumption) rfl) ?_
  refine E.GL.run rfl rfl rfl (E.Runs.loads (cs := [.int .i64 M.fl, .int .i64 M.fh]) rfl rfl hu23 rfl info23s (cells2 b1 0 rfl rfl)) ?_
  by_cases h7 : spanR M.fl M.fh 0 400
  · refine E.GL.st rfl rfl rfl (E.ST.call rfl ent65 (E.evc rfl (E.evc rfl (E.evc rfl E.evn))) ((span_o M.fl M.fh 0 400 true (iff_of_true rfl h7) _).mono ?_))
    rintro e w7 ⟨rfl, l7⟩
    refine ⟨_, rfl, ?_⟩
    replace b1 := blk_below b1 l7
    replace L := below_step L l7
    refine E.GL.run rfl rfl rfl (E.Runs.not rfl rfl) ?_
    refine E.GL.run rfl rfl rfl (E.Runs.move rfl rfl) ?_
    refine E.GL.run rfl rfl rfl (E.Runs.fieldAddr rfl rfl hu26 rfl (by assumption) rfl) ?_
    refine E.GL.run rfl rfl rfl (E.Runs.loads (cs := [.int .i64 M.nl, .int .i64 M.nh]) rfl rfl hu23 rfl info23s (cells2 b1 4 rfl rfl)) ?_
    by_cases h12 : spanR M.nl M.nh 0 400
    · refine E.GL.st rfl rfl rfl (E.ST.call rfl ent65 (E.evc rfl (E.evc rfl (E.evc rfl E.evn))) ((span_o M.nl M.nh 0 400 true (iff_of_true rfl h12) _).mono ?_))
      rintro e w12 ⟨rfl, l12⟩
      refine ⟨_, rfl, ?_⟩
      replace b1 := blk_below b1 l12
      replace L := below_step L l12
      refine E.GL.run rfl rfl rfl (E.Runs.not rfl rfl) ?_
      refine E.GL.run rfl rfl rfl (E.Runs.pick_f rfl rfl rfl) ?_
      refine E.GL.run rfl rfl rfl (E.Runs.move rfl rfl) ?_
      refine E.GL.run rfl rfl rfl (E.Runs.fieldAddr rfl rfl hu26 rfl (by assumption) rfl) ?_
      refine E.GL.run rfl rfl rfl (E.Runs.loads (cs := [.int .i64 M.al, .int .i64 M.ah]) rfl rfl hu23 rfl info23s (cells2 b1 2 rfl rfl)) ?_
      by_cases h18 : spanR M.al M.ah 0 9
      · refine E.GL.st rfl rfl rfl (E.ST.call rfl ent65 (E.evc rfl (E.evc rfl (E.evc rfl E.evn))) ((span_o M.al M.ah 0 9 true (iff_of_true rfl h18) _).mono ?_))
        rintro e w18 ⟨rfl, l18⟩
        refine ⟨_, rfl, ?_⟩
        replace b1 := blk_below b1 l18
        replace L := below_step L l18
        refine E.GL.run rfl rfl rfl (E.Runs.not rfl rfl) ?_
        refine E.GL.run rfl rfl rfl (E.Runs.pick_f rfl rfl rfl) ?_
        refine E.GL.run rfl rfl rfl (E.Runs.move rfl rfl) ?_
        refine E.GL.run rfl rfl rfl (E.Runs.fieldAddr rfl rfl hu26 rfl (by assumption) rfl) ?_
        refine E.GL.run rfl rfl rfl (E.Runs.load rfl rfl hu3 (by first | assumption | exact E.blkc (by assumption) rfl | exact pw_cell_below L (by assumption))) ?_
        by_cases h24 : inR M.ra 0 40
        · refine E.GL.st rfl rfl rfl (E.ST.call rfl ent43 (E.evc rfl (E.evc rfl (E.evc rfl E.evn))) ((within_o M.ra 0 40 true (iff_of_true rfl h24) _).mono ?_))
          rintro e w24 ⟨rfl, l24⟩
          refine ⟨_, rfl, ?_⟩
          replace b1 := blk_below b1 l24
          replace L := below_step L l24
          refine E.GL.run rfl rfl rfl (E.Runs.not rfl rfl) ?_
          refine E.GL.run rfl rfl rfl (E.Runs.pick_f rfl rfl rfl) ?_
          refine E.GL.run rfl rfl rfl (E.Runs.move rfl rfl) ?_
          refine E.GL.run rfl rfl rfl (E.Runs.fieldAddr rfl rfl hu26 rfl (by assumption) rfl) ?_
          refine E.GL.run rfl rfl rfl (E.Runs.load1 rfl rfl hu24 rfl (by first | assumption | exact E.blkc (by assumption) rfl | exact pw_cell_below L (by assumption))) ?_
          refine E.GL.run rfl rfl rfl (E.Runs.len rfl rfl hu24) ?_
          refine E.GL.cmp rfl rfl rfl (fun _ h => (E.Runs.gtr rfl rfl rfl h)) (fun h31 => ?_) (fun h31 => ?_)
          · refine E.GL.run rfl rfl rfl (E.Runs.pick_f rfl rfl rfl) ?_
            refine E.GL.run rfl rfl rfl (E.Runs.move rfl rfl) ?_
            refine E.GL.skip rfl rfl rfl ?_
            refine E.GL.skip rfl rfl rfl ?_
            refine E.GL.skip rfl rfl rfl ?_
            refine E.GL.skip rfl rfl rfl ?_
            refine E.GL.run rfl rfl rfl (E.Runs.pick_t rfl rfl rfl) ?_
            refine E.GL.done ?_
            refine E.QG.code ?_
            refine E.CG.cond_t rfl ?_
            refine E.CG.seq ?_
            refine E.CG.list ?_
            refine E.GL.run rfl rfl rfl (E.Runs.assign rfl rfl) ?_
            refine E.GL.done ?_
            refine E.QG.code ?_
            refine E.CG.ret ?_
            refine E.QG.pass_ret ?_
            exact E.QG.result rfl rfl ⟨by rw [checkE_no (fun k => by have := k.1.2.2.2.2.1; omega)], L⟩
          · refine E.GL.run rfl rfl rfl (E.Runs.pick_f rfl rfl rfl) ?_
            refine E.GL.run rfl rfl rfl (E.Runs.move rfl rfl) ?_
            refine E.GL.run rfl rfl rfl (E.Runs.fieldAddr rfl rfl hu26 rfl (by assumption) rfl) ?_
            refine E.GL.run rfl rfl rfl (E.Runs.load rfl rfl hu3 (by first | assumption | exact E.blkc (by assumption) rfl | exact pw_cell_below L (by assumption))) ?_
            by_cases h36 : inR M.wr 0 3
            · refine E.GL.st rfl rfl rfl (E.ST.call rfl ent43 (E.evc rfl (E.evc rfl (E.evc rfl E.evn))) ((within_o M.wr 0 3 true (iff_of_true rfl h36) _).mono ?_))
              rintro e w36 ⟨rfl, l36⟩
              refine ⟨_, rfl, ?_⟩
              replace b1 := blk_below b1 l36
              replace L := below_step L l36
              refine E.GL.run rfl rfl rfl (E.Runs.not rfl rfl) ?_
              refine E.GL.run rfl rfl rfl (E.Runs.pick_f rfl rfl rfl) ?_
              refine E.GL.done ?_
              refine E.QG.code ?_
              refine E.CG.cond_f rfl ?_
              refine E.CG.skip ?_
              refine E.QG.code ?_
              refine E.CG.seq ?_
              refine E.CG.seq ?_
              refine E.CG.list ?_
              refine E.GL.run rfl rfl rfl (E.Runs.fieldAddr rfl rfl hu26 rfl (by assumption) rfl) ?_
              refine E.GL.run rfl rfl rfl (E.Runs.load1 rfl rfl hu24 rfl (by first | assumption | exact E.blkc (by assumption) rfl | exact pw_cell_below L (by assumption))) ?_
              refine E.GL.run rfl rfl rfl (E.Runs.len rfl rfl hu24) ?_
              refine E.GL.run rfl rfl rfl (E.Runs.move rfl rfl) ?_
              refine E.GL.done ?_
              refine E.QG.code ?_
              refine E.CG.block ?_
              have s4_b1 := b1
              have s4_L := L
              refine E.CG.loop (fun (i : Nat) => [(40, .slice A M.gs.length c), (41, .int .i64 M.gs.length), (42, .int .i64 i)]) (fun i w' => i ≤ M.gs.length ∧ Below w.heap.size w w' ∧ ∀ k, k < i → ∀ g, M.gs[k]? = some g → GaugeOk g) (fun i => M.gs.length - i) 0 (E.subc rfl (E.subc rfl (E.subc rfl (E.subn)))) ⟨Nat.zero_le _, L, fun k hk => by omega⟩ ?_
              rintro i w4 ⟨hi, L, hok⟩
              refine E.CG.seq ?_
              refine E.CG.list ?_
              refine E.GL.cmp rfl rfl rfl (fun _ h => (E.Runs.lss rfl rfl rfl h)) (fun h43 => ?_) (fun h43 => ?_)
              · obtain ⟨g, hg⟩ : ∃ g, M.gs[i]? = some g := ⟨_, List.getElem?_eq_getElem (by omega)⟩
                obtain ⟨ad, eA, G⟩ := gauge_at hr hg
                refine E.GL.done ?_
                refine E.QG.code ?_
                refine E.CG.seq ?_
                refine E.CG.cond_t rfl ?_
                refine E.CG.skip ?_
                refine E.QG.code ?_
                refine E.CG.seq ?_
                refine E.CG.block ?_
                refine E.CG.seq ?_
                refine E.CG.list ?_
                refine E.GL.run rfl rfl rfl (E.Runs.indexAddrA rfl rfl rfl hu24 (by assumption) (by assumption) (by assumption) (by first | rfl | assumption) rfl) ?_
                refine E.GL.run rfl rfl rfl (E.Runs.loads (cs := [.int .i64 g.f0, .int .i64 g.f1, .int .i64 g.f2]) rfl rfl hu64 rfl info64s ((G.below L).cells)) ?_
                refine E.GL.st rfl rfl rfl (E.ST.alloc rfl info64z fun g4 w4 e4 b4 l4 => ?_)
                have h4_L : w.heap.size ≤ g4 := by rw [e4]; exact L.size
                replace L := below_step L l4
                refine E.GL.store_whole rfl rfl rfl rfl rfl b4 rfl info64s (three_one _ _ _) fun wS5_3 c4 lS5_3 => ?_
                replace L := E.below_own L h4_L lS5_3
                replace b4 := c4
                clear c4
                refine E.GL.done ?_
                refine E.QG.code ?_
                refine E.CG.seq ?_
                refine E.CG.list ?_
                refine E.GL.run rfl rfl rfl (E.Runs.fieldAddr rfl rfl hu64 rfl (by assumption) rfl) ?_
                refine E.GL.run rfl rfl rfl (E.Runs.load rfl rfl hu3 (by first | assumption | exact E.blkc (by assumption) rfl | exact pw_cell_below L (by assumption))) ?_
                by_cases h48 : inR g.f0 0 40
                · refine E.GL.st rfl rfl rfl (E.ST.call rfl ent43 (E.evc rfl (E.evc rfl (E.evc rfl E.evn))) ((within_o g.f0 0 40 true (iff_of_true rfl h48) _).mono ?_))
                  rintro e w48 ⟨rfl, l48⟩
                  refine ⟨_, rfl, ?_⟩
                  replace b4 := blk_below b4 l48
                  replace L := below_step L l48
                  refine E.GL.run rfl rfl rfl (E.Runs.not rfl rfl) ?_
                  refine E.GL.run rfl rfl rfl (E.Runs.move rfl rfl) ?_
                  refine E.GL.run rfl rfl rfl (E.Runs.fieldAddr rfl rfl hu64 rfl (by assumption) rfl) ?_
                  refine E.GL.run rfl rfl rfl (E.Runs.load rfl rfl hu3 (by first | assumption | exact E.blkc (by assumption) rfl | exact pw_cell_below L (by assumption))) ?_
                  refine E.GL.run rfl rfl rfl (E.Runs.fieldAddr rfl rfl hu64 rfl (by assumption) rfl) ?_
                  refine E.GL.run rfl rfl rfl (E.Runs.load rfl rfl hu3 (by first | assumption | exact E.blkc (by assumption) rfl | exact pw_cell_below L (by assumption))) ?_
                  refine E.GL.run rfl rfl rfl (E.Runs.build rfl (E.epc rfl (E.epc rfl E.epn)) (build23 _ _)) ?_
                  by_cases h56 : spanR g.f1 g.f2 (-400) 400
                  · refine E.GL.st rfl rfl rfl (E.ST.call rfl ent65 (E.evc rfl (E.evc rfl (E.evc rfl E.evn))) ((span_o g.f1 g.f2 (-400) 400 true (iff_of_true rfl h56) _).mono ?_))
                    rintro e w56 ⟨rfl, l56⟩
                    refine ⟨_, rfl, ?_⟩
                    replace b4 := blk_below b4 l56
                    replace L := below_step L l56
                    refine E.GL.run rfl rfl rfl (E.Runs.not rfl rfl) ?_
                    refine E.GL.run rfl rfl rfl (E.Runs.pick_f rfl rfl rfl) ?_
                    refine E.GL.done ?_
                    refine E.QG.code ?_
                    refine E.CG.cond_f rfl ?_
                    refine E.CG.skip ?_
                    refine E.QG.block_normal ?_
                    refine E.QG.code ?_
                    refine E.CG.list ?_
                    refine E.GL.run rfl rfl rfl (E.Runs.add rfl rfl rfl (IntWalk.i64_in _ (by omega))) ?_
                    refine E.GL.run rfl rfl rfl (E.Runs.move rfl rfl) ?_
                    refine E.GL.done ?_
                    exact E.QG.round (i + 1) (E.subc rfl (E.subc rfl (E.subc rfl E.subn))) ⟨by omega, L, one_more hok hg ⟨h48, h56⟩⟩ (by omega)
                  · refine E.GL.st rfl rfl rfl (E.ST.call rfl ent65 (E.evc rfl (E.evc rfl (E.evc rfl E.evn))) ((span_o g.f1 g.f2 (-400) 400 false (iff_of_false Bool.false_ne_true h56) _).mono ?_))
                    rintro e w56 ⟨rfl, l56⟩
                    refine ⟨_, rfl, ?_⟩
                    replace b4 := blk_below b4 l56
                    replace L := below_step L l56
                    refine E.GL.run rfl rfl rfl (E.Runs.not rfl rfl) ?_
                    refine E.GL.run rfl rfl rfl (E.Runs.pick_f rfl rfl rfl) ?_
                    refine E.GL.done ?_
                    refine E.QG.code ?_
                    refine E.CG.cond_t rfl ?_
                    refine E.CG.seq ?_
                    refine E.CG.list ?_
                    refine E.GL.run rfl rfl rfl (E.Runs.assign rfl rfl) ?_
                    refine E.GL.done ?_
                    refine E.QG.code ?_
                    refine E.CG.ret ?_
                    refine E.QG.block_ret ?_
                    refine E.QG.pass_ret ?_
                    refine E.QG.pass_ret ?_
                    refine E.QG.block_ret ?_
                    refine E.QG.pass_ret ?_
                    exact E.QG.result rfl rfl ⟨by rw [checkE_no (bad_at hg (fun k => h56 k.2))], L⟩
                · refine E.GL.st rfl rfl rfl (E.ST.call rfl ent43 (E.evc rfl (E.evc rfl (E.evc rfl E.evn))) ((within_o g.f0 0 40 false (iff_of_false Bool.false_ne_true h48) _).mono ?_))
                  rintro e w48 ⟨rfl, l48⟩
                  refine ⟨_, rfl, ?_⟩
                  replace b4 := blk_below b4 l48
                  replace L := below_step L l48
                  refine E.GL.run rfl rfl rfl (E.Runs.not rfl rfl) ?_
                  refine E.GL.run rfl rfl rfl (E.Runs.move rfl rfl) ?_
                  refine E.GL.skip rfl rfl rfl ?_
                  refine E.GL.skip rfl rfl rfl ?_
                  refine E.GL.skip rfl rfl rfl ?_
                  refine E.GL.skip rfl rfl rfl ?_
                  refine E.GL.skip rfl rfl rfl ?_
                  refine E.GL.skip rfl rfl rfl ?_
                  refine E.GL.skip rfl rfl rfl ?_
                  refine E.GL.run rfl rfl rfl (E.Runs.pick_t rfl rfl rfl) ?_
                  refine E.GL.done ?_
                  refine E.QG.code ?_
                  refine E.CG.cond_t rfl ?_
                  refine E.CG.seq ?_
                  refine E.CG.list ?_
                  refine E.GL.run rfl rfl rfl (E.Runs.assign rfl rfl) ?_
                  refine E.GL.done ?_
                  refine E.QG.code ?_
                  refine E.CG.ret ?_
                  refine E.QG.block_ret ?_
                  refine E.QG.pass_ret ?_
                  refine E.QG.pass_ret ?_
                  refine E.QG.block_ret ?_
                  refine E.QG.pass_ret ?_
                  exact E.QG.result rfl rfl ⟨by rw [checkE_no (bad_at hg (fun k => h48 k.1))], L⟩
              · refine E.GL.done ?_
                refine E.QG.code ?_
                refine E.CG.seq ?_
                refine E.CG.cond_f rfl ?_
                refine E.CG.exit ?_
                refine E.QG.pass_exit ?_
                refine E.QG.pass_exit ?_
                refine E.QG.block_here ?_
                refine E.QG.code ?_
                refine E.CG.seq ?_
                refine E.CG.list ?_
                refine E.GL.run rfl rfl rfl (E.Runs.assign rfl rfl) ?_
                refine E.GL.done ?_
                refine E.QG.code ?_
                refine E.CG.ret ?_
                exact E.QG.result rfl rfl ⟨by rw [checkE_yes ⟨⟨h7, h12, h18, h24, by omega, h36⟩, all_of hok (by omega)⟩], L⟩
            · refine E.GL.st rfl rfl rfl (E.ST.call rfl ent43 (E.evc rfl (E.evc rfl (E.evc rfl E.evn))) ((within_o M.wr 0 3 false (iff_of_false Bool.false_ne_true h36) _).mono ?_))
              rintro e w36 ⟨rfl, l36⟩
              refine ⟨_, rfl, ?_⟩
              replace b1 := blk_below b1 l36
              replace L := below_step L l36
              refine E.GL.run rfl rfl rfl (E.Runs.not rfl rfl) ?_
              refine E.GL.run rfl rfl rfl (E.Runs.pick_f rfl rfl rfl) ?_
              refine E.GL.done ?_
              refine E.QG.code ?_
              refine E.CG.cond_t rfl ?_
              refine E.CG.seq ?_
              refine E.CG.list ?_
              refine E.GL.run rfl rfl rfl (E.Runs.assign rfl rfl) ?_
              refine E.GL.done ?_
              refine E.QG.code ?_
              refine E.CG.ret ?_
              refine E.QG.pass_ret ?_
              exact E.QG.result rfl rfl ⟨by rw [checkE_no (fun k => h36 k.1.2.2.2.2.2)], L⟩
        · refine E.GL.st rfl rfl rfl (E.ST.call rfl ent43 (E.evc rfl (E.evc rfl (E.evc rfl E.evn))) ((within_o M.ra 0 40 false (iff_of_false Bool.false_ne_true h24) _).mono ?_))
          rintro e w24 ⟨rfl, l24⟩
          refine ⟨_, rfl, ?_⟩
          replace b1 := blk_below b1 l24
          replace L := below_step L l24
          refine E.GL.run rfl rfl rfl (E.Runs.not rfl rfl) ?_
          refine E.GL.run rfl rfl rfl (E.Runs.pick_f rfl rfl rfl) ?_
          refine E.GL.run rfl rfl rfl (E.Runs.move rfl rfl) ?_
          refine E.GL.skip rfl rfl rfl ?_
          refine E.GL.skip rfl rfl rfl ?_
          refine E.GL.skip rfl rfl rfl ?_
          refine E.GL.skip rfl rfl rfl ?_
          refine E.GL.run rfl rfl rfl (E.Runs.pick_t rfl rfl rfl) ?_
          refine E.GL.run rfl rfl rfl (E.Runs.move rfl rfl) ?_
          refine E.GL.skip rfl rfl rfl ?_
          refine E.GL.skip rfl rfl rfl ?_
          refine E.GL.skip rfl rfl rfl ?_
          refine E.GL.skip rfl rfl rfl ?_
          refine E.GL.run rfl rfl rfl (E.Runs.pick_t rfl rfl rfl) ?_
          refine E.GL.done ?_
          refine E.QG.code ?_
          refine E.CG.cond_t rfl ?_
          refine E.CG.seq ?_
          refine E.CG.list ?_
          refine E.GL.run rfl rfl rfl (E.Runs.assign rfl rfl) ?_
          refine E.GL.done ?_
          refine E.QG.code ?_
          refine E.CG.ret ?_
          refine E.QG.pass_ret ?_
          exact E.QG.result rfl rfl ⟨by rw [checkE_no (fun k => h24 k.1.2.2.2.1)], L⟩
      · refine E.GL.st rfl rfl rfl (E.ST.call rfl ent65 (E.evc rfl (E.evc rfl (E.evc rfl E.evn))) ((span_o M.al M.ah 0 9 false (iff_of_false Bool.false_ne_true h18) _).mono ?_))
        rintro e w18 ⟨rfl, l18⟩
        refine ⟨_, rfl, ?_⟩
        replace b1 := blk_below b1 l18
        replace L := below_step L l18
        refine E.GL.run rfl rfl rfl (E.Runs.not rfl rfl) ?_
        refine E.GL.run rfl rfl rfl (E.Runs.pick_f rfl rfl rfl) ?_
        refine E.GL.run rfl rfl rfl (E.Runs.move rfl rfl) ?_
        refine E.GL.skip rfl rfl rfl ?_
        refine E.GL.skip rfl rfl rfl ?_
        refine E.GL.skip rfl rfl rfl ?_
        refine E.GL.skip rfl rfl rfl ?_
        refine E.GL.run rfl rfl rfl (E.Runs.pick_t rfl rfl rfl) ?_
        refine E.GL.run rfl rfl rfl (E.Runs.move rfl rfl) ?_
        refine E.GL.skip rfl rfl rfl ?_
        refine E.GL.skip rfl rfl rfl ?_
        refine E.GL.skip rfl rfl rfl ?_
        refine E.GL.skip rfl rfl rfl ?_
        refine E.GL.run rfl rfl rfl (E.Runs.pick_t rfl rfl rfl) ?_
        refine E.GL.run rfl rfl rfl (E.Runs.move rfl rfl) ?_
        refine E.GL.skip rfl rfl rfl ?_
        refine E.GL.skip rfl rfl rfl ?_
        refine E.GL.skip rfl rfl rfl ?_
        refine E.GL.skip rfl rfl rfl ?_
        refine E.GL.run rfl rfl rfl (E.Runs.pick_t rfl rfl rfl) ?_
        refine E.GL.done ?_
        refine E.QG.code ?_
        refine E.CG.cond_t rfl ?_
        refine E.CG.seq ?_
        refine E.CG.list ?_
        refine E.GL.run rfl rfl rfl (E.Runs.assign rfl rfl) ?_
        refine E.GL.done ?_
        refine E.QG.code ?_
        refine E.CG.ret ?_
        refine E.QG.pass_ret ?_
        exact E.QG.result rfl rfl ⟨by rw [checkE_no (fun k => h18 k.1.2.2.1)], L⟩
    · refine E.GL.st rfl rfl rfl (E.ST.call rfl ent65 (E.evc rfl (E.evc rfl (E.evc rfl E.evn))) ((span_o M.nl M.nh 0 400 false (iff_of_false Bool.false_ne_true h12) _).mono ?_))
      rintro e w12 ⟨rfl, l12⟩
      refine ⟨_, rfl, ?_⟩
      replace b1 := blk_below b1 l12
      replace L := below_step L l12
      refine E.GL.run rfl rfl rfl (E.Runs.not rfl rfl) ?_
      refine E.GL.run rfl rfl rfl (E.Runs.pick_f rfl rfl rfl) ?_
      refine E.GL.run rfl rfl rfl (E.Runs.move rfl rfl) ?_
      refine E.GL.skip rfl rfl rfl ?_
      refine E.GL.skip rfl rfl rfl ?_
      refine E.GL.skip rfl rfl rfl ?_
      refine E.GL.skip rfl rfl rfl ?_
      refine E.GL.run rfl rfl rfl (E.Runs.pick_t rfl rfl rfl) ?_
      refine E.GL.run rfl rfl rfl (E.Runs.move rfl rfl) ?_
      refine E.GL.skip rfl rfl rfl ?_
      refine E.GL.skip rfl rfl rfl ?_
      refine E.GL.skip rfl rfl rfl ?_
      refine E.GL.skip rfl rfl rfl ?_
      refine E.GL.run rfl rfl rfl (E.Runs.pick_t rfl rfl rfl) ?_
      refine E.GL.run rfl rfl rfl (E.Runs.move rfl rfl) ?_
      refine E.GL.skip rfl rfl rfl ?_
      refine E.GL.skip rfl rfl rfl ?_
      refine E.GL.skip rfl rfl rfl ?_
      refine E.GL.skip rfl rfl rfl ?_
      refine E.GL.run rfl rfl rfl (E.Runs.pick_t rfl rfl rfl) ?_
      refine E.GL.run rfl rfl rfl (E.Runs.move rfl rfl) ?_
      refine E.GL.skip rfl rfl rfl ?_
      refine E.GL.skip rfl rfl rfl ?_
      refine E.GL.skip rfl rfl rfl ?_
      refine E.GL.skip rfl rfl rfl ?_
      refine E.GL.run rfl rfl rfl (E.Runs.pick_t rfl rfl rfl) ?_
      refine E.GL.done ?_
      refine E.QG.code ?_
      refine E.CG.cond_t rfl ?_
      refine E.CG.seq ?_
      refine E.CG.list ?_
      refine E.GL.run rfl rfl rfl (E.Runs.assign rfl rfl) ?_
      refine E.GL.done ?_
      refine E.QG.code ?_
      refine E.CG.ret ?_
      refine E.QG.pass_ret ?_
      exact E.QG.result rfl rfl ⟨by rw [checkE_no (fun k => h12 k.1.2.1)], L⟩
  · refine E.GL.st rfl rfl rfl (E.ST.call rfl ent65 (E.evc rfl (E.evc rfl (E.evc rfl E.evn))) ((span_o M.fl M.fh 0 400 false (iff_of_false Bool.false_ne_true h7) _).mono ?_))
    rintro e w7 ⟨rfl, l7⟩
    refine ⟨_, rfl, ?_⟩
    replace b1 := blk_below b1 l7
    replace L := below_step L l7
    refine E.GL.run rfl rfl rfl (E.Runs.not rfl rfl) ?_
    refine E.GL.run rfl rfl rfl (E.Runs.move rfl rfl) ?_
    refine E.GL.skip rfl rfl rfl ?_
    refine E.GL.skip rfl rfl rfl ?_
    refine E.GL.skip rfl rfl rfl ?_
    refine E.GL.skip rfl rfl rfl ?_
    refine E.GL.run rfl rfl rfl (E.Runs.pick_t rfl rfl rfl) ?_
    refine E.GL.run rfl rfl rfl (E.Runs.move rfl rfl) ?_
    refine E.GL.skip rfl rfl rfl ?_
    refine E.GL.skip rfl rfl rfl ?_
    refine E.GL.skip rfl rfl rfl ?_
    refine E.GL.skip rfl rfl rfl ?_
    refine E.GL.run rfl rfl rfl (E.Runs.pick_t rfl rfl rfl) ?_
    refine E.GL.run rfl rfl rfl (E.Runs.move rfl rfl) ?_
    refine E.GL.skip rfl rfl rfl ?_
    refine E.GL.skip rfl rfl rfl ?_
    refine E.GL.skip rfl rfl rfl ?_
    refine E.GL.skip rfl rfl rfl ?_
    refine E.GL.run rfl rfl rfl (E.Runs.pick_t rfl rfl rfl) ?_
    refine E.GL.run rfl rfl rfl (E.Runs.move rfl rfl) ?_
    refine E.GL.skip rfl rfl rfl ?_
    refine E.GL.skip rfl rfl rfl ?_
    refine E.GL.skip rfl rfl rfl ?_
    refine E.GL.skip rfl rfl rfl ?_
    refine E.GL.run rfl rfl rfl (E.Runs.pick_t rfl rfl rfl) ?_
    refine E.GL.run rfl rfl rfl (E.Runs.move rfl rfl) ?_
    refine E.GL.skip rfl rfl rfl ?_
    refine E.GL.skip rfl rfl rfl ?_
    refine E.GL.skip rfl rfl rfl ?_
    refine E.GL.skip rfl rfl rfl ?_
    refine E.GL.run rfl rfl rfl (E.Runs.pick_t rfl rfl rfl) ?_
    refine E.GL.done ?_
    refine E.QG.code ?_
    refine E.CG.cond_t rfl ?_
    refine E.CG.seq ?_
    refine E.CG.list ?_
    refine E.GL.run rfl rfl rfl (E.Runs.assign rfl rfl) ?_
    refine E.GL.done ?_
    refine E.QG.code ?_
    refine E.CG.ret ?_
    refine E.QG.pass_ret ?_
    exact E.QG.result rfl rfl ⟨by rw [checkE_no (fun k => h7 k.1.1)], L⟩

set_option maxRecDepth 100000 in
set_option maxHeartbeats 8000000 in

theorem check_r (M : Lm) (A : Option Addr) (c : Nat) (w : World) (hr : Kd.C k64 w A M.gs.length M.gs) (hn : M.gs.length ≤ 1000000) :
    Calls Try.prog 40 #[lv M A c] w fun e w' => e = .returned (.int .i64 (checkE M)) ∧ Below w.heap.size w w' := by
  have hu3 := Try.underlying3
  have hu23 := Try.underlying23
  have hu24 := Try.underlying24
  have hu26 := Try.underlying26
  have hu64 := Try.underlying64
  obtain ⟨z3, o3⟩ := info_some info3s (by decide)
  obtain ⟨z23, o23⟩ := info_some info23s (by decide)
  obtain ⟨z24, o24⟩ := info_some info24s (by decide)
  obtain ⟨z64, o64⟩ := info_some info64s (by decide)
  refine E.enter (N := 68) Try.func40 rfl Try.ntmps40 (args := [lv M A c]) (by simp) ?_
  have L := Below.refl w.heap.size w
  refine E.CG.seq ?_
  refine E.CG.list ?_
  refine E.GL.st rfl rfl rfl (E.ST.box rfl rfl fun g1 w1 e1 b1 l1 => ?_)
  have h1_L : w.heap.size ≤ g1 := by rw [e1]; exact L.size
  replace L := below_step L l1
  refine E.GL.run rfl rfl rfl (E.Runs.assign rfl rfl) ?_
  refine E.GL.done ?_
  refine E.QG.code ?_
  refine E.CG.seq ?_
  refine E.CG.seq ?_
  refine E.CG.list ?_
  refine E.GL.run rfl rfl rfl (E.Runs.fieldAddr rfl rfl hu26 rfl (by assumption) rfl) ?_
  refine E.GL.run rfl rfl rfl (E.Runs.loads (cs := [.int .i64 M.fl, .int .i64 M.fh]) rfl rfl hu23 rfl info23s (cells2 b1 0 rfl rfl)) ?_
  by_cases h7 : spanR M.fl M.fh 0 400
  · refine E.GL.st rfl rfl rfl (E.ST.call rfl ent66 (E.evc rfl (E.evc rfl E.evn)) ((span_r M.fl M.fh 400 true (iff_of_true rfl h7) _).mono ?_))
    rintro e w7 ⟨rfl, l7⟩
    refine ⟨_, rfl, ?_⟩
    replace b1 := blk_below b1 l7
    replace L := below_step L l7
    refine E.GL.run rfl rfl rfl (E.Runs.not rfl rfl) ?_
    refine E.GL.run rfl rfl rfl (E.Runs.move rfl rfl) ?_
    refine E.GL.run rfl rfl rfl (E.Runs.fieldAddr rfl rfl hu26 rfl (by assumption) rfl) ?_
    refine E.GL.run rfl rfl rfl (E.Runs.loads (cs := [.int .i64 M.al, .int .i64 M.ah]) rfl rfl hu23 rfl info23s (cells2 b1 2 rfl rfl)) ?_
    by_cases h12 : spanR M.al M.ah 0 9
    · refine E.GL.st rfl rfl rfl (E.ST.call rfl ent66 (E.evc rfl (E.evc rfl E.evn)) ((span_r M.al M.ah 9 true (iff_of_true rfl h12) _).mono ?_))
      rintro e w12 ⟨rfl, l12⟩
      refine ⟨_, rfl, ?_⟩
      replace b1 := blk_below b1 l12
      replace L := below_step L l12
      refine E.GL.run rfl rfl rfl (E.Runs.not rfl rfl) ?_
      refine E.GL.run rfl rfl rfl (E.Runs.pick_f rfl rfl rfl) ?_
      refine E.GL.run rfl rfl rfl (E.Runs.move rfl rfl) ?_
      refine E.GL.run rfl rfl rfl (E.Runs.fieldAddr rfl rfl hu26 rfl (by assumption) rfl) ?_
      refine E.GL.run rfl rfl rfl (E.Runs.loads (cs := [.int .i64 M.nl, .int .i64 M.nh]) rfl rfl hu23 rfl info23s (cells2 b1 4 rfl rfl)) ?_
      by_cases h18 : spanR M.nl M.nh 0 400
      · refine E.GL.st rfl rfl rfl (E.ST.call rfl ent66 (E.evc rfl (E.evc rfl E.evn)) ((span_r M.nl M.nh 400 true (iff_of_true rfl h18) _).mono ?_))
        rintro e w18 ⟨rfl, l18⟩
        refine ⟨_, rfl, ?_⟩
        replace b1 := blk_below b1 l18
        replace L := below_step L l18
        refine E.GL.run rfl rfl rfl (E.Runs.not rfl rfl) ?_
        refine E.GL.run rfl rfl rfl (E.Runs.pick_f rfl rfl rfl) ?_
        refine E.GL.run rfl rfl rfl (E.Runs.move rfl rfl) ?_
        refine E.GL.run rfl rfl rfl (E.Runs.fieldAddr rfl rfl hu26 rfl (by assumption) rfl) ?_
        refine E.GL.run rfl rfl rfl (E.Runs.load rfl rfl hu3 (by first | assumption | exact E.blkc (by assumption) rfl | exact pw_cell_below L (by assumption))) ?_
        by_cases h24 : inR M.ra 0 40
        · refine E.GL.st rfl rfl rfl (E.ST.call rfl ent56 (E.evc rfl (E.evc rfl (E.evc rfl E.evn))) ((within_r M.ra 0 40 true (iff_of_true rfl h24) _).mono ?_))
          rintro e w24 ⟨rfl, l24⟩
          refine ⟨_, rfl, ?_⟩
          replace b1 := blk_below b1 l24
          replace L := below_step L l24
          refine E.GL.run rfl rfl rfl (E.Runs.not rfl rfl) ?_
          refine E.GL.run rfl rfl rfl (E.Runs.pick_f rfl rfl rfl) ?_
          refine E.GL.run rfl rfl rfl (E.Runs.move rfl rfl) ?_
          refine E.GL.run rfl rfl rfl (E.Runs.fieldAddr rfl rfl hu26 rfl (by assumption) rfl) ?_
          refine E.GL.run rfl rfl rfl (E.Runs.load1 rfl rfl hu24 rfl (by first | assumption | exact E.blkc (by assumption) rfl | exact pw_cell_below L (by assumption))) ?_
          refine E.GL.run rfl rfl rfl (E.Runs.len rfl rfl hu24) ?_
          refine E.GL.cmp rfl rfl rfl (fun _ h => (E.Runs.gtr rfl rfl rfl h)) (fun h31 => ?_) (fun h31 => ?_)
          · refine E.GL.run rfl rfl rfl (E.Runs.pick_f rfl rfl rfl) ?_
            refine E.GL.run rfl rfl rfl (E.Runs.move rfl rfl) ?_
            refine E.GL.skip rfl rfl rfl ?_
            refine E.GL.skip rfl rfl rfl ?_
            refine E.GL.skip rfl rfl rfl ?_
            refine E.GL.skip rfl rfl rfl ?_
            refine E.GL.run rfl rfl rfl (E.Runs.pick_t rfl rfl rfl) ?_
            refine E.GL.done ?_
            refine E.QG.code ?_
            refine E.CG.cond_t rfl ?_
            refine E.CG.seq ?_
            refine E.CG.list ?_
            refine E.GL.run rfl rfl rfl (E.Runs.assign rfl rfl) ?_
            refine E.GL.done ?_
            refine E.QG.code ?_
            refine E.CG.ret ?_
            refine E.QG.pass_ret ?_
            exact E.QG.result rfl rfl ⟨by rw [checkE_no (fun k => by have := k.1.2.2.2.2.1; omega)], L⟩
          · refine E.GL.run rfl rfl rfl (E.Runs.pick_f rfl rfl rfl) ?_
            refine E.GL.run rfl rfl rfl (E.Runs.move rfl rfl) ?_
            refine E.GL.run rfl rfl rfl (E.Runs.fieldAddr rfl rfl hu26 rfl (by assumption) rfl) ?_
            refine E.GL.run rfl rfl rfl (E.Runs.load rfl rfl hu3 (by first | assumption | exact E.blkc (by assumption) rfl | exact pw_cell_below L (by assumption))) ?_
            by_cases h36 : inR M.wr 0 3
            · refine E.GL.st rfl rfl rfl (E.ST.call rfl ent56 (E.evc rfl (E.evc rfl (E.evc rfl E.evn))) ((within_r M.wr 0 3 true (iff_of_true rfl h36) _).mono ?_))
              rintro e w36 ⟨rfl, l36⟩
              refine ⟨_, rfl, ?_⟩
              replace b1 := blk_below b1 l36
              replace L := below_step L l36
              refine E.GL.run rfl rfl rfl (E.Runs.not rfl rfl) ?_
              refine E.GL.run rfl rfl rfl (E.Runs.pick_f rfl rfl rfl) ?_
              refine E.GL.done ?_
              refine E.QG.code ?_
              refine E.CG.cond_f rfl ?_
              refine E.CG.skip ?_
              refine E.QG.code ?_
              refine E.CG.seq ?_
              refine E.CG.seq ?_
              refine E.CG.list ?_
              refine E.GL.run rfl rfl rfl (E.Runs.assign rfl rfl) ?_
              refine E.GL.done ?_
              refine E.QG.code ?_
              refine E.CG.block ?_
              have s4_b1 := b1
              have s4_L := L
              refine E.CG.loop (fun (i : Nat) => [(1, .pointer (some ⟨g1, 0, none⟩)), (3, .int .i64 i)]) (fun i w' => i ≤ M.gs.length ∧ w'.heap[g1]? = some (.cells #[.int .i64 M.fl, .int .i64 M.fh, .int .i64 M.al, .int .i64 M.ah, .int .i64 M.nl, .int .i64 M.nh, .int .i64 M.ra, .slice A M.gs.length c, .int .i64 M.wr] 26 (0, 0)) ∧ Below w.heap.size w w' ∧ ∀ k, k < i → ∀ g, M.gs[k]? = some g → GaugeOk g) (fun i => M.gs.length - i) 0 (E.subc rfl (E.subc rfl (E.subn))) ⟨Nat.zero_le _, b1, L, fun k hk => by omega⟩ ?_
              rintro i w4 ⟨hi, b1, L, hok⟩
              refine E.CG.seq ?_
              refine E.CG.seq ?_
              refine E.CG.list ?_
              refine E.GL.run rfl rfl rfl (E.Runs.move rfl rfl) ?_
              refine E.GL.run rfl rfl rfl (E.Runs.fieldAddr rfl rfl hu26 rfl (by assumption) rfl) ?_
              refine E.GL.run rfl rfl rfl (E.Runs.load1 rfl rfl hu24 rfl (by first | assumption | exact E.blkc (by assumption) rfl | exact pw_cell_below L (by assumption))) ?_
              refine E.GL.run rfl rfl rfl (E.Runs.len rfl rfl hu24) ?_
              refine E.GL.cmp rfl rfl rfl (fun _ h => (E.Runs.lss rfl rfl rfl h)) (fun h43 => ?_) (fun h43 => ?_)
              · obtain ⟨g, hg⟩ : ∃ g, M.gs[i]? = some g := ⟨_, List.getElem?_eq_getElem (by omega)⟩
                obtain ⟨ad, eA, G⟩ := gauge_at hr hg
                refine E.GL.done ?_
                refine E.QG.code ?_
                refine E.CG.cond_t rfl ?_
                refine E.CG.skip ?_
                refine E.QG.code ?_
                refine E.CG.seq ?_
                refine E.CG.block ?_
                refine E.CG.seq ?_
                refine E.CG.list ?_
                refine E.GL.run rfl rfl rfl (E.Runs.fieldAddr rfl rfl hu26 rfl (by assumption) rfl) ?_
                refine E.GL.run rfl rfl rfl (E.Runs.load1 rfl rfl hu24 rfl (by first | assumption | exact E.blkc (by assumption) rfl | exact pw_cell_below L (by assumption))) ?_
                refine E.GL.run rfl rfl rfl (E.Runs.move rfl rfl) ?_
                refine E.GL.run rfl rfl rfl (E.Runs.indexAddrA rfl rfl rfl hu24 (by assumption) (by assumption) (by assumption) (by first | rfl | assumption) rfl) ?_
                refine E.GL.run rfl rfl rfl (E.Runs.loads (cs := [.int .i64 g.f0, .int .i64 g.f1, .int .i64 g.f2]) rfl rfl hu64 rfl info64s ((G.below L).cells)) ?_
                refine E.GL.st rfl rfl rfl (E.ST.alloc rfl info64z fun g4 w4 e4 b4 l4 => ?_)
                have h4_L : w.heap.size ≤ g4 := by rw [e4]; exact L.size
                have n4_b1 : g1 ≠ g4 := by have := blk_lt b1; omega
                replace b1 := blk_below b1 l4
                replace L := below_step L l4
                refine E.GL.store_whole rfl rfl rfl rfl rfl b4 rfl info64s (three_one _ _ _) fun wS6_6 c4 lS6_6 => ?_
                replace b1 := blk_grown b1 lS6_6 (E.nes (by first | assumption | exact Ne.symm (by assumption)))
                replace L := E.below_own L h4_L lS6_6
                replace b4 := c4
                clear c4
                refine E.GL.done ?_
                refine E.QG.code ?_
                refine E.CG.seq ?_
                refine E.CG.list ?_
                refine E.GL.run rfl rfl rfl (E.Runs.fieldAddr rfl rfl hu64 rfl (by assumption) rfl) ?_
                refine E.GL.run rfl rfl rfl (E.Runs.load rfl rfl hu3 (by first | assumption | exact E.blkc (by assumption) rfl | exact pw_cell_below L (by assumption))) ?_
                by_cases h53 : inR g.f0 0 40
                · refine E.GL.st rfl rfl rfl (E.ST.call rfl ent56 (E.evc rfl (E.evc rfl (E.evc rfl E.evn))) ((within_r g.f0 0 40 true (iff_of_true rfl h53) _).mono ?_))
                  rintro e w53 ⟨rfl, l53⟩
                  refine ⟨_, rfl, ?_⟩
                  replace b1 := blk_below b1 l53
                  replace b4 := blk_below b4 l53
                  replace L := below_step L l53
                  refine E.GL.run rfl rfl rfl (E.Runs.not rfl rfl) ?_
                  refine E.GL.run rfl rfl rfl (E.Runs.move rfl rfl) ?_
                  refine E.GL.run rfl rfl rfl (E.Runs.fieldAddr rfl rfl hu64 rfl (by assumption) rfl) ?_
                  refine E.GL.run rfl rfl rfl (E.Runs.load rfl rfl hu3 (by first | assumption | exact E.blkc (by assumption) rfl | exact pw_cell_below L (by assumption))) ?_
                  refine E.GL.run rfl rfl rfl (E.Runs.fieldAddr rfl rfl hu64 rfl (by assumption) rfl) ?_
                  refine E.GL.run rfl rfl rfl (E.Runs.load rfl rfl hu3 (by first | assumption | exact E.blkc (by assumption) rfl | exact pw_cell_below L (by assumption))) ?_
                  by_cases h60 : inR g.f1 (-400) g.f2
                  · refine E.GL.st rfl rfl rfl (E.ST.call rfl ent56 (E.evc rfl (E.evc rfl (E.evc rfl E.evn))) ((within_r g.f1 (-400) g.f2 true (iff_of_true rfl h60) _).mono ?_))
                    rintro e w60 ⟨rfl, l60⟩
                    refine ⟨_, rfl, ?_⟩
                    replace b1 := blk_below b1 l60
                    replace b4 := blk_below b4 l60
                    replace L := below_step L l60
                    refine E.GL.run rfl rfl rfl (E.Runs.not rfl rfl) ?_
                    refine E.GL.run rfl rfl rfl (E.Runs.pick_f rfl rfl rfl) ?_
                    refine E.GL.run rfl rfl rfl (E.Runs.move rfl rfl) ?_
                    refine E.GL.run rfl rfl rfl (E.Runs.fieldAddr rfl rfl hu64 rfl (by assumption) rfl) ?_
                    refine E.GL.run rfl rfl rfl (E.Runs.load rfl rfl hu3 (by first | assumption | exact E.blkc (by assumption) rfl | exact pw_cell_below L (by assumption))) ?_
                    refine E.GL.cmp rfl rfl rfl (fun _ h => (E.Runs.gtr rfl rfl rfl h)) (fun h66 => ?_) (fun h66 => ?_)
                    · refine E.GL.run rfl rfl rfl (E.Runs.pick_f rfl rfl rfl) ?_
                      refine E.GL.done ?_
                      refine E.QG.code ?_
                      refine E.CG.cond_t rfl ?_
                      refine E.CG.seq ?_
                      refine E.CG.list ?_
                      refine E.GL.run rfl rfl rfl (E.Runs.assign rfl rfl) ?_
                      refine E.GL.done ?_
                      refine E.QG.code ?_
                      refine E.CG.ret ?_
                      refine E.QG.block_ret ?_
                      refine E.QG.pass_ret ?_
                      refine E.QG.pass_ret ?_
                      refine E.QG.block_ret ?_
                      refine E.QG.pass_ret ?_
                      exact E.QG.result rfl rfl ⟨by rw [checkE_no (bad_at hg (fun k => by have := k.2; unfold spanR at this; omega))], L⟩
                    · refine E.GL.run rfl rfl rfl (E.Runs.pick_f rfl rfl rfl) ?_
                      refine E.GL.done ?_
                      refine E.QG.code ?_
                      refine E.CG.cond_f rfl ?_
                      refine E.CG.skip ?_
                      refine E.QG.block_normal ?_
                      refine E.QG.code ?_
                      refine E.CG.list ?_
                      refine E.GL.run rfl rfl rfl (E.Runs.move rfl rfl) ?_
                      refine E.GL.run rfl rfl rfl (E.Runs.add rfl rfl rfl (IntWalk.i64_in _ (by omega))) ?_
                      refine E.GL.run rfl rfl rfl (E.Runs.assign rfl rfl) ?_
                      refine E.GL.done ?_
                      exact E.QG.round (i + 1) (E.subc rfl (E.subc rfl E.subn)) ⟨by omega, b1, L, one_more hok hg ⟨h53, by unfold inR at h60; unfold spanR; omega⟩⟩ (by omega)
                  · refine E.GL.st rfl rfl rfl (E.ST.call rfl ent56 (E.evc rfl (E.evc rfl (E.evc rfl E.evn))) ((within_r g.f1 (-400) g.f2 false (iff_of_false Bool.false_ne_true h60) _).mono ?_))
                    rintro e w60 ⟨rfl, l60⟩
                    refine ⟨_, rfl, ?_⟩
                    replace b1 := blk_below b1 l60
                    replace b4 := blk_below b4 l60
                    replace L := below_step L l60
                    refine E.GL.run rfl rfl rfl (E.Runs.not rfl rfl) ?_
                    refine E.GL.run rfl rfl rfl (E.Runs.pick_f rfl rfl rfl) ?_
                    refine E.GL.run rfl rfl rfl (E.Runs.move rfl rfl) ?_
                    refine E.GL.skip rfl rfl rfl ?_
                    refine E.GL.skip rfl rfl rfl ?_
                    refine E.GL.skip rfl rfl rfl ?_
                    refine E.GL.run rfl rfl rfl (E.Runs.pick_t rfl rfl rfl) ?_
                    refine E.GL.done ?_
                    refine E.QG.code ?_
                    refine E.CG.cond_t rfl ?_
                    refine E.CG.seq ?_
                    refine E.CG.list ?_
                    refine E.GL.run rfl rfl rfl (E.Runs.assign rfl rfl) ?_
                    refine E.GL.done ?_
                    refine E.QG.code ?_
                    refine E.CG.ret ?_
                    refine E.QG.block_ret ?_
                    refine E.QG.pass_ret ?_
                    refine E.QG.pass_ret ?_
                    refine E.QG.block_ret ?_
                    refine E.QG.pass_ret ?_
                    exact E.QG.result rfl rfl ⟨by rw [checkE_no (bad_at hg (fun k => h60 (by have := k.2; unfold spanR at this; unfold inR; omega)))], L⟩
                · refine E.GL.st rfl rfl rfl (E.ST.call rfl ent56 (E.evc rfl (E.evc rfl (E.evc rfl E.evn))) ((within_r g.f0 0 40 false (iff_of_false Bool.false_ne_true h53) _).mono ?_))
                  rintro e w53 ⟨rfl, l53⟩
                  refine ⟨_, rfl, ?_⟩
                  replace b1 := blk_below b1 l53
                  replace b4 := blk_below b4 l53
                  replace L := below_step L l53
                  refine E.GL.run rfl rfl rfl (E.Runs.not rfl rfl) ?_
                  refine E.GL.run rfl rfl rfl (E.Runs.move rfl rfl) ?_
                  refine E.GL.skip rfl rfl rfl ?_
                  refine E.GL.skip rfl rfl rfl ?_
                  refine E.GL.skip rfl rfl rfl ?_
                  refine E.GL.skip rfl rfl rfl ?_
                  refine E.GL.skip rfl rfl rfl ?_
                  refine E.GL.skip rfl rfl rfl ?_
                  refine E.GL.run rfl rfl rfl (E.Runs.pick_t rfl rfl rfl) ?_
                  refine E.GL.run rfl rfl rfl (E.Runs.move rfl rfl) ?_
                  refine E.GL.skip rfl rfl rfl ?_
                  refine E.GL.skip rfl rfl rfl ?_
                  refine E.GL.skip rfl rfl rfl ?_
                  refine E.GL.run rfl rfl rfl (E.Runs.pick_t rfl rfl rfl) ?_
                  refine E.GL.done ?_
                  refine E.QG.code ?_
                  refine E.CG.cond_t rfl ?_
                  refine E.CG.seq ?_
                  refine E.CG.list ?_
                  refine E.GL.run rfl rfl rfl (E.Runs.assign rfl rfl) ?_
                  refine E.GL.done ?_
                  refine E.QG.code ?_
                  refine E.CG.ret ?_
                  refine E.QG.block_ret ?_
                  refine E.QG.pass_ret ?_
                  refine E.QG.pass_ret ?_
                  refine E.QG.block_ret ?_
                  refine E.QG.pass_ret ?_
                  exact E.QG.result rfl rfl ⟨by rw [checkE_no (bad_at hg (fun k => h53 k.1))], L⟩
              · refine E.GL.done ?_
                refine E.QG.code ?_
                refine E.CG.cond_f rfl ?_
                refine E.CG.exit ?_
                refine E.QG.pass_exit ?_
                refine E.QG.pass_exit ?_
                refine E.QG.block_here ?_
                refine E.QG.code ?_
                refine E.CG.seq ?_
                refine E.CG.list ?_
                refine E.GL.run rfl rfl rfl (E.Runs.assign rfl rfl) ?_
                refine E.GL.done ?_
                refine E.QG.code ?_
                refine E.CG.ret ?_
                exact E.QG.result rfl rfl ⟨by rw [checkE_yes ⟨⟨h7, h18, h12, h24, by omega, h36⟩, all_of hok (by omega)⟩], L⟩
            · refine E.GL.st rfl rfl rfl (E.ST.call rfl ent56 (E.evc rfl (E.evc rfl (E.evc rfl E.evn))) ((within_r M.wr 0 3 false (iff_of_false Bool.false_ne_true h36) _).mono ?_))
              rintro e w36 ⟨rfl, l36⟩
              refine ⟨_, rfl, ?_⟩
              replace b1 := blk_below b1 l36
              replace L := below_step L l36
              refine E.GL.run rfl rfl rfl (E.Runs.not rfl rfl) ?_
              refine E.GL.run rfl rfl rfl (E.Runs.pick_f rfl rfl rfl) ?_
              refine E.GL.done ?_
              refine E.QG.code ?_
              refine E.CG.cond_t rfl ?_
              refine E.CG.seq ?_
              refine E.CG.list ?_
              refine E.GL.run rfl rfl rfl (E.Runs.assign rfl rfl) ?_
              refine E.GL.done ?_
              refine E.QG.code ?_
              refine E.CG.ret ?_
              refine E.QG.pass_ret ?_
              exact E.QG.result rfl rfl ⟨by rw [checkE_no (fun k => h36 k.1.2.2.2.2.2)], L⟩
        · refine E.GL.st rfl rfl rfl (E.ST.call rfl ent56 (E.evc rfl (E.evc rfl (E.evc rfl E.evn))) ((within_r M.ra 0 40 false (iff_of_false Bool.false_ne_true h24) _).mono ?_))
          rintro e w24 ⟨rfl, l24⟩
          refine ⟨_, rfl, ?_⟩
          replace b1 := blk_below b1 l24
          replace L := below_step L l24
          refine E.GL.run rfl rfl rfl (E.Runs.not rfl rfl) ?_
          refine E.GL.run rfl rfl rfl (E.Runs.pick_f rfl rfl rfl) ?_
          refine E.GL.run rfl rfl rfl (E.Runs.move rfl rfl) ?_
          refine E.GL.skip rfl rfl rfl ?_
          refine E.GL.skip rfl rfl rfl ?_
          refine E.GL.skip rfl rfl rfl ?_
          refine E.GL.skip rfl rfl rfl ?_
          refine E.GL.run rfl rfl rfl (E.Runs.pick_t rfl rfl rfl) ?_
          refine E.GL.run rfl rfl rfl (E.Runs.move rfl rfl) ?_
          refine E.GL.skip rfl rfl rfl ?_
          refine E.GL.skip rfl rfl rfl ?_
          refine E.GL.skip rfl rfl rfl ?_
          refine E.GL.skip rfl rfl rfl ?_
          refine E.GL.run rfl rfl rfl (E.Runs.pick_t rfl rfl rfl) ?_
          refine E.GL.done ?_
          refine E.QG.code ?_
          refine E.CG.cond_t rfl ?_
          refine E.CG.seq ?_
          refine E.CG.list ?_
          refine E.GL.run rfl rfl rfl (E.Runs.assign rfl rfl) ?_
          refine E.GL.done ?_
          refine E.QG.code ?_
          refine E.CG.ret ?_
          refine E.QG.pass_ret ?_
          exact E.QG.result rfl rfl ⟨by rw [checkE_no (fun k => h24 k.1.2.2.2.1)], L⟩
      · refine E.GL.st rfl rfl rfl (E.ST.call rfl ent66 (E.evc rfl (E.evc rfl E.evn)) ((span_r M.nl M.nh 400 false (iff_of_false Bool.false_ne_true h18) _).mono ?_))
        rintro e w18 ⟨rfl, l18⟩
        refine ⟨_, rfl, ?_⟩
        replace b1 := blk_below b1 l18
        replace L := below_step L l18
        refine E.GL.run rfl rfl rfl (E.Runs.not rfl rfl) ?_
        refine E.GL.run rfl rfl rfl (E.Runs.pick_f rfl rfl rfl) ?_
        refine E.GL.run rfl rfl rfl (E.Runs.move rfl rfl) ?_
        refine E.GL.skip rfl rfl rfl ?_
        refine E.GL.skip rfl rfl rfl ?_
        refine E.GL.skip rfl rfl rfl ?_
        refine E.GL.skip rfl rfl rfl ?_
        refine E.GL.run rfl rfl rfl (E.Runs.pick_t rfl rfl rfl) ?_
        refine E.GL.run rfl rfl rfl (E.Runs.move rfl rfl) ?_
        refine E.GL.skip rfl rfl rfl ?_
        refine E.GL.skip rfl rfl rfl ?_
        refine E.GL.skip rfl rfl rfl ?_
        refine E.GL.skip rfl rfl rfl ?_
        refine E.GL.run rfl rfl rfl (E.Runs.pick_t rfl rfl rfl) ?_
        refine E.GL.run rfl rfl rfl (E.Runs.move rfl rfl) ?_
        refine E.GL.skip rfl rfl rfl ?_
        refine E.GL.skip rfl rfl rfl ?_
        refine E.GL.skip rfl rfl rfl ?_
        refine E.GL.skip rfl rfl rfl ?_
        refine E.GL.run rfl rfl rfl (E.Runs.pick_t rfl rfl rfl) ?_
        refine E.GL.done ?_
        refine E.QG.code ?_
        refine E.CG.cond_t rfl ?_
        refine E.CG.seq ?_
        refine E.CG.list ?_
        refine E.GL.run rfl rfl rfl (E.Runs.assign rfl rfl) ?_
        refine E.GL.done ?_
        refine E.QG.code ?_
        refine E.CG.ret ?_
        refine E.QG.pass_ret ?_
        exact E.QG.result rfl rfl ⟨by rw [checkE_no (fun k => h18 k.1.2.1)], L⟩
    · refine E.GL.st rfl rfl rfl (E.ST.call rfl ent66 (E.evc rfl (E.evc rfl E.evn)) ((span_r M.al M.ah 9 false (iff_of_false Bool.false_ne_true h12) _).mono ?_))
      rintro e w12 ⟨rfl, l12⟩
      refine ⟨_, rfl, ?_⟩
      replace b1 := blk_below b1 l12
      replace L := below_step L l12
      refine E.GL.run rfl rfl rfl (E.Runs.not rfl rfl) ?_
      refine E.GL.run rfl rfl rfl (E.Runs.pick_f rfl rfl rfl) ?_
      refine E.GL.run rfl rfl rfl (E.Runs.move rfl rfl) ?_
      refine E.GL.skip rfl rfl rfl ?_
      refine E.GL.skip rfl rfl rfl ?_
      refine E.GL.skip rfl rfl rfl ?_
      refine E.GL.skip rfl rfl rfl ?_
      refine E.GL.run rfl rfl rfl (E.Runs.pick_t rfl rfl rfl) ?_
      refine E.GL.run rfl rfl rfl (E.Runs.move rfl rfl) ?_
      refine E.GL.skip rfl rfl rfl ?_
      refine E.GL.skip rfl rfl rfl ?_
      refine E.GL.skip rfl rfl rfl ?_
      refine E.GL.skip rfl rfl rfl ?_
      refine E.GL.run rfl rfl rfl (E.Runs.pick_t rfl rfl rfl) ?_
      refine E.GL.run rfl rfl rfl (E.Runs.move rfl rfl) ?_
      refine E.GL.skip rfl rfl rfl ?_
      refine E.GL.skip rfl rfl rfl ?_
      refine E.GL.skip rfl rfl rfl ?_
      refine E.GL.skip rfl rfl rfl ?_
      refine E.GL.run rfl rfl rfl (E.Runs.pick_t rfl rfl rfl) ?_
      refine E.GL.run rfl rfl rfl (E.Runs.move rfl rfl) ?_
      refine E.GL.skip rfl rfl rfl ?_
      refine E.GL.skip rfl rfl rfl ?_
      refine E.GL.skip rfl rfl rfl ?_
      refine E.GL.skip rfl rfl rfl ?_
      refine E.GL.run rfl rfl rfl (E.Runs.pick_t rfl rfl rfl) ?_
      refine E.GL.done ?_
      refine E.QG.code ?_
      refine E.CG.cond_t rfl ?_
      refine E.CG.seq ?_
      refine E.CG.list ?_
      refine E.GL.run rfl rfl rfl (E.Runs.assign rfl rfl) ?_
      refine E.GL.done ?_
      refine E.QG.code ?_
      refine E.CG.ret ?_
      refine E.QG.pass_ret ?_
      exact E.QG.result rfl rfl ⟨by rw [checkE_no (fun k => h12 k.1.2.2.1)], L⟩
  · refine E.GL.st rfl rfl rfl (E.ST.call rfl ent66 (E.evc rfl (E.evc rfl E.evn)) ((span_r M.fl M.fh 400 false (iff_of_false Bool.false_ne_true h7) _).mono ?_))
    rintro e w7 ⟨rfl, l7⟩
    refine ⟨_, rfl, ?_⟩
    replace b1 := blk_below b1 l7
    replace L := below_step L l7
    refine E.GL.run rfl rfl rfl (E.Runs.not rfl rfl) ?_
    refine E.GL.run rfl rfl rfl (E.Runs.move rfl rfl) ?_
    refine E.GL.skip rfl rfl rfl ?_
    refine E.GL.skip rfl rfl rfl ?_
    refine E.GL.skip rfl rfl rfl ?_
    refine E.GL.skip rfl rfl rfl ?_
    refine E.GL.run rfl rfl rfl (E.Runs.pick_t rfl rfl rfl) ?_
    refine E.GL.run rfl rfl rfl (E.Runs.move rfl rfl) ?_
    refine E.GL.skip rfl rfl rfl ?_
    refine E.GL.skip rfl rfl rfl ?_
    refine E.GL.skip rfl rfl rfl ?_
    refine E.GL.skip rfl rfl rfl ?_
    refine E.GL.run rfl rfl rfl (E.Runs.pick_t rfl rfl rfl) ?_
    refine E.GL.run rfl rfl rfl (E.Runs.move rfl rfl) ?_
    refine E.GL.skip rfl rfl rfl ?_
    refine E.GL.skip rfl rfl rfl ?_
    refine E.GL.skip rfl rfl rfl ?_
    refine E.GL.skip rfl rfl rfl ?_
    refine E.GL.run rfl rfl rfl (E.Runs.pick_t rfl rfl rfl) ?_
    refine E.GL.run rfl rfl rfl (E.Runs.move rfl rfl) ?_
    refine E.GL.skip rfl rfl rfl ?_
    refine E.GL.skip rfl rfl rfl ?_
    refine E.GL.skip rfl rfl rfl ?_
    refine E.GL.skip rfl rfl rfl ?_
    refine E.GL.run rfl rfl rfl (E.Runs.pick_t rfl rfl rfl) ?_
    refine E.GL.run rfl rfl rfl (E.Runs.move rfl rfl) ?_
    refine E.GL.skip rfl rfl rfl ?_
    refine E.GL.skip rfl rfl rfl ?_
    refine E.GL.skip rfl rfl rfl ?_
    refine E.GL.skip rfl rfl rfl ?_
    refine E.GL.run rfl rfl rfl (E.Runs.pick_t rfl rfl rfl) ?_
    refine E.GL.done ?_
    refine E.QG.code ?_
    refine E.CG.cond_t rfl ?_
    refine E.CG.seq ?_
    refine E.CG.list ?_
    refine E.GL.run rfl rfl rfl (E.Runs.assign rfl rfl) ?_
    refine E.GL.done ?_
    refine E.QG.code ?_
    refine E.CG.ret ?_
    refine E.QG.pass_ret ?_
    exact E.QG.result rfl rfl ⟨by rw [checkE_no (fun k => h7 k.1.1)], L⟩

end Go.Proofs.Ytbajpjnloikpdaa.T
