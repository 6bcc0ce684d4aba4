/- What the walks of the laws share: moments and slots as they are read, sizes, how functions are entered. -/
import Derived.Test.YthdbkhdiaehblaaT23
namespace Go.Proofs.Ythdbkhdiaehblaa.T
open Go.RowKit Go.Proofs.YthdbkhdiaehblaaW.PrintWords Go.Proofs.YthdbkhdiaehblaaW.PrintMore
open Go.Proofs.Ythdbkhdiaehblaa.P
set_option linter.unusedVariables false
theorem ten_one (a b c d e f g h i j : Int) : (#[.int .i64 a, .int .i64 b, .int .i64 c, .int .i64 d, .int .i64 e, .int .i64 f, .int .i64 g, .int .i64 h, .int .i64 i, .int .i64 j] : Array Value).all (·.oneCell') = true := by simp [Value.oneCell']
theorem info34s : (Try.prog.info? 34).map (·.size) = some 10 := by kernel_rfl
/-- The cells of a row of moments, at one place. -/
structure MomAt (w : World) (ad : Addr) (k : Nat) (t u : Tm) : Prop where
  c0 : w.cell? (ad.add (k * 10)) = some (.int .i64 t.enter)
  c1 : w.cell? ⟨(ad.add (k * 10)).block, (ad.add (k * 10)).off + 1, none⟩ = some (.int .i64 u.enter)
  c2 : w.cell? ⟨(ad.add (k * 10)).block, (ad.add (k * 10)).off + 2, none⟩ = some (.int .i64 t.seated)
  c3 : w.cell? ⟨(ad.add (k * 10)).block, (ad.add (k * 10)).off + 3, none⟩ = some (.int .i64 u.seated)
  c4 : w.cell? ⟨(ad.add (k * 10)).block, (ad.add (k * 10)).off + 4, none⟩ = some (.int .i64 t.start)
  c5 : w.cell? ⟨(ad.add (k * 10)).block, (ad.add (k * 10)).off + 5, none⟩ = some (.int .i64 u.start)
  c6 : w.cell? ⟨(ad.add (k * 10)).block, (ad.add (k * 10)).off + 6, none⟩ = some (.int .i64 t.empty)
  c7 : w.cell? ⟨(ad.add (k * 10)).block, (ad.add (k * 10)).off + 7, none⟩ = some (.int .i64 u.empty)
  c8 : w.cell? ⟨(ad.add (k * 10)).block, (ad.add (k * 10)).off + 8, none⟩ = some (.int .i64 t.ready)
  c9 : w.cell? ⟨(ad.add (k * 10)).block, (ad.add (k * 10)).off + 9, none⟩ = some (.int .i64 u.ready)
theorem mom_at {H : Hs} {l : List S36} {w : World} {A : Option Addr} (h : Kd.C k34 w A l.length (moments H l)) {i : Nat} {s : S36} {t u : Tm} (T : Told H l i s t u) (hi : i < l.length) : ∃ ad, A = some ad ∧ MomAt w ad i t u := by
  obtain ⟨ad, e, m0, m1, m2, m3, m4, m5, m6, m7, m8, m9⟩ := at_T34 h (i : Int) (by omega) (by omega)
  rw [T.m] at m0 m1 m2 m3 m4 m5 m6 m7 m8 m9
  simp only [Int.toNat_natCast] at m0 m1 m2 m3 m4 m5 m6 m7 m8 m9
  exact ⟨ad, e, m0, m1, m2, m3, m4, m5, m6, m7, m8, m9⟩
theorem MomAt.below {w w' : World} {ad : Addr} {k : Nat} {t u : Tm} (h : MomAt w ad k t u) (hb : Below w.heap.size w w') : MomAt w' ad k t u :=
  ⟨pw_cell_below hb h.c0, pw_cell_below hb h.c1, pw_cell_below hb h.c2, pw_cell_below hb h.c3, pw_cell_below hb h.c4, pw_cell_below hb h.c5, pw_cell_below hb h.c6, pw_cell_below hb h.c7, pw_cell_below hb h.c8, pw_cell_below hb h.c9⟩
/-- Times, for the laws: the moments, ready to be read. -/
theorem times_reads (H : Hs) (l : List S36) (A1 : Option Addr) (c1 : Nat) (w : World) (h : Valid H l) (hr : Kd.C k36 w A1 l.length l) (hc : l.length ≤ c1) :
    Calls Try.prog 15 #[hv H, .slice A1 l.length c1] w fun e w' => ∃ A c, e = .returned (.tuple #[.slice A l.length c, .int .i64 0]) ∧ Kd.C k34 w' A l.length (moments H l) ∧ Below w.heap.size w w' := by
  refine (times_calls H l A1 c1 w h hr hc).mono ?_
  rintro e w' ⟨v, rfl, hR, hb⟩
  obtain ⟨A, c, rfl, h1, h2⟩ := R_ready hR
  rw [moments_length] at h2 ⊢
  exact ⟨A, c, rfl, h2, hb⟩
theorem MomAt.cells {w : World} {ad : Addr} {k : Nat} {t u : Tm} (h : MomAt w ad k t u) (j : Nat) (v : Value) (hv : ([.int .i64 t.enter, .int .i64 u.enter, .int .i64 t.seated, .int .i64 u.seated, .int .i64 t.start, .int .i64 u.start, .int .i64 t.empty, .int .i64 u.empty, .int .i64 t.ready, .int .i64 u.ready] : List Value)[j]? = some v) : w.cell? ((ad.add (k * 10)).add j) = some v := by
  rcases j with _ | _ | _ | _ | _ | _ | _ | _ | _ | _ | j
  · cases hv; exact h.c0
  · cases hv; exact h.c1
  · cases hv; exact h.c2
  · cases hv; exact h.c3
  · cases hv; exact h.c4
  · cases hv; exact h.c5
  · cases hv; exact h.c6
  · cases hv; exact h.c7
  · cases hv; exact h.c8
  · cases hv; exact h.c9
  · simp at hv
theorem mom10 {w : World} {g : Nat} {t u : Tm} (b : w.heap[g]? = some (.cells #[.int .i64 t.enter, .int .i64 u.enter, .int .i64 t.seated, .int .i64 u.seated, .int .i64 t.start, .int .i64 u.start, .int .i64 t.empty, .int .i64 u.empty, .int .i64 t.ready, .int .i64 u.ready] 34 (0, 0))) :
    w.cell? ⟨g, 0, none⟩ = some (.int .i64 t.enter) ∧ w.cell? ⟨g, 1, none⟩ = some (.int .i64 u.enter) ∧ w.cell? ⟨g, 2, none⟩ = some (.int .i64 t.seated) ∧ w.cell? ⟨g, 3, none⟩ = some (.int .i64 u.seated) ∧ w.cell? ⟨g, 4, none⟩ = some (.int .i64 t.start) ∧ w.cell? ⟨g, 5, none⟩ = some (.int .i64 u.start) ∧
    w.cell? ⟨g, 6, none⟩ = some (.int .i64 t.empty) ∧ w.cell? ⟨g, 7, none⟩ = some (.int .i64 u.empty) ∧ w.cell? ⟨g, 8, none⟩ = some (.int .i64 t.ready) ∧ w.cell? ⟨g, 9, none⟩ = some (.int .i64 u.ready) :=
  ⟨blk_cell b 0, blk_cell b 1, blk_cell b 2, blk_cell b 3, blk_cell b 4, blk_cell b 5, blk_cell b 6, blk_cell b 7, blk_cell b 8, blk_cell b 9⟩
theorem info34z : (Try.prog.info? 34).map (·.zero) = some (some (.agg #[(.int .i64 0), (.int .i64 0), (.int .i64 0), (.int .i64 0), (.int .i64 0), (.int .i64 0), (.int .i64 0), (.int .i64 0), (.int .i64 0), (.int .i64 0)])) := by kernel_rfl
end Go.Proofs.Ythdbkhdiaehblaa.T
