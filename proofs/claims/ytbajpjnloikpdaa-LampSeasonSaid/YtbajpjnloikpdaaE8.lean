/- More operations for the engine: a slice from a place on, an array's element; the tail of a row. -/
import Derived.Test.YtbajpjnloikpdaaE7
namespace Go.Proofs.Ytbajpjnloikpdaa.E
open Go.RowKit Go.Proofs.YtbajpjnloikpdaaW.PrintWords Go.Proofs.YtbajpjnloikpdaaW.PrintMore
set_option linter.unusedVariables false
set_option linter.unusedSimpArgs false
section
variable {P : Program} {N : Nat} {w : World} {env : Env} {o : Oper} {Q : Exit → Act → World → Prop}
/-- The end of a slice. -/
theorem Runs.sliceFrom {t e : TypeId} {x y : Operand} {p q : Option Addr} {n c i sz : Nat} {k : IntKind} (ho : o.op = .slice t x (some y) none none) (hx : Ev env x (.slice p n c)) (hy : Ev env y (.int k i)) (hu : P.underlying t = some (.slice e)) (hz : Sized P e) (hs : P.cellsOf e = sz) (hi : (i : Int) ≤ n) (hn : n ≤ c)
    (hq : (if c = i then p else p.map (·.add (i * sz))) = q) : Runs P N env o w (.slice q (n - i) (c - i)) := fun a w' ha hw => by
  obtain ⟨inf, h1, h2⟩ := hz
  have e1 := ha.eval hx
  have e2 := ha.eval hy
  generalize a.eval = ρ at e1 e2 ⊢
  unfold execOp; rw [ho]
  subst hs
  subst hq
  have h3 : i ≤ n := by omega
  cases p <;> simp [go_sem, e1, e2, Instr.sliceAt, Instr.slice, Instr.sliceBounds, Instr.sliceBound, run_underlying hu, run_sizeOf w' h1, asIntOf, h3, Sem.run_bind]
/-- The address of an array's element. -/
theorem Runs.indexArr {t e : TypeId} {x y : Operand} {p q : Addr} {len : Nat} {k : IntKind} {i : Int} {sz : Nat} (ho : o.op = .indexAddr t x y) (hx : Ev env x (.pointer (some p))) (hy : Ev env y (.int k i)) (hu : P.underlying t = some (.array len e)) (hz : Sized P e) (hs : P.cellsOf e = sz) (h0 : 0 ≤ i) (hl : i < len) (hq : p.add (i.toNat * sz) = q) : Runs P N env o w (.pointer (some q)) := fun a w' ha hw => by
  obtain ⟨inf, h1, h2⟩ := hz
  unfold execOp; rw [ho]; simp only []; rw [ha.eval hx, ha.eval hy]
  subst hq hs
  simp [go_sem, Instr.indexAt, asIntOf, run_underlying hu, run_sizeOf w' h1, h0, hl]
/-- One cell is written. -/
theorem ST.store1 {ty : TypeId} {x y : Operand} {b i : Nat} {k : IntKind} {n : Int} {old : Value} {K : Value → World → Prop} (ho : o.op = .store ty x y) (hz : Sized P ty) (hz1 : P.cellsOf ty = 1) (hx : Ev env x (.pointer (some ⟨b, i, none⟩))) (hy : Ev env y (.int k n))
    (h1 : w.cell? ⟨b, i, none⟩ = some old) (h2 : w.frozen? ⟨b, i, none⟩ = false) (h : K undef (w.setCell ⟨b, i, none⟩ (.int k n))) : ST P Q N env w o K := by
  intro a ha Kc hK
  have hr : (execOp a.eval o).run P w = .ok .skip (w.setCell ⟨b, i, none⟩ (.int k n)) := by
    unfold execOp; rw [ho]; simp only []; rw [ha.eval hx, ha.eval hy]
    obtain ⟨inf, q1, q2⟩ := hz
    simp [go_sem, run_sizeOf w q1, hz1, h1, h2]
  unfold Oper.wp
  rw [hr]
  exact hK _ _ h
end
end Go.Proofs.Ytbajpjnloikpdaa.E
namespace Go.Proofs.YtbajpjnloikpdaaW.PrintWords
/-- The rows behind the first one. -/
theorem Kd.C_tail {α : Type} {d : Kd α} {w : World} {A : Option Addr} {n c : Nat} {x : α} {xs : List α} (h : Kd.C d w A (n + 1) (x :: xs)) (hc : n + 1 ≤ c) : Kd.C d w (if c = 1 then A else A.map (·.add (1 * d.sz))) n xs := by
  obtain ⟨h1, h2, h3⟩ := h
  refine ⟨by simpa using h1, by omega, fun hn => ?_⟩
  obtain ⟨ad, rfl, hr⟩ := h3 (by omega)
  rw [if_neg (by omega)]
  refine ⟨ad.add (1 * d.sz), rfl, fun j p hj => ?_⟩
  obtain ⟨cs, k1, k2, k3⟩ := hr (j + 1) p (by simpa using hj)
  refine ⟨cs, k1, k2, fun i u hu => ?_⟩
  have := k3 i u hu
  rw [← this]
  congr 1
  rw [show (j + 1) * d.sz + i = 1 * d.sz + (j * d.sz + i) by rw [Nat.add_mul]; omega]
  exact add_add _ _ _
end Go.Proofs.YtbajpjnloikpdaaW.PrintWords
