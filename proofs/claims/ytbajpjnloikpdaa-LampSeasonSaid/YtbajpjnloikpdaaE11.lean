/- The engine: a variable of one cell that holds a value from its beginning. -/
import Derived.Test.YtbajpjnloikpdaaE10
namespace Go.Proofs.Ytbajpjnloikpdaa.E
open Go.RowKit Go.Proofs.YtbajpjnloikpdaaW.PrintWords Go.Proofs.YtbajpjnloikpdaaW.PrintMore
open Go.Proofs.Ytbajpjnloikpdaa.T
set_option linter.unusedVariables false
section
variable {P : Program} {Q : Exit → Act → World → Prop} {N : Nat} {w : World} {env : Env} {o : Oper}
theorem ST.boxZ {t : TypeId} {x : Operand} {v : Value} {cs : Array Value} {K : Value → World → Prop} (ho : o.op = .box t x) (hx : Ev env x v) (hc : v.cells = cs)
    (h : ∀ g w1, g = w.heap.size → w1.heap[g]? = some (.cells cs t (0, 0)) → Below w.heap.size w w1 → K (.pointer (some ⟨g, 0, none⟩)) w1) : ST P Q N env w o K := by
  refine ST.ev (v := .pointer (some ⟨w.heap.size, 0, none⟩)) (w1 := w.alloc (.cells cs t (0, 0))) (fun a ha => ?_) (h _ _ rfl (blk_new w _) (below_alloc (Below.refl _ _) _))
  subst hc
  unfold execOp; rw [ho]; simp only []; rw [ha.eval hx]
  simp [go_sem]
end
end Go.Proofs.Ytbajpjnloikpdaa.E
