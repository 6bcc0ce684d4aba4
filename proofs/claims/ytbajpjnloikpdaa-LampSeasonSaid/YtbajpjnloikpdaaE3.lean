/- The engine for great frames: regions that draw their order, and call, make or write memory. -/
import Derived.Test.YtbajpjnloikpdaaE2
import Derived.Deep.RegionHeld
namespace Go.Proofs.Ytbajpjnloikpdaa.E
open Go.RowKit Go.Proofs.YtbajpjnloikpdaaW.PrintWords Go.Proofs.YtbajpjnloikpdaaW.PrintMore
set_option linter.unusedVariables false
def GH (P : Program) (ops : Array Oper) (Q : Exit → Act → World → Prop) (N : Nat) (S : World → Prop) (fuel : Nat) (listed : Array Bool) (env : Env) (w : World) : Prop := ∀ a, Holds N a env → S w → wpAnyH P .any ops Q S fuel listed a w
/-- One operation of those that may come up. -/
def GO (P : Program) (ops : Array Oper) (Q : Exit → Act → World → Prop) (N : Nat) (S : World → Prop) (fuel : Nat) (listed : Array Bool) (env : Env) (w : World) (o : Oper) : Prop :=
  ∀ a, Holds N a env → S w → ∀ K : Act → World → Prop, (∀ a w, S w → (S w → wpAnyH P .any ops Q S fuel listed a w) → K a w) → if Region.wanted o (yielded ops a.tmps) = true then Oper.wp P o a w K Q else K (a.put o.dst undef) w
def GHs (P : Program) (ops : Array Oper) (Q : Exit → Act → World → Prop) (N : Nat) (S : World → Prop) (fuel : Nat) (listed : Array Bool) (env : Env) (w : World) (rs : List Nat) : Prop := ∀ a, Holds N a env → S w → AllReadyH P .any ops Q S fuel listed a w rs
/-- A panic is told alike, whatever the frame. -/
def Calm (Q : Exit → Act → World → Prop) : Prop := ∀ c (a : Act) (d : Option Tmp) (v : Value) w, Q (.panic c) (a.put d v) w → Q (.panic c) a w
section
variable {P : Program} {ops : Array Oper} {Q : Exit → Act → World → Prop} {N : Nat} {S : World → Prop} {fuel : Nat} {listed : Array Bool} {env : Env} {w : World} {o : Oper}
theorem CG.held {id : Nat} (S : World → Prop) (hm : P.follows .mixedOrders = true) (hS : S w.drew) (h : GH P ops Q N S ops.size (Array.replicate ops.size false) env w.drew) : CG P (.region id ops true) Q N env w :=
  fun a ha => wp_region_held_drew hm hS fun hs => h a ha hs
theorem GH.take {i n : Nat} {v : Value} (hi : ops[i]? = some o) (hs : Region.noSelect ops = true) (hf : Region.free .any ops listed i = true) (hr : (Region.ready .any ops listed).contains i = true) (hQ : Calm Q) (hd : o.dst = some n) (hn : Nat.blt n N = true)
    (hw : want ops env o = some true) (hy : ∀ w', S w' → Runs P N env o w' v) (h : GH P ops Q N S fuel (listed.setIfInBounds i true) ((n, v) :: env) w) : GH P ops Q N S (fuel + 1) listed env w := by
  intro a ha hS
  refine wpAnyH_take hi hs hf hr (fun c a w => hQ c a _ _ w) (.inl ⟨wanted_of ha hw, fun w' hw' => hy w' hw' a w' ha rfl⟩) hS ?_
  rw [hd]
  exact h _ (ha.put v (by simpa [Nat.blt_eq] using hn)) hS
theorem GH.pass {i n : Nat} (hi : ops[i]? = some o) (hs : Region.noSelect ops = true) (hf : Region.free .any ops listed i = true) (hr : (Region.ready .any ops listed).contains i = true) (hQ : Calm Q) (hd : o.dst = some n) (hn : Nat.blt n N = true)
    (hw : want ops env o = some false) (h : GH P ops Q N S fuel (listed.setIfInBounds i true) ((n, undef) :: env) w) : GH P ops Q N S (fuel + 1) listed env w := by
  intro a ha hS
  refine wpAnyH_take hi hs hf hr (fun c a w => hQ c a _ _ w) (.inr ⟨wanted_of ha hw, rfl⟩) hS ?_
  rw [hd]
  exact h _ (ha.put undef (by simpa [Nat.blt_eq] using hn)) hS
theorem GH.all {rs : List Nat} (hr : Region.ready .any ops listed = rs) (hne : rs ≠ []) (h : GHs P ops Q N S fuel listed env w rs) : GH P ops Q N S (fuel + 1) listed env w :=
  fun a ha hS => wpAnyH_ready hr hne (h a ha hS)
theorem GHs.nil : GHs P ops Q N S fuel listed env w [] := fun a ha hS => AllReadyH.nil
theorem GHs.cons {i : Nat} {rs : List Nat} (ho : ops[i]? = some o) (h : GO P ops Q N S fuel (listed.setIfInBounds i true) env w o) (hs : GHs P ops Q N S fuel listed env w rs) : GHs P ops Q N S fuel listed env w (i :: rs) :=
  fun a ha hS => AllReadyH.cons ho (fun K hK => h a ha hS K hK.out) (hs a ha hS)
theorem GH.done (hr : Region.ready .any ops listed = []) (h : QG Q .normal N env w) : GH P ops Q N S fuel listed env w := fun a ha _ => wpAnyH_done hr (h a ha) fuel
/-- Any law of the kit's for one step of a region that draws. -/
theorem GO.step {n : Nat} (hd : o.dst = some n) (hn : Nat.blt n N = true)
    (hs : ∀ a, Holds N a env → ∀ K : Act → World → Prop, (∀ v w1, S w1 → GH P ops Q N S fuel listed ((n, v) :: env) w1 → K (a.put o.dst v) w1) → if Region.wanted o (yielded ops a.tmps) = true then Oper.wp P o a w K Q else K (a.put o.dst undef) w) : GO P ops Q N S fuel listed env w o := by
  intro a ha hS K hK
  refine hs a ha K fun v w1 h1 h2 => hK _ _ h1 fun h3 => ?_
  rw [hd]
  exact h2 _ (ha.put v (by simpa [Nat.blt_eq] using hn)) h3
theorem GO.event {n : Nat} {v : Value} {w1 : World} (hd : o.dst = some n) (hn : Nat.blt n N = true) (hw : want ops env o = some true) (hr : ∀ a, Holds N a env → (execOp a.eval o).run P w = .ok (.value v) w1) (hS1 : S w1) (h : GH P ops Q N S fuel listed ((n, v) :: env) w1) : GO P ops Q N S fuel listed env w o := by
  refine GO.step hd hn fun a ha K hK => ?_
  rw [if_pos (wanted_of ha hw)]
  unfold Oper.wp
  rw [hr a ha]
  exact hK _ _ hS1 h
end
end Go.Proofs.Ytbajpjnloikpdaa.E
