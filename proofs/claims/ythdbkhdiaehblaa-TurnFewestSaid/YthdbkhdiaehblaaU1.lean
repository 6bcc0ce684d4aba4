/- A house, slots; what is valid, in plain words; sizes of types; how functions are entered. -/
import Derived.Test.YthdbkhdiaehblaaE5
namespace Go.Proofs.Ythdbkhdiaehblaa.T
open Go.RowKit Go.Proofs.YthdbkhdiaehblaaW.PrintWords Go.Proofs.YthdbkhdiaehblaaW.PrintMore
open Go.Proofs.Ythdbkhdiaehblaa.P
set_option linter.unusedVariables false
/-- A house. -/
structure Hs where
  teams : Int
  walk : Int
  early : Int
  foyer : Int
  dl : Int
  dh : Int
  cl : Int
  ch : Int
/-- A house as a value. -/
abbrev hv (h : Hs) : Value := .agg #[.int .i64 h.teams, .int .i64 h.walk, .int .i64 h.early, .int .i64 h.foyer, .int .i64 h.dl, .int .i64 h.dh, .int .i64 h.cl, .int .i64 h.ch]
/-- A slot as a value. -/
abbrev sv (s : S36) : Value := .agg #[.int .i64 s.f0, .int .i64 s.f1, .int .i64 s.f2.f0, .int .i64 s.f2.f1, .int .i64 s.f3, .int .i64 s.f4]
def HouseOk (H : Hs) : Prop := (1 ≤ H.teams ∧ H.teams ≤ 4) ∧ (0 ≤ H.walk ∧ H.walk ≤ 60) ∧ (0 ≤ H.early ∧ H.early ≤ 120) ∧ (0 ≤ H.foyer ∧ H.foyer ≤ 5000) ∧ (1 ≤ H.dl ∧ H.dl ≤ H.dh ∧ H.dh ≤ 100) ∧ (1 ≤ H.cl ∧ H.cl ≤ H.ch ∧ H.ch ≤ 120)
instance (H : Hs) : Decidable (HouseOk H) := by unfold HouseOk; infer_instance
def SlotOk (H : Hs) (s : S36) : Prop := (0 ≤ s.f0 ∧ s.f0 ≤ 5) ∧ (1 ≤ s.f2.f0 ∧ s.f2.f0 ≤ s.f2.f1 ∧ s.f2.f1 ≤ 400) ∧ (0 ≤ s.f3 ∧ s.f3 ≤ 500) ∧ (0 ≤ s.f4 ∧ s.f4 ≤ H.teams - 1)
instance (H : Hs) (s : S36) : Decidable (SlotOk H s) := by unfold SlotOk; infer_instance
/-- A slot may stand behind others. -/
def FollowsOk (l : List S36) (s : S36) : Prop := (0 ≤ s.f1 ∧ s.f1 ≤ 2000) ∧ (l ≠ [] → (rd_T36 l ((l.length : Int) - 1)).f1 ≤ s.f1) ∧ ∀ o ∈ l, ¬ (o.f0 = s.f0 ∧ o.f1 = s.f1)
instance (l : List S36) (s : S36) : Decidable (FollowsOk l s) := by
  unfold FollowsOk
  have : Decidable (l ≠ [] → (rd_T36 l ((l.length : Int) - 1)).f1 ≤ s.f1) := by
    by_cases h : l = []
    · exact isTrue (fun h' => absurd h h')
    · by_cases h2 : (rd_T36 l ((l.length : Int) - 1)).f1 ≤ s.f1
      · exact isTrue (fun _ => h2)
      · exact isFalse (fun h' => h2 (h' h))
  infer_instance
/-- From place i on each slot is right. -/
def OkFrom (H : Hs) (l : List S36) (i : Nat) : Prop := ∀ j, i ≤ j → ∀ h : j < l.length, SlotOk H (l[j]'h) ∧ FollowsOk (l.take j) (l[j]'h)
/-- A house and slots are valid. -/
def Valid (H : Hs) (l : List S36) : Prop := HouseOk H ∧ l.length ≤ 12 ∧ OkFrom H l 0
open Classical in
/-- The error that both texts tell of a house and slots. -/
noncomputable def checkE (H : Hs) (l : List S36) : Int := if HouseOk H then (if l.length ≤ 12 then (if OkFrom H l 0 then 0 else 61) else 61) else 60
theorem rd36 (l : List S36) (i : Nat) (h : i < l.length) : rd_T36 l (i : Int) = l[i] := by unfold rd_T36; simp [List.getD_eq_getElem?_getD, List.getElem?_eq_getElem h]
theorem okFrom_end (H : Hs) (l : List S36) (i : Nat) (h : l.length ≤ i) : OkFrom H l i := fun j hj hlt => absurd hlt (by omega)
theorem okFrom_step (H : Hs) (l : List S36) (i : Nat) (h : i < l.length) : OkFrom H l i ↔ (SlotOk H l[i] ∧ FollowsOk (l.take i) l[i]) ∧ OkFrom H l (i + 1) := by
  constructor
  · intro k
    exact ⟨k i (Nat.le_refl _) h, fun j hj hlt => k j (by omega) hlt⟩
  · rintro ⟨k1, k2⟩ j hj hlt
    rcases Nat.lt_or_eq_of_le hj with h1 | rfl
    · exact k2 j (by omega) hlt
    · exact k1
theorem checkE_valid (H : Hs) (l : List S36) : checkE H l = 0 ↔ Valid H l := by
  unfold checkE Valid
  by_cases h1 : HouseOk H <;> by_cases h2 : l.length ≤ 12 <;> by_cases h3 : OkFrom H l 0 <;> simp [h1, h2, h3]
set_option maxRecDepth 100000 in
theorem info_some {t : TypeId} {n : Nat} (h : (Try.prog.info? t).map (·.size) = some n) (hn : n ≠ 0) : E.Sized Try.prog t ∧ Try.prog.cellsOf t = n := by
  cases hq : Try.prog.info? t with
  | none => simp [hq] at h
  | some i =>
    have hs : i.size = n := by simpa [hq] using h
    have hc : Try.prog.cellsOf t = n := by simp [Program.cellsOf, hq, hs]
    exact ⟨⟨i, hq, by rw [hc]; exact hn⟩, hc⟩
theorem info3s : (Try.prog.info? 3).map (·.size) = some 1 := by kernel_rfl
theorem info36s : (Try.prog.info? 36).map (·.size) = some 6 := by kernel_rfl
theorem blk_cells {w : World} {g : Nat} {t : TypeId} {cs : List Value} (h : w.heap[g]? = some (.cells cs.toArray t (0, 0))) (j : Nat) (v : Value) (hv : cs[j]? = some v) : w.cell? ((⟨g, 0, none⟩ : Addr).add j) = some v := by
  have := blk_cell h j
  rw [Addr.add_mid, Nat.zero_add, this]
  simpa using hv
theorem ent13 (args : Array Value) (W : World) : (callFunc 13 args).run Try.prog W = .ok (.enter 13 args) W := by go_simp
theorem ent14 (args : Array Value) (W : World) : (callFunc 14 args).run Try.prog W = .ok (.enter 14 args) W := by go_simp
theorem ent15 (args : Array Value) (W : World) : (callFunc 15 args).run Try.prog W = .ok (.enter 15 args) W := by go_simp
theorem ent16 (args : Array Value) (W : World) : (callFunc 16 args).run Try.prog W = .ok (.enter 16 args) W := by go_simp
theorem ent17 (args : Array Value) (W : World) : (callFunc 17 args).run Try.prog W = .ok (.enter 17 args) W := by go_simp
theorem ent18 (args : Array Value) (W : World) : (callFunc 18 args).run Try.prog W = .ok (.enter 18 args) W := by go_simp
theorem ent19 (args : Array Value) (W : World) : (callFunc 19 args).run Try.prog W = .ok (.enter 19 args) W := by go_simp
theorem ent20 (args : Array Value) (W : World) : (callFunc 20 args).run Try.prog W = .ok (.enter 20 args) W := by go_simp
theorem ent21 (args : Array Value) (W : World) : (callFunc 21 args).run Try.prog W = .ok (.enter 21 args) W := by go_simp
theorem ent22 (args : Array Value) (W : World) : (callFunc 22 args).run Try.prog W = .ok (.enter 22 args) W := by go_simp
theorem ent23 (args : Array Value) (W : World) : (callFunc 23 args).run Try.prog W = .ok (.enter 23 args) W := by go_simp
theorem ent24 (args : Array Value) (W : World) : (callFunc 24 args).run Try.prog W = .ok (.enter 24 args) W := by go_simp
theorem ent25 (args : Array Value) (W : World) : (callFunc 25 args).run Try.prog W = .ok (.enter 25 args) W := by go_simp
theorem ent26 (args : Array Value) (W : World) : (callFunc 26 args).run Try.prog W = .ok (.enter 26 args) W := by go_simp
theorem ent27 (args : Array Value) (W : World) : (callFunc 27 args).run Try.prog W = .ok (.enter 27 args) W := by go_simp
theorem ent28 (args : Array Value) (W : World) : (callFunc 28 args).run Try.prog W = .ok (.enter 28 args) W := by go_simp
theorem ent29 (args : Array Value) (W : World) : (callFunc 29 args).run Try.prog W = .ok (.enter 29 args) W := by go_simp
theorem ent30 (args : Array Value) (W : World) : (callFunc 30 args).run Try.prog W = .ok (.enter 30 args) W := by go_simp
theorem ent31 (args : Array Value) (W : World) : (callFunc 31 args).run Try.prog W = .ok (.enter 31 args) W := by go_simp
theorem ent32 (args : Array Value) (W : World) : (callFunc 32 args).run Try.prog W = .ok (.enter 32 args) W := by go_simp
theorem ent33 (args : Array Value) (W : World) : (callFunc 33 args).run Try.prog W = .ok (.enter 33 args) W := by go_simp
theorem ent34 (args : Array Value) (W : World) : (callFunc 34 args).run Try.prog W = .ok (.enter 34 args) W := by go_simp
theorem ent35 (args : Array Value) (W : World) : (callFunc 35 args).run Try.prog W = .ok (.enter 35 args) W := by go_simp
theorem ent36 (args : Array Value) (W : World) : (callFunc 36 args).run Try.prog W = .ok (.enter 36 args) W := by go_simp
theorem ent37 (args : Array Value) (W : World) : (callFunc 37 args).run Try.prog W = .ok (.enter 37 args) W := by go_simp
theorem ent38 (args : Array Value) (W : World) : (callFunc 38 args).run Try.prog W = .ok (.enter 38 args) W := by go_simp
theorem ent39 (args : Array Value) (W : World) : (callFunc 39 args).run Try.prog W = .ok (.enter 39 args) W := by go_simp
theorem ent40 (args : Array Value) (W : World) : (callFunc 40 args).run Try.prog W = .ok (.enter 40 args) W := by go_simp
theorem ent41 (args : Array Value) (W : World) : (callFunc 41 args).run Try.prog W = .ok (.enter 41 args) W := by go_simp
theorem ent42 (args : Array Value) (W : World) : (callFunc 42 args).run Try.prog W = .ok (.enter 42 args) W := by go_simp
theorem ent43 (args : Array Value) (W : World) : (callFunc 43 args).run Try.prog W = .ok (.enter 43 args) W := by go_simp
theorem ent44 (args : Array Value) (W : World) : (callFunc 44 args).run Try.prog W = .ok (.enter 44 args) W := by go_simp
theorem ent45 (args : Array Value) (W : World) : (callFunc 45 args).run Try.prog W = .ok (.enter 45 args) W := by go_simp
theorem ent46 (args : Array Value) (W : World) : (callFunc 46 args).run Try.prog W = .ok (.enter 46 args) W := by go_simp
theorem ent47 (args : Array Value) (W : World) : (callFunc 47 args).run Try.prog W = .ok (.enter 47 args) W := by go_simp
theorem ent49 (args : Array Value) (W : World) : (callFunc 49 args).run Try.prog W = .ok (.enter 49 args) W := by go_simp
theorem ent50 (args : Array Value) (W : World) : (callFunc 50 args).run Try.prog W = .ok (.enter 50 args) W := by go_simp
theorem ent51 (args : Array Value) (W : World) : (callFunc 51 args).run Try.prog W = .ok (.enter 51 args) W := by go_simp
theorem ent52 (args : Array Value) (W : World) : (callFunc 52 args).run Try.prog W = .ok (.enter 52 args) W := by go_simp
theorem ent53 (args : Array Value) (W : World) : (callFunc 53 args).run Try.prog W = .ok (.enter 53 args) W := by go_simp
theorem ent54 (args : Array Value) (W : World) : (callFunc 54 args).run Try.prog W = .ok (.enter 54 args) W := by go_simp
theorem ent55 (args : Array Value) (W : World) : (callFunc 55 args).run Try.prog W = .ok (.enter 55 args) W := by go_simp
theorem ent56 (args : Array Value) (W : World) : (callFunc 56 args).run Try.prog W = .ok (.enter 56 args) W := by go_simp
theorem ent57 (args : Array Value) (W : World) : (callFunc 57 args).run Try.prog W = .ok (.enter 57 args) W := by go_simp
theorem ent59 (args : Array Value) (W : World) : (callFunc 59 args).run Try.prog W = .ok (.enter 59 args) W := by go_simp
theorem ent60 (args : Array Value) (W : World) : (callFunc 60 args).run Try.prog W = .ok (.enter 60 args) W := by go_simp
theorem ent61 (args : Array Value) (W : World) : (callFunc 61 args).run Try.prog W = .ok (.enter 61 args) W := by go_simp
theorem ent62 (args : Array Value) (W : World) : (callFunc 62 args).run Try.prog W = .ok (.enter 62 args) W := by go_simp
theorem ent63 (args : Array Value) (W : World) : (callFunc 63 args).run Try.prog W = .ok (.enter 63 args) W := by go_simp
theorem ent64 (args : Array Value) (W : World) : (callFunc 64 args).run Try.prog W = .ok (.enter 64 args) W := by go_simp
/-- The cells of a slot in a row. -/
structure SlotAt (w : World) (ae : Addr) (k : Nat) (s : S36) : Prop where
  c0 : w.cell? (ae.add (k * 6)) = some (.int .i64 s.f0)
  c1 : w.cell? ⟨(ae.add (k * 6)).block, (ae.add (k * 6)).off + 1, none⟩ = some (.int .i64 s.f1)
  c2 : w.cell? ⟨(ae.add (k * 6)).block, (ae.add (k * 6)).off + 2, none⟩ = some (.int .i64 s.f2.f0)
  c3 : w.cell? ⟨(ae.add (k * 6)).block, (ae.add (k * 6)).off + 3, none⟩ = some (.int .i64 s.f2.f1)
  c4 : w.cell? ⟨(ae.add (k * 6)).block, (ae.add (k * 6)).off + 4, none⟩ = some (.int .i64 s.f3)
  c5 : w.cell? ⟨(ae.add (k * 6)).block, (ae.add (k * 6)).off + 5, none⟩ = some (.int .i64 s.f4)
theorem SlotAt.below {w w' : World} {ae : Addr} {k : Nat} {s : S36} (h : SlotAt w ae k s) (hb : Below w.heap.size w w') : SlotAt w' ae k s :=
  ⟨pw_cell_below hb h.c0, pw_cell_below hb h.c1, pw_cell_below hb h.c2, pw_cell_below hb h.c3, pw_cell_below hb h.c4, pw_cell_below hb h.c5⟩
theorem slot_at {w : World} {A : Option Addr} {l : List S36} (h : Kd.C k36 w A l.length l) {i : Nat} {s : S36} (hi : l[i]? = some s) : ∃ ad, A = some ad ∧ SlotAt w ad i s := by
  have hil : i < l.length := (List.getElem?_eq_some_iff.1 hi).1
  obtain ⟨ad, e, m0, m1, m2, m3, m4, m5⟩ := at_T36 h (i : Int) (by omega) (by omega)
  have hs : rd_T36 l (i : Int) = s := by rw [rd36 l i hil]; rw [List.getElem?_eq_getElem hil] at hi; exact Option.some.inj hi
  rw [hs] at m0 m1 m2 m3 m4 m5
  simp only [Int.toNat_natCast] at m0 m1 m2 m3 m4 m5
  exact ⟨ad, e, m0, m1, m2, m3, m4, m5⟩
theorem info25s : (Try.prog.info? 25).map (·.size) = some 8 := by kernel_rfl
theorem info23s : (Try.prog.info? 23).map (·.size) = some 2 := by kernel_rfl
theorem two_one (a b : Int) : (#[.int .i64 a, .int .i64 b] : Array Value).all (·.oneCell') = true := by simp [Value.oneCell']
theorem eight_one (a b c d e f g h : Int) : (#[.int .i64 a, .int .i64 b, .int .i64 c, .int .i64 d, .int .i64 e, .int .i64 f, .int .i64 g, .int .i64 h] : Array Value).all (·.oneCell') = true := by simp [Value.oneCell']
theorem six_one (a b c d e f : Int) : (#[.int .i64 a, .int .i64 b, .int .i64 c, .int .i64 d, .int .i64 e, .int .i64 f] : Array Value).all (·.oneCell') = true := by simp [Value.oneCell']
theorem SlotAt.cells {w : World} {ad : Addr} {k : Nat} {s : S36} (h : SlotAt w ad k s) (j : Nat) (v : Value) (hv : ([.int .i64 s.f0, .int .i64 s.f1, .int .i64 s.f2.f0, .int .i64 s.f2.f1, .int .i64 s.f3, .int .i64 s.f4] : List Value)[j]? = some v) : w.cell? ((ad.add (k * 6)).add j) = some v := by
  rcases j with _ | _ | _ | _ | _ | _ | j
  · cases hv; exact h.c0
  · cases hv; exact h.c1
  · cases hv; exact h.c2
  · cases hv; exact h.c3
  · cases hv; exact h.c4
  · cases hv; exact h.c5
  · simp at hv
theorem info36z : (Try.prog.info? 36).map (·.zero) = some (some (.agg #[(.int .i64 0), (.int .i64 0), (.int .i64 0), (.int .i64 0), (.int .i64 0), (.int .i64 0)])) := by kernel_rfl
end Go.Proofs.Ythdbkhdiaehblaa.T
