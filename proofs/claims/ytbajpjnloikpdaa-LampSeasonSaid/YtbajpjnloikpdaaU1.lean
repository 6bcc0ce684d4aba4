/- A lamp, its readings, its truths, in plain words; sizes of types; how functions are entered. -/
import Derived.Test.YtbajpjnloikpdaaE9
namespace Go.Proofs.Ytbajpjnloikpdaa.T
open Go.RowKit Go.Proofs.YtbajpjnloikpdaaW.PrintWords Go.Proofs.YtbajpjnloikpdaaW.PrintMore
open Go.Proofs.Ytbajpjnloikpdaa.P
set_option linter.unusedVariables false
set_option maxRecDepth 100000 in
theorem info_some {t : TypeId} {n : Nat} (h : (Try.prog.info? t).map (·.size) = some n) (hn : n ≠ 0) : E.Sized Try.prog t ∧ Try.prog.cellsOf t = n := by
  cases hq : Try.prog.info? t with
  | none => simp [hq] at h
  | some i =>
    have hs : i.size = n := by simpa [hq] using h
    have hc : Try.prog.cellsOf t = n := by simp [Program.cellsOf, hq, hs]
    exact ⟨⟨i, hq, by rw [hc]; exact hn⟩, hc⟩
theorem blk_cells {w : World} {g : Nat} {t : TypeId} {cs : List Value} (h : w.heap[g]? = some (.cells cs.toArray t (0, 0))) (j : Nat) (v : Value) (hv : cs[j]? = some v) : w.cell? ((⟨g, 0, none⟩ : Addr).add j) = some v := by
  have := blk_cell h j
  rw [Addr.add_mid, Nat.zero_add, this]
  simpa using hv
theorem two_one (a b : Int) : (#[.int .i64 a, .int .i64 b] : Array Value).all (·.oneCell') = true := by simp [Value.oneCell']
theorem three_one (a b c : Int) : (#[.int .i64 a, .int .i64 b, .int .i64 c] : Array Value).all (·.oneCell') = true := by simp [Value.oneCell']
theorem info3s : (Try.prog.info? 3).map (·.size) = some 1 := by kernel_rfl
theorem info23s : (Try.prog.info? 23).map (·.size) = some 2 := by kernel_rfl
theorem info24s : (Try.prog.info? 24).map (·.size) = some 1 := by kernel_rfl
theorem info26s : (Try.prog.info? 26).map (·.size) = some 9 := by kernel_rfl
theorem info27s : (Try.prog.info? 27).map (·.size) = some 1 := by kernel_rfl
theorem info46s : (Try.prog.info? 46).map (·.size) = some 1 := by kernel_rfl
theorem info54s : (Try.prog.info? 54).map (·.size) = some 2 := by kernel_rfl
theorem info64s : (Try.prog.info? 64).map (·.size) = some 3 := by kernel_rfl
theorem info72s : (Try.prog.info? 72).map (·.size) = some 1 := by kernel_rfl
theorem info80s : (Try.prog.info? 80).map (·.size) = some 2 := by kernel_rfl
theorem info3z : (Try.prog.info? 3).map (·.zero) = some (some (.int .i64 0)) := by kernel_rfl
theorem info23z : (Try.prog.info? 23).map (·.zero) = some (some (.agg #[.int .i64 0, .int .i64 0])) := by kernel_rfl
theorem info54z : (Try.prog.info? 54).map (·.zero) = some (some (.agg #[.int .i64 0, .int .i64 0])) := by kernel_rfl
theorem info80z : (Try.prog.info? 80).map (·.zero) = some (some (.agg #[.int .i64 0, .int .i64 0])) := by kernel_rfl
theorem info64z : (Try.prog.info? 64).map (·.zero) = some (some (.agg #[.int .i64 0, .int .i64 0, .int .i64 0])) := by kernel_rfl
theorem info72z : (Try.prog.info? 72).map (·.zero) = some (some (.slice none 0 0)) := by kernel_rfl
theorem info26z : (Try.prog.info? 26).map (·.zero) = some (some (.agg #[.int .i64 0, .int .i64 0, .int .i64 0, .int .i64 0, .int .i64 0, .int .i64 0, .int .i64 0, .slice none 0 0, .int .i64 0])) := by kernel_rfl
theorem ent12 (args : Array Value) (W : World) : (callFunc 12 args).run Try.prog W = .ok (.enter 12 args) W := by go_simp
theorem ent13 (args : Array Value) (W : World) : (callFunc 13 args).run Try.prog W = .ok (.enter 13 args) W := by go_simp
theorem ent14 (args : Array Value) (W : World) : (callFunc 14 args).run Try.prog W = .ok (.enter 14 args) W := by go_simp
theorem ent15 (args : Array Value) (W : World) : (callFunc 15 args).run Try.prog W = .ok (.enter 15 args) W := by go_simp
theorem ent16 (args : Array Value) (W : World) : (callFunc 16 args).run Try.prog W = .ok (.enter 16 args) W := by go_simp
theorem ent17 (args : Array Value) (W : World) : (callFunc 17 args).run Try.prog W = .ok (.enter 17 args) W := by go_simp
theorem ent18 (args : Array Value) (W : World) : (callFunc 18 args).run Try.prog W = .ok (.enter 18 args) W := by go_simp
theorem ent19 (args : Array Value) (W : World) : (callFunc 19 args).run Try.prog W = .ok (.enter 19 args) W := by go_simp
theorem ent20 (args : Array Value) (W : World) : (callFunc 20 args).run Try.prog W = .ok (.enter 20 args) W := by go_simp
theorem ent21 (args : Array Value) (W : World) : (callFunc 21 args).run Try.prog W = .ok (.enter 21 args) W := by go_simp
theorem ent22 (args : Array Value) (W : World) : (callFunc 22 args).run Try.prog W = .ok (.enter 22 args) W := by go_simp
theorem ent23 (args : Array Value) (W : World) : (callFunc 23 args).run Try.prog W = .ok (.enter 23 args) W := by go_simp
theorem ent24 (args : Array Value) (W : World) : (callFunc 24 args).run Try.prog W = .ok (.enter 24 args) W := by go_simp
theorem ent25 (args : Array Value) (W : World) : (callFunc 25 args).run Try.prog W = .ok (.enter 25 args) W := by go_simp
theorem ent26 (args : Array Value) (W : World) : (callFunc 26 args).run Try.prog W = .ok (.enter 26 args) W := by go_simp
theorem ent27 (args : Array Value) (W : World) : (callFunc 27 args).run Try.prog W = .ok (.enter 27 args) W := by go_simp
theorem ent28 (args : Array Value) (W : World) : (callFunc 28 args).run Try.prog W = .ok (.enter 28 args) W := by go_simp
theorem ent29 (args : Array Value) (W : World) : (callFunc 29 args).run Try.prog W = .ok (.enter 29 args) W := by go_simp
theorem ent30 (args : Array Value) (W : World) : (callFunc 30 args).run Try.prog W = .ok (.enter 30 args) W := by go_simp
theorem ent31 (args : Array Value) (W : World) : (callFunc 31 args).run Try.prog W = .ok (.enter 31 args) W := by go_simp
theorem ent32 (args : Array Value) (W : World) : (callFunc 32 args).run Try.prog W = .ok (.enter 32 args) W := by go_simp
theorem ent33 (args : Array Value) (W : World) : (callFunc 33 args).run Try.prog W = .ok (.enter 33 args) W := by go_simp
theorem ent34 (args : Array Value) (W : World) : (callFunc 34 args).run Try.prog W = .ok (.enter 34 args) W := by go_simp
theorem ent35 (args : Array Value) (W : World) : (callFunc 35 args).run Try.prog W = .ok (.enter 35 args) W := by go_simp
theorem ent36 (args : Array Value) (W : World) : (callFunc 36 args).run Try.prog W = .ok (.enter 36 args) W := by go_simp
theorem ent37 (args : Array Value) (W : World) : (callFunc 37 args).run Try.prog W = .ok (.enter 37 args) W := by go_simp
theorem ent38 (args : Array Value) (W : World) : (callFunc 38 args).run Try.prog W = .ok (.enter 38 args) W := by go_simp
theorem ent39 (args : Array Value) (W : World) : (callFunc 39 args).run Try.prog W = .ok (.enter 39 args) W := by go_simp
theorem ent40 (args : Array Value) (W : World) : (callFunc 40 args).run Try.prog W = .ok (.enter 40 args) W := by go_simp
theorem ent41 (args : Array Value) (W : World) : (callFunc 41 args).run Try.prog W = .ok (.enter 41 args) W := by go_simp
theorem ent42 (args : Array Value) (W : World) : (callFunc 42 args).run Try.prog W = .ok (.enter 42 args) W := by go_simp
theorem ent43 (args : Array Value) (W : World) : (callFunc 43 args).run Try.prog W = .ok (.enter 43 args) W := by go_simp
theorem ent44 (args : Array Value) (W : World) : (callFunc 44 args).run Try.prog W = .ok (.enter 44 args) W := by go_simp
theorem ent45 (args : Array Value) (W : World) : (callFunc 45 args).run Try.prog W = .ok (.enter 45 args) W := by go_simp
theorem ent46 (args : Array Value) (W : World) : (callFunc 46 args).run Try.prog W = .ok (.enter 46 args) W := by go_simp
theorem ent47 (args : Array Value) (W : World) : (callFunc 47 args).run Try.prog W = .ok (.enter 47 args) W := by go_simp
theorem ent48 (args : Array Value) (W : World) : (callFunc 48 args).run Try.prog W = .ok (.enter 48 args) W := by go_simp
theorem ent49 (args : Array Value) (W : World) : (callFunc 49 args).run Try.prog W = .ok (.enter 49 args) W := by go_simp
theorem ent50 (args : Array Value) (W : World) : (callFunc 50 args).run Try.prog W = .ok (.enter 50 args) W := by go_simp
theorem ent51 (args : Array Value) (W : World) : (callFunc 51 args).run Try.prog W = .ok (.enter 51 args) W := by go_simp
theorem ent52 (args : Array Value) (W : World) : (callFunc 52 args).run Try.prog W = .ok (.enter 52 args) W := by go_simp
theorem ent53 (args : Array Value) (W : World) : (callFunc 53 args).run Try.prog W = .ok (.enter 53 args) W := by go_simp
theorem ent54 (args : Array Value) (W : World) : (callFunc 54 args).run Try.prog W = .ok (.enter 54 args) W := by go_simp
theorem ent55 (args : Array Value) (W : World) : (callFunc 55 args).run Try.prog W = .ok (.enter 55 args) W := by go_simp
theorem ent56 (args : Array Value) (W : World) : (callFunc 56 args).run Try.prog W = .ok (.enter 56 args) W := by go_simp
theorem ent57 (args : Array Value) (W : World) : (callFunc 57 args).run Try.prog W = .ok (.enter 57 args) W := by go_simp
theorem ent58 (args : Array Value) (W : World) : (callFunc 58 args).run Try.prog W = .ok (.enter 58 args) W := by go_simp
theorem ent59 (args : Array Value) (W : World) : (callFunc 59 args).run Try.prog W = .ok (.enter 59 args) W := by go_simp
theorem ent60 (args : Array Value) (W : World) : (callFunc 60 args).run Try.prog W = .ok (.enter 60 args) W := by go_simp
theorem ent61 (args : Array Value) (W : World) : (callFunc 61 args).run Try.prog W = .ok (.enter 61 args) W := by go_simp
theorem ent62 (args : Array Value) (W : World) : (callFunc 62 args).run Try.prog W = .ok (.enter 62 args) W := by go_simp
theorem ent63 (args : Array Value) (W : World) : (callFunc 63 args).run Try.prog W = .ok (.enter 63 args) W := by go_simp
theorem ent64 (args : Array Value) (W : World) : (callFunc 64 args).run Try.prog W = .ok (.enter 64 args) W := by go_simp
theorem ent65 (args : Array Value) (W : World) : (callFunc 65 args).run Try.prog W = .ok (.enter 65 args) W := by go_simp
theorem ent66 (args : Array Value) (W : World) : (callFunc 66 args).run Try.prog W = .ok (.enter 66 args) W := by go_simp
theorem ent67 (args : Array Value) (W : World) : (callFunc 67 args).run Try.prog W = .ok (.enter 67 args) W := by go_simp
theorem ent68 (args : Array Value) (W : World) : (callFunc 68 args).run Try.prog W = .ok (.enter 68 args) W := by go_simp
theorem ent69 (args : Array Value) (W : World) : (callFunc 69 args).run Try.prog W = .ok (.enter 69 args) W := by go_simp
theorem ent70 (args : Array Value) (W : World) : (callFunc 70 args).run Try.prog W = .ok (.enter 70 args) W := by go_simp
/-- A line, or a truth: two numbers. -/
abbrev Ln := S80
abbrev kL : Kd Ln := k80
abbrev kI : Kd Int := Kd.int .i64
abbrev pv (p : Ln) : Value := .agg #[.int .i64 p.f0, .int .i64 p.f1]
/-- A lamp. -/
structure Lm where
  fl : Int
  fh : Int
  al : Int
  ah : Int
  nl : Int
  nh : Int
  ra : Int
  gs : List S64
  wr : Int
abbrev lampC (L : Lm) (A : Option Addr) (c : Nat) : List Value := [.int .i64 L.fl, .int .i64 L.fh, .int .i64 L.al, .int .i64 L.ah, .int .i64 L.nl, .int .i64 L.nh, .int .i64 L.ra, .slice A L.gs.length c, .int .i64 L.wr]
abbrev lv (L : Lm) (A : Option Addr) (c : Nat) : Value := .agg #[.int .i64 L.fl, .int .i64 L.fh, .int .i64 L.al, .int .i64 L.ah, .int .i64 L.nl, .int .i64 L.nh, .int .i64 L.ra, .slice A L.gs.length c, .int .i64 L.wr]
def inR (n lo hi : Int) : Prop := lo ≤ n ∧ n ≤ hi
instance (n lo hi : Int) : Decidable (inR n lo hi) := by unfold inR; infer_instance
def spanR (a b lo hi : Int) : Prop := lo ≤ a ∧ a ≤ b ∧ b ≤ hi
instance (a b lo hi : Int) : Decidable (spanR a b lo hi) := by unfold spanR; infer_instance
/-- The light at an hour. -/
def light (x : Ln) (h : Int) : Int := x.f0 - h * x.f1
/-- A reading is right. -/
def gOk (x : Ln) (g : S64) : Prop := inR (light x g.f0) g.f1 g.f2
instance (x : Ln) (g : S64) : Decidable (gOk x g) := by unfold gOk; infer_instance
def GaugeOk (g : S64) : Prop := inR g.f0 0 40 ∧ spanR g.f1 g.f2 (-400) 400
instance (g : S64) : Decidable (GaugeOk g) := by unfold GaugeOk; infer_instance
/-- A lamp without its readings is right. -/
def HeadOk (L : Lm) : Prop := spanR L.fl L.fh 0 400 ∧ spanR L.nl L.nh 0 400 ∧ spanR L.al L.ah 0 9 ∧ inR L.ra 0 40 ∧ L.gs.length ≤ 10 ∧ inR L.wr 0 3
instance (L : Lm) : Decidable (HeadOk L) := by unfold HeadOk; infer_instance
def LampOk (L : Lm) : Prop := HeadOk L ∧ ∀ g ∈ L.gs, GaugeOk g
instance (L : Lm) : Decidable (LampOk L) := by unfold LampOk; infer_instance
/-- The error that both texts tell of a lamp. -/
def checkE (L : Lm) : Int := if LampOk L then 0 else 90
theorem checkE_ok (L : Lm) : checkE L = 0 ↔ LampOk L := by unfold checkE; split <;> simp_all
/-- The numbers of the readings that are wrong. -/
def wrongsF (x : Ln) : List S64 → Int → List Int
  | [], _ => []
  | g :: r, i => if gOk x g then wrongsF x r (i + 1) else i :: wrongsF x r (i + 1)
abbrev wrongs (L : Lm) (x : Ln) : List Int := wrongsF x L.gs 0
theorem wrongsF_snoc (x : Ln) (g : S64) : ∀ (l : List S64) (i : Int), wrongsF x (l ++ [g]) i = wrongsF x l i ++ (if gOk x g then [] else [i + l.length])
  | [], i => by
    simp only [List.nil_append, wrongsF]
    split <;> simp
  | a :: l, i => by
    simp only [List.cons_append, wrongsF, wrongsF_snoc x g l (i + 1), List.length_cons]
    rw [show i + 1 + (l.length : Int) = i + ((l.length + 1 : Nat) : Int) by omega]
    split <;> simp
theorem wrongsF_len (x : Ln) : ∀ (l : List S64) (i : Int), (wrongsF x l i).length ≤ l.length
  | [], _ => Nat.le_refl _
  | g :: l, i => by
    have := wrongsF_len x l (i + 1)
    simp only [wrongsF, List.length_cons]
    split <;> simp <;> omega
theorem wrongs_step {L : Lm} {x : Ln} {i : Nat} {g : S64} (hg : L.gs[i]? = some g) : wrongsF x (L.gs.take (i + 1)) 0 = wrongsF x (L.gs.take i) 0 ++ (if gOk x g then [] else [(i : Int)]) := by
  have h1 := (List.getElem?_eq_some_iff.1 hg).1
  rw [List.take_add_one, hg]
  show wrongsF x (L.gs.take i ++ [g]) 0 = _
  rw [wrongsF_snoc, List.length_take, Nat.min_eq_left (by omega), Int.zero_add]
abbrev nA (L : Lm) : Nat := (L.fh - L.fl + 1).toNat
abbrev nB (L : Lm) : Nat := (L.ah - L.al + 1).toNat
abbrev pt (L : Lm) (a b : Nat) : Ln := ⟨L.fl + a, L.al + b⟩
/-- The pairs up to a place. -/
def upto (L : Lm) (i j : Nat) : List Ln := ((List.range i).flatMap fun a => (List.range (nB L)).map (pt L a)) ++ (List.range j).map (pt L i)
/-- All pairs of numbers. -/
def pairs (L : Lm) : List Ln := (List.range (nA L)).flatMap fun a => (List.range (nB L)).map (pt L a)
theorem upto_step (L : Lm) (i j : Nat) : upto L i (j + 1) = upto L i j ++ [pt L i j] := by
  unfold upto
  rw [List.range_succ, List.map_append, List.append_assoc]
  rfl
theorem upto_row (L : Lm) (i : Nat) : upto L i (nB L) = upto L (i + 1) 0 := by
  unfold upto
  rw [List.range_succ, List.flatMap_append]
  simp
theorem upto_zero (L : Lm) : upto L 0 0 = [] := rfl
theorem upto_all (L : Lm) : upto L (nA L) 0 = pairs L := by
  unfold upto pairs
  simp
theorem upto_len (L : Lm) (i j : Nat) : (upto L i j).length = i * nB L + j := by
  unfold upto
  have : ∀ n : Nat, ((List.range n).map fun _ => nB L).sum = n * nB L := by
    intro n
    induction n with
    | zero => simp
    | succ n ih => rw [List.range_succ, List.map_append, List.sum_append, ih]; simp [Nat.add_mul]
  simp [List.length_flatMap, this]
theorem pairs_len (L : Lm) : (pairs L).length = nA L * nB L := by rw [← upto_all, upto_len, Nat.add_zero]
theorem upto_lt {L : Lm} {i j : Nat} (hi : i < nA L) (hj : j < nB L) : (upto L i j).length < (pairs L).length := by
  rw [upto_len, pairs_len]
  have : (i + 1) * nB L ≤ nA L * nB L := Nat.mul_le_mul_right _ hi
  rw [Nat.add_mul] at this
  omega
/-- What is known of a pair. -/
structure PtOk (x : Ln) : Prop where
  a0 : 0 ≤ x.f0
  a1 : x.f0 ≤ 400
  b0 : 0 ≤ x.f1
  b1 : x.f1 ≤ 9
theorem light_b {x : Ln} (h : PtOk x) {t : Int} (h0 : 0 ≤ t) (h1 : t ≤ 1000) : 0 ≤ t * x.f1 ∧ t * x.f1 ≤ 9000 := by
  obtain ⟨a0, a1, b0, b1⟩ := h
  have h2 : t * x.f1 ≤ t * 9 := Int.mul_le_mul_of_nonneg_left b1 h0
  exact ⟨Int.mul_nonneg h0 b0, by omega⟩
theorem pt_ok {L : Lm} (h : HeadOk L) {i j : Nat} (hi : i < nA L) (hj : j < nB L) : PtOk (pt L i j) := by
  obtain ⟨⟨h1, h2, h3⟩, _, ⟨h4, h5, h6⟩, _⟩ := h
  unfold nA at hi
  unfold nB at hj
  exact ⟨by show 0 ≤ L.fl + i; omega, by show L.fl + i ≤ 400; omega, by show 0 ≤ L.al + j; omega, by show L.al + j ≤ 9; omega⟩
theorem mem_pairs {L : Lm} {x : Ln} : x ∈ pairs L ↔ inR x.f0 L.fl L.fh ∧ inR x.f1 L.al L.ah := by
  unfold pairs inR
  simp only [List.mem_flatMap, List.mem_map, List.mem_range]
  constructor
  · rintro ⟨a, ha, b, hb, rfl⟩
    unfold nA at ha
    unfold nB at hb
    simp only
    omega
  · rintro ⟨⟨h1, h2⟩, h3, h4⟩
    refine ⟨(x.f0 - L.fl).toNat, by unfold nA; omega, (x.f1 - L.al).toNat, by unfold nB; omega, ?_⟩
    obtain ⟨a, b⟩ := x
    simp only at h1 h2 h3 h4
    show (⟨L.fl + ((a - L.fl).toNat : Int), L.al + ((b - L.al).toNat : Int)⟩ : Ln) = ⟨a, b⟩
    rw [show L.fl + ((a - L.fl).toNat : Int) = a by omega, show L.al + ((b - L.al).toNat : Int) = b by omega]
theorem pairs_ok {L : Lm} (h : HeadOk L) {x : Ln} (hx : x ∈ pairs L) : PtOk x := by
  obtain ⟨⟨h1, h2, h3⟩, _, ⟨h4, h5, h6⟩, _⟩ := h
  obtain ⟨⟨k1, k2⟩, k3, k4⟩ := mem_pairs.mp hx
  exact ⟨by omega, by omega, by omega, by omega⟩
/-- All truths. -/
def truths (L : Lm) : List Ln := (pairs L).filter fun x => ((wrongs L x).length : Int) ≤ L.wr
theorem truths_ok {L : Lm} (h : HeadOk L) {x : Ln} (hx : x ∈ truths L) : PtOk x := pairs_ok h (List.mem_filter.mp hx).1
theorem pairs_few {L : Lm} (h : HeadOk L) : (pairs L).length ≤ 4010 := by
  obtain ⟨⟨h1, h2, h3⟩, _, ⟨h4, h5, h6⟩, _⟩ := h
  rw [pairs_len]
  have e1 : nA L ≤ 401 := by unfold nA; omega
  have e2 : nB L ≤ 10 := by unfold nB; omega
  exact Nat.le_trans (Nat.mul_le_mul e1 e2) (by decide)
theorem truths_few {L : Lm} (h : HeadOk L) : (truths L).length ≤ 4010 := Nat.le_trans (List.length_filter_le _ _) (pairs_few h)
end Go.Proofs.Ytbajpjnloikpdaa.T
