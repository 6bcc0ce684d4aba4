/- All slots of a day, one behind another: the plain words, and their bounds. -/
import Derived.Test.YthdbkhdiaehblaaT3
import Derived.Test.YthdbkhdiaehblaaT4
namespace Go.Proofs.Ythdbkhdiaehblaa.T
open Go.RowKit Go.Proofs.YthdbkhdiaehblaaW.PrintWords Go.Proofs.YthdbkhdiaehblaaW.PrintMore
open Go.Proofs.Ythdbkhdiaehblaa.P
set_option linter.unusedVariables false
def allD (p : Pc) (H : Hs) : Day → List S36 → Day
  | d, [] => d
  | d, s :: r => allD p H (playD p H d s s.f4) r
def allT (p : Pc) (H : Hs) : Day → List S36 → List Tm
  | _, [] => []
  | d, s :: r => playT p H d s s.f4 :: allT p H (playD p H d s s.f4) r
theorem allD_snoc (p : Pc) (H : Hs) (s : S36) : ∀ (l : List S36) (d : Day), allD p H d (l ++ [s]) = playD p H (allD p H d l) s s.f4
  | [], _ => rfl
  | _ :: r, d => allD_snoc p H s r _
theorem allT_snoc (p : Pc) (H : Hs) (s : S36) : ∀ (l : List S36) (d : Day), allT p H d (l ++ [s]) = allT p H d l ++ [playT p H (allD p H d l) s s.f4]
  | [], _ => rfl
  | x :: r, d => by
    show _ :: allT p H _ (r ++ [s]) = _ :: (allT p H _ r ++ _)
    rw [allT_snoc p H s r]
    rfl
theorem allT_length (p : Pc) (H : Hs) : ∀ (l : List S36) (d : Day), (allT p H d l).length = l.length
  | [], _ => rfl
  | _ :: r, d => congrArg (· + 1) (allT_length p H r _)
/-- What the walks ask of a house and a pace. -/
structure Fits (p : Pc) (H : Hs) : Prop where
  e0 : 0 ≤ H.early
  e1 : H.early ≤ 1000
  r0 : 1 ≤ p.ra
  r1 : p.ra ≤ 1000
  v0 : 0 ≤ H.walk
  v1 : H.walk ≤ 1000
  v2 : 0 ≤ p.cl
  v3 : p.cl ≤ 1000
  hf : p.fn = 61 ∨ p.fn = 62
  hfn : ∀ s W, Calls Try.prog p.fn #[sv s] W fun e w' => e = .returned (.int .i64 (p.ru s)) ∧ Below W.heap.size W w'
/-- What they ask of a slot. -/
structure SFits (p : Pc) (s : S36) : Prop where
  s0 : 0 ≤ s.f0
  s1 : s.f0 < 6
  t0 : 0 ≤ s.f4
  t1 : s.f4 < 4
  b0 : 0 ≤ s.f1
  b1 : s.f1 ≤ 10000
  p0 : 0 ≤ s.f3
  p1 : s.f3 ≤ 1000
  u0 : 0 ≤ p.ru s
  u1 : p.ru s ≤ 1000
/-- A day all of whose minutes are at most n. -/
structure DayOk (n : Int) (d : Day) : Prop where
  hl : d.clean.length = 6
  hm : d.done.length = 4
  hc : ∀ x ∈ d.clean, -1 ≤ x ∧ x ≤ n
  hd : ∀ x ∈ d.done, -1 ≤ x ∧ x ≤ n
theorem rd_mem {l : List Int} {i : Int} (h0 : 0 ≤ i) (h1 : i < l.length) : rd l i ∈ l := by
  unfold rd
  rw [List.getD_eq_getElem?_getD, List.getElem?_eq_getElem (by omega)]
  exact List.getElem_mem _
theorem playT_ready {p : Pc} {H : Hs} {d : Day} {s : S36} {n : Int} (F : Fits p H) (S : SFits p s) (D : DayOk n d) (hn : 10000 ≤ n) :
    0 ≤ (playT p H d s s.f4).ready ∧ (playT p H d s s.f4).ready ≤ n + 6000 := by
  have h1 := D.hc _ (rd_mem S.s0 (by rw [D.hl]; exact S.s1))
  have h2 := D.hd _ (rd_mem S.t0 (by rw [D.hm]; exact S.t1))
  have e0 := F.e0
  have e1 := F.e1
  have r0 := F.r0
  have r1 := F.r1
  have v0 := F.v0
  have v1 := F.v1
  have v2 := F.v2
  have v3 := F.v3
  have b0 := S.b0
  have b1 := S.b1
  have p0 := S.p0
  have p1 := S.p1
  have u0 := S.u0
  have u1 := S.u1
  have n2 : 0 ≤ passesT p.ra s.f3 := by unfold passesT; exact Int.ediv_nonneg (by omega) (by omega)
  have n3 : passesT p.ra s.f3 ≤ 2000 := by unfold passesT; exact Int.le_trans (Int.ediv_le_self _ (by omega)) (by omega)
  unfold playT mx
  simp only
  split <;> split <;> split <;> (try split) <;> omega
theorem mem_set_le {l : List Int} {i : Nat} {x y : Int} (h : y ∈ l.set i x) : y ∈ l ∨ y = x := List.mem_or_eq_of_mem_set h
theorem playD_ok {p : Pc} {H : Hs} {d : Day} {s : S36} {n : Int} (F : Fits p H) (S : SFits p s) (D : DayOk n d) (hn : 10000 ≤ n) : DayOk (n + 6000) (playD p H d s s.f4) := by
  have h := playT_ready F S D hn
  refine ⟨by simp [playD, D.hl], by simp [playD, D.hm], fun x hx => ?_, fun x hx => ?_⟩
  · rcases mem_set_le hx with hx | rfl
    · have := D.hc x hx; omega
    · omega
  · rcases mem_set_le hx with hx | rfl
    · have := D.hd x hx; omega
    · omega
theorem allD_ok {p : Pc} {H : Hs} (F : Fits p H) : ∀ (l : List S36) (d : Day) (n : Int), (∀ s ∈ l, SFits p s) → DayOk n d → 10000 ≤ n → DayOk (n + 6000 * l.length) (allD p H d l)
  | [], d, n, _, D, _ => by simpa [allD] using D
  | s :: r, d, n, hS, D, hn => by
    have h := allD_ok F r _ (n + 6000) (fun x hx => hS x (List.mem_cons_of_mem _ hx)) (playD_ok F (hS s List.mem_cons_self) D hn) (by omega)
    have e : n + 6000 + 6000 * (r.length : Int) = n + 6000 * ((s :: r).length : Int) := by simp; omega
    rw [← e]
    exact h
theorem morning_ok : DayOk 10000 (dayAt 6 4) := by
  refine ⟨rfl, rfl, fun x hx => ?_, fun x hx => ?_⟩
  · simp [dayAt] at hx; omega
  · simp [dayAt] at hx; omega
/-! What is told of rows of minutes. -/
def kTm : Kd Tm := Kd.iso (Kd.pair (Kd.int .i64) (Kd.pair (Kd.int .i64) (Kd.pair (Kd.int .i64) (Kd.pair (Kd.int .i64) (Kd.int .i64))))) (fun x : Tm => (x.enter, x.seated, x.start, x.empty, x.ready))
def zTm : Tm := ⟨0, 0, 0, 0, 0⟩
def rd_Tm (xs : List Tm) (i : Int) : Tm := xs.getD i.toNat zTm
theorem kTm_open {w : World} {x : Tm} {cs : List Value} (h : kTm.K w x cs) : cs = [.int .i64 x.enter, .int .i64 x.seated, .int .i64 x.start, .int .i64 x.empty, .int .i64 x.ready] := by
  obtain ⟨_, _, rfl, rfl, ⟨_, _, rfl, rfl, ⟨_, _, rfl, rfl, ⟨_, _, rfl, rfl, rfl⟩⟩⟩⟩ := h
  exact rfl
theorem kTm_mkM (w : World) (base : Nat) (ok : Nat → Prop) (x : Tm) : kTm.M w base ok x [.int .i64 x.enter, .int .i64 x.seated, .int .i64 x.start, .int .i64 x.empty, .int .i64 x.ready] :=
  ⟨[.int .i64 x.enter], [.int .i64 x.seated, .int .i64 x.start, .int .i64 x.empty, .int .i64 x.ready], rfl, rfl, ⟨[.int .i64 x.seated], [.int .i64 x.start, .int .i64 x.empty, .int .i64 x.ready], rfl, rfl, ⟨[.int .i64 x.start], [.int .i64 x.empty, .int .i64 x.ready], rfl, rfl, ⟨[.int .i64 x.empty], [.int .i64 x.ready], rfl, rfl, rfl⟩⟩⟩⟩
theorem at_Tm {w : World} {A : Option Addr} {n : Nat} {xs : List Tm} (h : Kd.C kTm w A n xs) (i : Int) (h0 : 0 ≤ i) (h1 : i < n) :
    ∃ ad, A = some ad ∧ w.cell? (ad.add (i.toNat * 5)) = some (.int .i64 (rd_Tm xs i).enter) ∧ w.cell? ⟨(ad.add (i.toNat * 5)).block, (ad.add (i.toNat * 5)).off + 1, none⟩ = some (.int .i64 (rd_Tm xs i).seated) ∧
      w.cell? ⟨(ad.add (i.toNat * 5)).block, (ad.add (i.toNat * 5)).off + 2, none⟩ = some (.int .i64 (rd_Tm xs i).start) ∧ w.cell? ⟨(ad.add (i.toNat * 5)).block, (ad.add (i.toNat * 5)).off + 3, none⟩ = some (.int .i64 (rd_Tm xs i).empty) ∧
      w.cell? ⟨(ad.add (i.toNat * 5)).block, (ad.add (i.toNat * 5)).off + 4, none⟩ = some (.int .i64 (rd_Tm xs i).ready) := by
  obtain ⟨ad, c, e, _, hK, hc0⟩ := Kd.C_get h zTm i h0 h1
  have hc : ∀ j u, c[j]? = some u → w.cell? (ad.add (i.toNat * 5 + j)) = some u := hc0
  obtain rfl := kTm_open hK
  exact ⟨ad, e, hc 0 _ rfl, by rw [← add_field _ _ 1 (by omega)]; exact hc 1 _ rfl, by rw [← add_field _ _ 2 (by omega)]; exact hc 2 _ rfl, by rw [← add_field _ _ 3 (by omega)]; exact hc 3 _ rfl, by rw [← add_field _ _ 4 (by omega)]; exact hc 4 _ rfl⟩
end Go.Proofs.Ythdbkhdiaehblaa.T
