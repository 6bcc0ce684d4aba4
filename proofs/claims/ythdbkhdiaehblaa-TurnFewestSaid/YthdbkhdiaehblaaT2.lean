/- How a slot is played: what a day's memory holds, and the walk of the method 'play'. -/
import Derived.Test.YthdbkhdiaehblaaT1
import Derived.Deep.MidRow
namespace Go.Proofs.Ythdbkhdiaehblaa.T
open Go.RowKit Go.Proofs.YthdbkhdiaehblaaW.PrintWords Go.Proofs.YthdbkhdiaehblaaW.PrintMore
open Go.Proofs.Ythdbkhdiaehblaa.P
attribute [local go_sem] max2_int min2_int max_two min_two
/-- A pace: its function's number, how long a cleaning takes, the rate, and how long a show runs. -/
structure Pc where
  fn : Nat
  cl : Int
  ra : Int
  ru : S36 → Int
abbrev pv (p : Pc) : Value := .agg #[.func (.func p.fn) #[] #[], .int .i64 p.cl, .int .i64 p.ra]
/-- When screens are clean, and teams have finished. -/
structure Day where
  clean : List Int
  done : List Int
def dayPre (p : Pc) (H : Hs) : List Value := [.int .i64 H.teams, .int .i64 H.walk, .int .i64 H.early, .int .i64 H.foyer, .int .i64 H.dl, .int .i64 H.dh, .int .i64 H.cl, .int .i64 H.ch, .func (.func p.fn) #[] #[], .int .i64 p.cl, .int .i64 p.ra]
theorem dayPre_length (p : Pc) (H : Hs) : (dayPre p H).length = 11 := rfl
def dayCells (p : Pc) (H : Hs) (d : Day) : Array Value := (dayPre p H ++ d.clean.map (Value.int .i64) ++ d.done.map (Value.int .i64)).toArray

/-- The minutes of a slot that is played on a day. -/
structure Tm where
  enter : Int
  seated : Int
  start : Int
  empty : Int
  ready : Int
def passesT (rate crowd : Int) : Int := (crowd + rate - 1) / rate
def playT (p : Pc) (H : Hs) (d : Day) (s : S36) (team : Int) : Tm :=
  let enter := mx (max 0 (s.f1 - H.early)) (rd d.clean s.f0)
  let seated := enter + passesT p.ra s.f3
  let start := mx s.f1 seated
  let empty := start + p.ru s + passesT p.ra s.f3
  let from_ := if rd d.done team = -1 then empty else mx empty (rd d.done team + H.walk)
  ⟨enter, seated, start, empty, from_ + p.cl⟩
def playD (p : Pc) (H : Hs) (d : Day) (s : S36) (team : Int) : Day :=
  ⟨d.clean.set s.f0.toNat (playT p H d s team).ready, d.done.set team.toNat (playT p H d s team).ready⟩

section
variable {P : Program} {ops : Array Oper} {rest : List Oper} {op : Oper} {a : Act} {w : World} {Q : Exit → Act → World → Prop}
end
section
variable {w : World} {B : Nat} {p : Pc} {H : Hs} {d : Day}
theorem dayCells_one : (dayCells p H d).all (·.oneCell') = true := by
  simp [dayCells, dayPre, Value.oneCell']
theorem dayCells_size (h0 : d.clean.length = 6) (h1 : d.done.length = 4) : (dayCells p H d).size = 21 := by simp [dayCells, dayPre_length, h0, h1]
theorem day_clean (hb : w.heap[B]? = some (.cells (dayCells p H d) 99 (0, 0))) (i : Int) (h0 : 0 ≤ i) (h1 : i < d.clean.length) :
    w.cell? ⟨B, 11 + i.toNat, none⟩ = some (.int .i64 (rd d.clean i)) := by
  rw [blk_cell hb]
  unfold dayCells
  rw [List.getElem?_toArray, List.append_assoc, List.getElem?_append_right (by simp [dayPre_length]), List.getElem?_append_left (by simp [dayPre_length]; omega)]
  simp [rd, dayPre_length]
  rw [List.getElem?_eq_getElem (by omega)]
  simp
theorem day_done (hb : w.heap[B]? = some (.cells (dayCells p H d) 99 (0, 0))) (hl : d.clean.length = 6) (i : Int) (h0 : 0 ≤ i) (h1 : i < d.done.length) :
    w.cell? ⟨B, 17 + i.toNat, none⟩ = some (.int .i64 (rd d.done i)) := by
  rw [blk_cell hb]
  unfold dayCells
  rw [List.getElem?_toArray, List.getElem?_append_right (by simp [dayPre_length, hl])]
  simp [rd, hl, dayPre_length]
  rw [List.getElem?_eq_getElem (by omega)]
  simp
theorem day_fix (hb : w.heap[B]? = some (.cells (dayCells p H d) 99 (0, 0))) :
    w.cell? ⟨B, 0, none⟩ = some (.int .i64 H.teams) ∧ w.cell? ⟨B, 1, none⟩ = some (.int .i64 H.walk) ∧ w.cell? ⟨B, 2, none⟩ = some (.int .i64 H.early) ∧ w.cell? ⟨B, 3, none⟩ = some (.int .i64 H.foyer) ∧
    w.cell? ⟨B, 4, none⟩ = some (.int .i64 H.dl) ∧ w.cell? ⟨B, 5, none⟩ = some (.int .i64 H.dh) ∧ w.cell? ⟨B, 6, none⟩ = some (.int .i64 H.cl) ∧ w.cell? ⟨B, 7, none⟩ = some (.int .i64 H.ch) ∧
    w.cell? ⟨B, 8, none⟩ = some (.func (.func p.fn) #[] #[]) ∧ w.cell? ⟨B, 9, none⟩ = some (.int .i64 p.cl) ∧ w.cell? ⟨B, 10, none⟩ = some (.int .i64 p.ra) := by
  refine ⟨?_, ?_, ?_, ?_, ?_, ?_, ?_, ?_, ?_, ?_, ?_⟩ <;>
  · rw [blk_cell hb]
    unfold dayCells
    rw [List.getElem?_toArray, List.append_assoc, List.getElem?_append_left (by simp [dayPre_length])]
    rfl
theorem dayCells_clean (i : Int) (h0 : 0 ≤ i) (h1 : i < d.clean.length) (x : Int) : (dayCells p H d).setIfInBounds (11 + i.toNat) (.int .i64 x) = dayCells p H ⟨d.clean.set i.toNat x, d.done⟩ := by
  unfold dayCells
  rw [List.setIfInBounds_toArray, List.append_assoc, List.set_append_right _ _ (by simp [dayPre_length]), List.set_append_left _ _ (by simp [dayPre_length]; omega)]
  simp [List.map_set, dayPre_length]
theorem dayCells_done (hl : d.clean.length = 6) (i : Int) (_h0 : 0 ≤ i) (_h1 : i < d.done.length) (x : Int) : (dayCells p H d).setIfInBounds (17 + i.toNat) (.int .i64 x) = dayCells p H ⟨d.clean, d.done.set i.toNat x⟩ := by
  unfold dayCells
  rw [List.setIfInBounds_toArray, List.set_append_right _ _ (by simp [dayPre_length, hl])]
  simp [List.map_set, dayPre_length, hl]
end
/-- What stands in memory while a slot is played: the day at block B, and from block w.heap.size on the slot, the result, the times. -/
structure Playing (w : World) (p : Pc) (H : Hs) (d : Day) (B : Nat) (s : S36) (t0 t1 t2 t3 t4 : Int) (W : World) : Prop where
  day : W.heap[B]? = some (.cells (dayCells p H d) 99 (0, 0))
  slot : W.heap[w.heap.size]? = some (.cells #[.int .i64 s.f0, .int .i64 s.f1, .int .i64 s.f2.f0, .int .i64 s.f2.f1, .int .i64 s.f3, .int .i64 s.f4] 36 (0, 0))
  res : W.heap[w.heap.size + 1]? = some (.cells #[.int .i64 0, .int .i64 0, .int .i64 0, .int .i64 0, .int .i64 0] 83 (0, 0))
  times : W.heap[w.heap.size + 1 + 1]? = some (.cells #[.int .i64 t0, .int .i64 t1, .int .i64 t2, .int .i64 t3, .int .i64 t4] 83 (0, 0))
  grown : w.grownBy W (some B)
theorem Playing.begin (w : World) (p : Pc) (H : Hs) (d : Day) (B : Nat) (s : S36) (hb : w.heap[B]? = some (.cells (dayCells p H d) 99 (0, 0))) :
    Playing w p H d B s 0 0 0 0 0 (((w.alloc (.cells #[.int .i64 s.f0, .int .i64 s.f1, .int .i64 s.f2.f0, .int .i64 s.f2.f1, .int .i64 s.f3, .int .i64 s.f4] 36 (0, 0))).alloc (.cells #[.int .i64 0, .int .i64 0, .int .i64 0, .int .i64 0, .int .i64 0] 83 (0, 0))).alloc (.cells #[.int .i64 0, .int .i64 0, .int .i64 0, .int .i64 0, .int .i64 0] 83 (0, 0))) := by
  refine ⟨blk_alloc (blk_alloc (blk_alloc hb _) _) _, blk_alloc (blk_alloc (blk_new _ _) _) _, ?_, ?_, ?_⟩
  · exact blk_alloc (by simpa using blk_new (w.alloc (.cells #[.int .i64 s.f0, .int .i64 s.f1, .int .i64 s.f2.f0, .int .i64 s.f2.f1, .int .i64 s.f3, .int .i64 s.f4] 36 (0, 0))) (.cells #[.int .i64 0, .int .i64 0, .int .i64 0, .int .i64 0, .int .i64 0] 83 (0, 0))) _
  · simpa using blk_new ((w.alloc (.cells #[.int .i64 s.f0, .int .i64 s.f1, .int .i64 s.f2.f0, .int .i64 s.f2.f1, .int .i64 s.f3, .int .i64 s.f4] 36 (0, 0))).alloc (.cells #[.int .i64 0, .int .i64 0, .int .i64 0, .int .i64 0, .int .i64 0] 83 (0, 0))) (.cells #[.int .i64 0, .int .i64 0, .int .i64 0, .int .i64 0, .int .i64 0] 83 (0, 0))
  · exact (World.grownBy_alloc _ _ _).trans ((World.grownBy_alloc _ _ _).trans (World.grownBy_alloc _ _ _))
section
variable {w : World} {p : Pc} {H : Hs} {d : Day} {B : Nat} {s : S36} {t0 t1 t2 t3 t4 : Int} {W : World}
theorem Playing.below (q : Playing w p H d B s t0 t1 t2 t3 t4 W) {W' : World} (hb : Below W.heap.size W W') : Playing w p H d B s t0 t1 t2 t3 t4 W' :=
  ⟨blk_below q.day hb, blk_below q.slot hb, blk_below q.res hb, blk_below q.times hb, q.grown.trans (grown_of_below hb _)⟩
theorem Playing.drew (q : Playing w p H d B s t0 t1 t2 t3 t4 W) : Playing w p H d B s t0 t1 t2 t3 t4 W.drew := q.below (below_drew1 (Below.refl _ _))
theorem Playing.set0 (q : Playing w p H d B s t0 t1 t2 t3 t4 W) (hB : B < w.heap.size) (x : Int) : Playing w p H d B s x t1 t2 t3 t4 (W.setCell ⟨w.heap.size + 1 + 1, 0, none⟩ (.int .i64 x)) :=
  ⟨blk_far q.day (by simp; omega) _, blk_far q.slot (by simp; omega) _, blk_far q.res (by simp) _, blk_put q.times 0 _ rfl, gb_set q.grown (.inl (by simp; omega)) _⟩
theorem Playing.set1 (q : Playing w p H d B s t0 t1 t2 t3 t4 W) (hB : B < w.heap.size) (x : Int) : Playing w p H d B s t0 x t2 t3 t4 (W.setCell ⟨w.heap.size + 1 + 1, 1, none⟩ (.int .i64 x)) :=
  ⟨blk_far q.day (by simp; omega) _, blk_far q.slot (by simp; omega) _, blk_far q.res (by simp) _, blk_put q.times 1 _ rfl, gb_set q.grown (.inl (by simp; omega)) _⟩
theorem Playing.set2 (q : Playing w p H d B s t0 t1 t2 t3 t4 W) (hB : B < w.heap.size) (x : Int) : Playing w p H d B s t0 t1 x t3 t4 (W.setCell ⟨w.heap.size + 1 + 1, 2, none⟩ (.int .i64 x)) :=
  ⟨blk_far q.day (by simp; omega) _, blk_far q.slot (by simp; omega) _, blk_far q.res (by simp) _, blk_put q.times 2 _ rfl, gb_set q.grown (.inl (by simp; omega)) _⟩
theorem Playing.set3 (q : Playing w p H d B s t0 t1 t2 t3 t4 W) (hB : B < w.heap.size) (x : Int) : Playing w p H d B s t0 t1 t2 x t4 (W.setCell ⟨w.heap.size + 1 + 1, 3, none⟩ (.int .i64 x)) :=
  ⟨blk_far q.day (by simp; omega) _, blk_far q.slot (by simp; omega) _, blk_far q.res (by simp) _, blk_put q.times 3 _ rfl, gb_set q.grown (.inl (by simp; omega)) _⟩
theorem Playing.set4 (q : Playing w p H d B s t0 t1 t2 t3 t4 W) (hB : B < w.heap.size) (x : Int) : Playing w p H d B s t0 t1 t2 t3 x (W.setCell ⟨w.heap.size + 1 + 1, 4, none⟩ (.int .i64 x)) :=
  ⟨blk_far q.day (by simp; omega) _, blk_far q.slot (by simp; omega) _, blk_far q.res (by simp) _, blk_put q.times 4 _ rfl, gb_set q.grown (.inl (by simp; omega)) _⟩
theorem slot_cells (q : Playing w p H d B s t0 t1 t2 t3 t4 W) :
    W.cell? ⟨w.heap.size, 0, none⟩ = some (.int .i64 s.f0) ∧ W.cell? ⟨w.heap.size, 1, none⟩ = some (.int .i64 s.f1) ∧ W.cell? ⟨w.heap.size, 2, none⟩ = some (.int .i64 s.f2.f0) ∧
    W.cell? ⟨w.heap.size, 3, none⟩ = some (.int .i64 s.f2.f1) ∧ W.cell? ⟨w.heap.size, 4, none⟩ = some (.int .i64 s.f3) ∧ W.cell? ⟨w.heap.size, 5, none⟩ = some (.int .i64 s.f4) :=
  ⟨blk_cell q.slot 0, blk_cell q.slot 1, blk_cell q.slot 2, blk_cell q.slot 3, blk_cell q.slot 4, blk_cell q.slot 5⟩
theorem time_cells (q : Playing w p H d B s t0 t1 t2 t3 t4 W) :
    W.cell? ⟨w.heap.size + 1 + 1, 0, none⟩ = some (.int .i64 t0) ∧ W.cell? ⟨w.heap.size + 1 + 1, 1, none⟩ = some (.int .i64 t1) ∧ W.cell? ⟨w.heap.size + 1 + 1, 2, none⟩ = some (.int .i64 t2) ∧
    W.cell? ⟨w.heap.size + 1 + 1, 3, none⟩ = some (.int .i64 t3) ∧ W.cell? ⟨w.heap.size + 1 + 1, 4, none⟩ = some (.int .i64 t4) :=
  ⟨blk_cell q.times 0, blk_cell q.times 1, blk_cell q.times 2, blk_cell q.times 3, blk_cell q.times 4⟩
theorem time_free (q : Playing w p H d B s t0 t1 t2 t3 t4 W) (j : Nat) : W.frozen? ⟨w.heap.size + 1 + 1, j, none⟩ = false := blk_frozen q.times j
/-- What the second region of 'play' reads. -/
theorem Playing.S2 (q : Playing w p H d B s t0 t1 t2 t3 t4 W) (hl : d.clean.length = 6) (s0 : 0 ≤ s.f0) (s1 : s.f0 < 6) :
    W.cell? ⟨B, 0, none⟩ = some (.int .i64 H.teams) ∧ W.cell? ⟨B, 1, none⟩ = some (.int .i64 H.walk) ∧ W.cell? ⟨B, 2, none⟩ = some (.int .i64 H.early) ∧ W.cell? ⟨B, 3, none⟩ = some (.int .i64 H.foyer) ∧
    W.cell? ⟨B, 4, none⟩ = some (.int .i64 H.dl) ∧ W.cell? ⟨B, 5, none⟩ = some (.int .i64 H.dh) ∧ W.cell? ⟨B, 6, none⟩ = some (.int .i64 H.cl) ∧ W.cell? ⟨B, 7, none⟩ = some (.int .i64 H.ch) ∧
    W.cell? ⟨w.heap.size, 0, none⟩ = some (.int .i64 s.f0) ∧ W.cell? ⟨w.heap.size, 1, none⟩ = some (.int .i64 s.f1) ∧ W.cell? ⟨w.heap.size, 2, none⟩ = some (.int .i64 s.f2.f0) ∧
    W.cell? ⟨w.heap.size, 3, none⟩ = some (.int .i64 s.f2.f1) ∧ W.cell? ⟨w.heap.size, 4, none⟩ = some (.int .i64 s.f3) ∧ W.cell? ⟨w.heap.size, 5, none⟩ = some (.int .i64 s.f4) ∧ W.cell? ⟨B, 11 + s.f0.toNat, none⟩ = some (.int .i64 (rd d.clean s.f0)) := by
  obtain ⟨c0, c1, c2, c3, c4, c5, c6, c7, c8, c9, c10⟩ := day_fix q.day
  obtain ⟨g0, g1, g2, g3, g4, g5⟩ := slot_cells q
  exact ⟨c0, c1, c2, c3, c4, c5, c6, c7, g0, g1, g2, g3, g4, g5, day_clean q.day s.f0 s0 (by omega)⟩
theorem Playing.S3 (q : Playing w p H d B s t0 t1 t2 t3 t4 W) :
    W.cell? ⟨B, 8, none⟩ = some (.func (.func p.fn) #[] #[]) ∧ W.cell? ⟨B, 9, none⟩ = some (.int .i64 p.cl) ∧ W.cell? ⟨B, 10, none⟩ = some (.int .i64 p.ra) ∧
    W.cell? ⟨w.heap.size, 0, none⟩ = some (.int .i64 s.f0) ∧ W.cell? ⟨w.heap.size, 1, none⟩ = some (.int .i64 s.f1) ∧ W.cell? ⟨w.heap.size, 2, none⟩ = some (.int .i64 s.f2.f0) ∧
    W.cell? ⟨w.heap.size, 3, none⟩ = some (.int .i64 s.f2.f1) ∧ W.cell? ⟨w.heap.size, 4, none⟩ = some (.int .i64 s.f3) ∧ W.cell? ⟨w.heap.size, 5, none⟩ = some (.int .i64 s.f4) ∧
    W.cell? ⟨w.heap.size + 1 + 1, 0, none⟩ = some (.int .i64 t0) ∧ W.cell? ⟨w.heap.size + 1 + 1, 2, none⟩ = some (.int .i64 t2) := by
  obtain ⟨c0, c1, c2, c3, c4, c5, c6, c7, c8, c9, c10⟩ := day_fix q.day
  obtain ⟨g0, g1, g2, g3, g4, g5⟩ := slot_cells q
  obtain ⟨x0, x1, x2, x3, x4⟩ := time_cells q
  exact ⟨c8, c9, c10, g0, g1, g2, g3, g4, g5, x0, x2⟩
/-- The end of 'play': the screen is clean, and the team has finished, at this minute. -/
theorem Playing.done (q : Playing w p H d B s t0 t1 t2 t3 t4 W) (hB : B < w.heap.size) (hl : d.clean.length = 6) (hm : d.done.length = 4) {team : Int} (s0 : 0 ≤ s.f0) (s1 : s.f0 < 6) (u0 : 0 ≤ team) (u1 : team < 4) (x : Int) :
    Playing w p H ⟨d.clean.set s.f0.toNat x, d.done.set team.toNat x⟩ B s t0 t1 t2 t3 t4 ((W.setCell ⟨B, 11 + s.f0.toNat, none⟩ (.int .i64 x)).setCell ⟨B, 17 + team.toNat, none⟩ (.int .i64 x)) := by
  refine ⟨?_, blk_far (blk_far q.slot (by simp; omega) _) (by simp; omega) _, blk_far (blk_far q.res (by simp; omega) _) (by simp; omega) _, blk_far (blk_far q.times (by simp; omega) _) (by simp; omega) _, gb_set (gb_set q.grown (.inr rfl) _) (.inr rfl) _⟩
  exact blk_put (blk_put q.day _ _ (dayCells_clean s.f0 s0 (by omega) x)) _ _ (dayCells_done (d := ⟨d.clean.set s.f0.toNat x, d.done⟩) (by simpa using hl) team u0 (by simp; omega) x)
theorem Playing.fin (q : Playing w p H d B s t0 t1 t2 t3 t4 W) (hB : B < w.heap.size) :
    ((((((W.setCell ⟨w.heap.size + 1, 0, none⟩ (.int .i64 t0)).setCell ⟨w.heap.size + 1, 1, none⟩ (.int .i64 t1)).setCell ⟨w.heap.size + 1, 2, none⟩ (.int .i64 t2)).setCell ⟨w.heap.size + 1, 3, none⟩ (.int .i64 t3)).setCell ⟨w.heap.size + 1, 4, none⟩ (.int .i64 t4)).heap[B]? = some (.cells (dayCells p H d) 99 (0, 0))) ∧
    ((((((W.setCell ⟨w.heap.size + 1, 0, none⟩ (.int .i64 t0)).setCell ⟨w.heap.size + 1, 1, none⟩ (.int .i64 t1)).setCell ⟨w.heap.size + 1, 2, none⟩ (.int .i64 t2)).setCell ⟨w.heap.size + 1, 3, none⟩ (.int .i64 t3)).setCell ⟨w.heap.size + 1, 4, none⟩ (.int .i64 t4)).heap[w.heap.size + 1]? = some (.cells #[.int .i64 t0, .int .i64 t1, .int .i64 t2, .int .i64 t3, .int .i64 t4] 83 (0, 0))) ∧
    w.grownBy (((((W.setCell ⟨w.heap.size + 1, 0, none⟩ (.int .i64 t0)).setCell ⟨w.heap.size + 1, 1, none⟩ (.int .i64 t1)).setCell ⟨w.heap.size + 1, 2, none⟩ (.int .i64 t2)).setCell ⟨w.heap.size + 1, 3, none⟩ (.int .i64 t3)).setCell ⟨w.heap.size + 1, 4, none⟩ (.int .i64 t4)) (some B) := by
  have hne : B ≠ w.heap.size + 1 := by omega
  refine ⟨blk_far (blk_far (blk_far (blk_far (blk_far q.day hne _) hne _) hne _) hne _) hne _, ?_, ?_⟩
  · exact blk_put (blk_put (blk_put (blk_put (blk_put q.res 0 _ rfl) 1 _ rfl) 2 _ rfl) 3 _ rfl) 4 _ rfl
  · exact gb_set (gb_set (gb_set (gb_set (gb_set q.grown (.inl (by simp)) _) (.inl (by simp)) _) (.inl (by simp)) _) (.inl (by simp)) _) (.inl (by simp)) _
end
end Go.Proofs.Ythdbkhdiaehblaa.T
