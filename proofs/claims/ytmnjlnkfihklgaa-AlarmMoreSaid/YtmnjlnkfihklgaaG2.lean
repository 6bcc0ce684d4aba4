/- Texts of this claim, put together: A3, N6, E14, A4, N7, N8, N9, N10, A5, A6, A7, A8, A9, A10, A11. -/
import Derived.Test.YtmnjlnkfihklgaaG1
namespace Go.Proofs.Ytmnjlnkfihklgaa.T
open Go.RowKit Go.Proofs.YtmnjlnkfihklgaaW.PrintWords Go.Proofs.YtmnjlnkfihklgaaW.PrintMore
open Go.Proofs.Ytmnjlnkfihklgaa.P
set_option linter.unusedVariables false
set_option linter.unusedSimpArgs false

theorem mn_le (a b : Int) : mn a b ≤ a ∧ mn a b ≤ b := by unfold mn; split <;> omega
theorem mn_pos {a b : Int} (h : 0 < a) (k : 0 < b) : 0 < mn a b := by unfold mn; split <;> omega
theorem room_le {E : List Ed} {f : Nat → Int} {k : Nat} {b : Bool} {e : Ed} (h : FlowOk E f) (hc : ∀ e ∈ E, e.cap ≤ 1073741824) (he : E[k]? = some e) : roomP E f (k, b) ≤ 1073741824 := by
  have h1 := h k e he
  have h2 := hc e (List.mem_of_getElem? he)
  unfold roomP
  rw [getD_at he]
  cases b <;> simp only [Bool.false_eq_true, if_true, if_false] <;> omega
theorem room_ge {E : List Ed} {f : Nat → Int} {k : Nat} {b : Bool} {e : Ed} (h : FlowOk E f) (he : E[k]? = some e) : 0 ≤ roomP E f (k, b) := by
  have h1 := h k e he
  unfold roomP
  rw [getD_at he]
  cases b <;> simp only [Bool.false_eq_true, if_true, if_false] <;> omega
theorem way_min {E : List Ed} {f : Nat → Int} {P Q : List (Nat × Bool)} {k : Nat} {b : Bool} {r : List (Nat × Bool)} {x : Int} (h : ∀ h ∈ P, h ∈ Q ∨ x ≤ roomP E f h) (hQ : Q = (k, b) :: r) : ∀ h ∈ P, h ∈ r ∨ mn x (roomP E f (k, b)) ≤ roomP E f h := by
  intro a ha
  have h1 := mn_le x (roomP E f (k, b))
  rcases h a ha with q | q
  · rw [hQ] at q
    rcases List.mem_cons.mp q with q | q
    · subst q
      exact .inr h1.2
    · exact .inl q
  · exact .inr (by omega)
theorem exc_go {a b c x : Int} {u v t : Nat} (h : a = b + (if u = 1 then x else 0) - (if u = v then x else 0)) (k : c = a + (if v = u then x else 0) - (if t = u then x else 0)) : c = b + (if u = 1 then x else 0) - (if u = t then x else 0) := by
  rw [k, h]
  have e1 : (if v = u then x else 0) = (if u = v then x else 0) := by by_cases q : u = v <;> simp [q, eq_comm]
  have e2 : (if t = u then x else 0) = (if u = t then x else 0) := by by_cases q : u = t <;> simp [q, eq_comm]
  rw [e1, e2]
  omega

theorem rd104_at {w : World} {base : Nat} {A : Option Addr} {n c : Nat} {xs : List S104} {i : Nat} {x : S104} (R : Kd.R k104 104 w base (fun _ => True) (.slice A n c) xs) (hi : xs[i]? = some x) :
    ∃ g, A = some ⟨g, 0, none⟩ ∧ w.cell? ⟨g, i * 2, none⟩ = some (.int .i64 x.f0) ∧ w.cell? ⟨g, i * 2 + 1, none⟩ = some (.int .i64 x.f1) := by
  have hil := (List.getElem?_eq_some_iff.1 hi).1
  obtain ⟨g, cap, hv, hb, hl, cells, hc⟩ := Kd.R_form R (by omega)
  have hn := (Kd.R_reads' R).1
  injection hv with hA hn' hc'
  subst hA hc'
  obtain ⟨cs, h1, h2, h3, h4⟩ := Kd.R_elem R x (i : Int) (by omega) (by omega)
  obtain rfl := k104_open (Kd.K_of_M k104 h2)
  rw [Int.toNat_natCast] at h2 h3 h4
  have hx : xs.getD i x = x := by simp [List.getD_eq_getElem?_getD, hi]
  rw [hx] at h3
  exact ⟨g, rfl, h3 0 _ rfl, h3 1 _ rfl⟩
theorem bool_at {w : World} {base : Nat} {A : Option Addr} {n c : Nat} {xs : List Bool} {i : Nat} {s : Bool} (R : Kd.R kB 4 w base (fun _ => True) (.slice A n c) xs) (hs : xs[i]? = some s) :
    ∃ g, A = some ⟨g, 0, none⟩ ∧ w.cell? ⟨g, i * 1, none⟩ = some (.bool s) := by
  obtain ⟨g, h1, _, h2, _⟩ := rowB_at R hs
  exact ⟨g, h1, h2⟩
/-- An entry of a row: its cells, and what a write of its room leaves. -/
theorem row98_at {W : World} {base : Nat} {A : Option Addr} {n c : Nat} {xs : List S98} {i : Nat} {x : S98} (R : Kd.R k98 98 W base (fun _ => True) (.slice A n c) xs) (hi : xs[i]? = some x) :
    ∃ g, A = some ⟨g, 0, none⟩ ∧ base ≤ g ∧ W.cell? ⟨g, i * 5 + 1, none⟩ = some (.int .i64 x.f1) ∧ W.cell? ⟨g, i * 5 + 2, none⟩ = some (.int .i64 x.f2) ∧ W.frozen? ⟨g, i * 5 + 1, none⟩ = false ∧ (∃ cells, W.heap[g]? = some (.cells cells 98 (0, 0))) ∧
      (∀ y : Int, ∃ w', w' = W.setCell ⟨g, i * 5 + 1, none⟩ (.int .i64 y) ∧ Kd.R k98 98 w' base (fun _ => True) (.slice A n c) (xs.set i { x with f1 := y }) ∧ W.grownBy w' (some g)) := by
  have hil := (List.getElem?_eq_some_iff.1 hi).1
  obtain ⟨g, cap, hv, hb, hl, cells, hc⟩ := Kd.R_form R (by omega)
  have hn := (Kd.R_reads' R).1
  injection hv with hA hn' hc'
  subst hA hc'
  obtain ⟨cs, h1, h2, h3, h4⟩ := Kd.R_elem R x (i : Int) (by omega) (by omega)
  have hx : xs.getD i x = x := by simp [List.getD_eq_getElem?_getD, hi]
  rw [Int.toNat_natCast, hx] at h2
  obtain rfl := k98_open (Kd.K_of_M k98 h2)
  rw [Int.toNat_natCast] at h3 h4
  refine ⟨g, rfl, hb, h3 1 _ rfl, h3 2 _ rfl, h4 1, ⟨cells, hc⟩, fun y => ⟨_, rfl, ?_⟩⟩
  have := Kd.R_seg R (i : Int) (by omega) (by omega) (seg := [.int .i64 y]) (j := 1) h1 (by rw [Int.toNat_natCast]; exact h3) (by show 1 + 1 ≤ 5; decide) (x' := { x with f1 := y }) (okp := fun _ => False) (k98_mkM _ _ _ { x with f1 := y }) (fun _ hk => hk.elim)
  rw [Int.toNat_natCast] at this
  exact this
/-- Where a push stands in memory. -/
structure Pm (w0 wS w : World) (base gN gE n : Nat) (H : Hd) (out : Int) (xss : List (List S98)) (vs : List Value) (bY : Nat) (A : Option Addr) (m c : Nat) (bl : List S104) : Prop where
  hb : base ≤ gN
  blk : w.heap[gN]? = some (.cells (netC H gE n out).toArray 76 (0, 0))
  rows : Rows k98 98 96 w base gE xss vs
  by_ : Kd.R k104 104 w bY (fun _ => True) (.slice A m c) bl
  bel : Below base w0 w
  size : base ≤ w.heap.size
  calm : CalmT 98 96 wS w
section
variable {w0 wS w w' : World} {base gN gE n : Nat} {H : Hd} {out : Int} {xss : List (List S98)} {vs : List Value} {bY : Nat} {A : Option Addr} {m c : Nat} {bl : List S104}
theorem Pm.below (h : Pm w0 wS w base gN gE n H out xss vs bY A m c bl) (l : Below w.heap.size w w') : Pm w0 wS w' base gN gE n H out xss vs bY A m c bl :=
  ⟨h.hb, blk_below h.blk l, h.rows.below l, Kd.R_below h.by_ l, below_step' h.bel h.size l, Nat.le_trans h.size l.size, h.calm.trans (CalmT.below l)⟩
theorem Pm.entry (h : Pm w0 wS w base gN gE n H out xss vs bY A m c bl) {u i : Nat} {xs : List S98} {x : S98} (hu : xss[u]? = some xs) (hi : xs[i]? = some x) :
    ∃ Au cu g, w.cell? ⟨gE, u * 1, none⟩ = some (.slice Au xs.length cu) ∧ Au = some ⟨g, 0, none⟩ ∧ w.cell? ⟨g, i * 5 + 1, none⟩ = some (.int .i64 x.f1) ∧ w.cell? ⟨g, i * 5 + 2, none⟩ = some (.int .i64 x.f2) ∧ w.frozen? ⟨g, i * 5 + 1, none⟩ = false ∧
      (∀ y : Int, ∃ w', w' = w.setCell ⟨g, i * 5 + 1, none⟩ (.int .i64 y) ∧ Pm w0 wS w' base gN gE n H out (xss.set u (xs.set i { x with f1 := y })) vs bY A m c bl ∧ w'.cell? ⟨g, i * 5 + 2, none⟩ = some (.int .i64 x.f2)) := by
  obtain ⟨Au, cu, hv, R⟩ := h.rows.at_ hu
  obtain ⟨g, eA, hg, c1, c2, fr, ⟨cells, hc⟩, st⟩ := row98_at R hi
  refine ⟨Au, cu, g, h.rows.cell hv, eA, c1, c2, fr, fun y => ?_⟩
  obtain ⟨w', hw', R', g'⟩ := st y
  have ho : (Value.slice Au xs.length cu).ownBlock = some g := by rw [eA]; rfl
  have hil := (List.getElem?_eq_some_iff.1 hi).1
  have c2' : w'.cell? ⟨g, i * 5 + 2, none⟩ = some (.int .i64 x.f2) := by
    obtain ⟨g2, e2, _, _, q, _⟩ := row98_at R' (show (xs.set i { x with f1 := y })[i]? = some { x with f1 := y } from List.getElem?_set_self hil)
    obtain rfl : g = g2 := by
      have := eA.symm.trans e2
      injection this with this
      injection this
    exact q
  refine ⟨w', hw', ⟨h.hb, blk_grown h.blk g' (E.nes (blk_ne h.blk hc (by decide))), h.rows.written rfl (by decide) hv hu (by rw [ho]; exact g') R', over_blk h.by_ hc (by decide) rfl g', h.bel.grown g' h.size (fun z ez => by cases ez; exact hg), Nat.le_trans h.size g'.size, h.calm.trans (CalmT.blk hc (.inl rfl) g')⟩, c2'⟩
end
structure Ph where
  v : Nat
  P : List (Nat × Bool)
  x : Int
  f : Nat → Int
  vs : List Value
set_option maxRecDepth 100000 in
set_option maxHeartbeats 8000000 in

theorem push_calls (gN base gE n : Nat) (H : Hd) (out : Int) (Es : List Ed) (f : Nat → Int) (w0 wS : World) (hN : Net wS base gN gE n H out Es f) (hB : Below base w0 wS) (hsz : base ≤ wS.heap.size) (hE : EdsOk Es n) (hn1 : 1 < n) (hn : n ≤ 100000) (hEl : Es.length ≤ 100000) (hf : FlowOk Es f) (hcap : ∀ e ∈ Es, e.cap ≤ 1073741824) :
    Calls Try.prog 61 #[.pointer (some ⟨gN, 0, none⟩)] wS fun e w' => ∃ r g, e = .returned (.int .i64 r) ∧ r ≤ 1073741824 ∧ PushOk Es n f g r ∧ Net w' base gN gE n H out Es g ∧ Below base w0 w' ∧ base ≤ w'.heap.size ∧ CalmT 98 96 wS w' := by
  have hu3 := Try.underlying3
  have hu4 := Try.underlying4
  have hu74 := Try.underlying74
  have hu76 := Try.underlying76
  have hu96 := Try.underlying96
  have hu98 := Try.underlying98
  have hu99 := Try.underlying99
  have hu100 := Try.underlying100
  have hu104 := Try.underlying104
  obtain ⟨z3, o3⟩ := info_some info3s (by decide)
  obtain ⟨z4, o4⟩ := info_some info4s (by decide)
  obtain ⟨z74, o74⟩ := info_some info74s (by decide)
  obtain ⟨z96, o96⟩ := info_some info96s (by decide)
  obtain ⟨z98, o98⟩ := info_some info98s (by decide)
  obtain ⟨z104, o104⟩ := info_some info104s (by decide)
  refine E.enter (N := 97) Try.func61 rfl Try.ntmps61 (args := [.pointer (some ⟨gN, 0, none⟩)]) (by simp) ?_
  have L := Below.refl wS.heap.size wS
  refine E.CG.seq ?_
  refine E.CG.list ?_
  refine E.GL.run rfl rfl rfl (E.Runs.assign rfl rfl) ?_
  refine E.GL.done ?_
  refine E.QG.code ?_
  refine E.CG.seq ?_
  refine E.CG.list ?_
  refine E.GL.run rfl rfl rfl (E.Runs.move rfl rfl) ?_
  refine E.GL.st rfl rfl rfl (E.ST.call rfl ent64 (E.evc rfl E.evn) ((reach_calls gN base gE n H out Es f _ (hN.below L) hE (by omega) hn hEl).mono ?_))
  rintro e w11 ⟨A1, A2, c1, c2, bl, il, rfl, RY, RI, hK, l11⟩
  refine ⟨_, rfl, ?_⟩
  replace L := below_step L l11
  refine E.GL.run rfl rfl rfl (E.Runs.move rfl rfl) ?_
  refine E.GL.run rfl rfl rfl (E.Runs.extract rfl rfl rfl) ?_
  refine E.GL.run rfl rfl rfl (E.Runs.extract rfl rfl rfl) ?_
  refine E.GL.run rfl rfl rfl (E.Runs.assign rfl rfl) ?_
  refine E.GL.run rfl rfl rfl (E.Runs.assign rfl rfl) ?_
  refine E.GL.done ?_
  refine E.QG.code ?_
  refine E.CG.seq ?_
  refine E.CG.seq ?_
  obtain ⟨bt, hbt⟩ : ∃ b, il[1]? = some b := ⟨_, List.getElem?_eq_getElem (by rw [hK.li]; exact hn1)⟩
  obtain ⟨gI, eI, cI⟩ := bool_at RI hbt
  obtain ⟨hbN, bN, vs0, hR⟩ := hN.below l11
  have hS0 : Pm w0 wS _ base gN gE n H out (rowsP Es f n) vs0 wS.heap.size A1 n c1 bl := ⟨hbN, bN, hR, RY, below_step' hB hsz l11, Nat.le_trans hsz l11.size, CalmT.below l11⟩
  refine E.CG.list ?_
  refine E.GL.run rfl rfl rfl (E.Runs.move rfl rfl) ?_
  refine E.GL.run rfl rfl rfl (E.Runs.indexAddrA (i := 1) rfl rfl rfl hu100 z4 o4 (by omega) eI (show _ = (⟨gI, 1 * 1, none⟩ : Addr) from by rw [Go.Addr.add_mid, Nat.zero_add])) ?_
  rcases bt with _ | _
  · refine E.GL.run rfl rfl rfl (E.Runs.load1 rfl rfl hu4 rfl cI) ?_
    refine E.GL.run rfl rfl rfl (E.Runs.not rfl rfl) ?_
    refine E.GL.done ?_
    refine E.QG.code ?_
    refine E.CG.cond_t rfl ?_
    refine E.CG.seq ?_
    refine E.CG.list ?_
    refine E.GL.run rfl rfl rfl (E.Runs.assign rfl rfl) ?_
    refine E.GL.done ?_
    refine E.QG.code ?_
    refine E.CG.ret ?_
    refine E.QG.pass_ret ?_
    exact E.QG.result rfl rfl ⟨0, f, rfl, by decide, .inl ⟨rfl, rfl, bl, il, hK, hbt⟩, ⟨hS0.hb, hS0.blk, _, hS0.rows⟩, hS0.bel, hS0.size, hS0.calm⟩
  · refine E.GL.run rfl rfl rfl (E.Runs.load1 rfl rfl hu4 rfl cI) ?_
    refine E.GL.run rfl rfl rfl (E.Runs.not rfl rfl) ?_
    refine E.GL.done ?_
    refine E.QG.code ?_
    refine E.CG.cond_f rfl ?_
    refine E.CG.skip ?_
    refine E.QG.code ?_
    refine E.CG.seq ?_
    refine E.CG.list ?_
    refine E.GL.run rfl rfl rfl (E.Runs.assign rfl rfl) ?_
    refine E.GL.done ?_
    refine E.QG.code ?_
    refine E.CG.seq ?_
    refine E.CG.seq ?_
    refine E.CG.list ?_
    refine E.GL.run rfl rfl rfl (E.Runs.assign rfl rfl) ?_
    refine E.GL.done ?_
    refine E.QG.code ?_
    refine E.CG.block ?_
    obtain ⟨P, hw, hnd⟩ := way_of hK hE hn1 hbt
    have s6_L := L
    refine E.CG.loop (fun (s : Ph) => [(0, .pointer (some ⟨gN, 0, none⟩)), (3, .slice A1 n c1), (5, .int .i64 s.x), (6, .int .i64 s.v)]) (fun s w' => Way Es f n bl s.v s.P ∧ 0 < s.x ∧ s.x ≤ 1073741824 ∧ (∀ h ∈ P, h ∈ s.P ∨ s.x ≤ roomP Es f h) ∧ Pm w0 wS w' base gN gE n H out (rowsP Es f n) s.vs wS.heap.size A1 n c1 bl) (fun s => s.P.length) ⟨1, P, 1073741824, f, vs0⟩ (E.subc rfl (E.subc rfl (E.subc rfl (E.subc rfl E.subn)))) ⟨hw, (by show (0 : Int) < 1073741824; decide), (by show (1073741824 : Int) ≤ 1073741824; decide), fun h hm => .inl hm, hS0⟩ ?_
    rintro s w6 ⟨hw2, hx0, hx1, hx2, hM⟩
    refine E.CG.seq ?_
    refine E.CG.seq ?_
    refine E.CG.list ?_
    refine E.GL.run rfl rfl rfl (E.Runs.move rfl rfl) ?_
    refine E.GL.cmpn rfl rfl rfl (fun _ h => (E.Runs.neq rfl rfl rfl h)) (fun h19 => ?_) (fun h19 => ?_)
    · obtain ⟨⟨k, b⟩, r, hP⟩ : ∃ h r, s.P = h :: r := by
        cases hq : s.P with
        | nil => rw [hq] at hw2; exact absurd (by have : s.v = 0 := hw2; omega) h19
        | cons a r => exact ⟨a, r, rfl⟩
      rw [hP] at hw2
      obtain ⟨hv0, hvn', e, he, hfar, hnear, hbl, hroom, hwr⟩ := hw2
      have hne := (hE e (List.mem_of_getElem? he)).2.2
      have hvn : (s.v : Int) < n := by omega
      have hun : ((near e b : Nat) : Int) < n := by omega
      have hent : (rowP Es f (near e b))[idx Es (near e b) k]? = some (entP Es f (k, b)) := by unfold rowP; rw [List.getElem?_map, hs_near he hne b]; rfl
      have hix : ((idx Es (near e b) k : Nat) : Int) < (rowP Es f (near e b)).length := by have := (List.getElem?_eq_some_iff.1 hent).1; omega
      rw [entP_is he] at hent
      obtain ⟨gY, eY, cY0, cY1⟩ := rd104_at hM.by_ hbl
      replace cY0 : World.cell? w6 ⟨gY, s.v * 2, none⟩ = some (.int .i64 ((near e b : Nat) : Int)) := cY0
      replace cY1 : World.cell? w6 ⟨gY, s.v * 2 + 1, none⟩ = some (.int .i64 ((idx Es (near e b) k : Nat) : Int)) := cY1
      have c3 : World.cell? w6 ⟨gN, 3, none⟩ = some (.slice (some ⟨gE, 0, none⟩) n n) := E.blkc hM.blk rfl
      obtain ⟨Au, cu, gu, cE, eU, cU1, cU2, fU, stU⟩ := hM.entry (rowsP_get hnear) hent
      replace cU1 : World.cell? w6 ⟨gu, idx Es (near e b) k * 5 + 1, none⟩ = some (.int .i64 (roomP Es f (k, b))) := cU1
      have hrb : roomP Es f (k, b) ≤ 1073741824 := room_le hf hcap he
      refine E.GL.done ?_
      refine E.QG.code ?_
      refine E.CG.cond_t rfl ?_
      refine E.CG.skip ?_
      refine E.QG.code ?_
      refine E.CG.seq ?_
      refine E.CG.block ?_
      refine E.CG.quietF (by kernel_rfl) rfl (by kernel_rfl) (by kernel_rfl) ?_
      refine E.GQ.run rfl rfl rfl (E.Runs.move rfl rfl) ?_
      refine E.GQ.run rfl rfl rfl (E.Runs.move rfl rfl) ?_
      refine E.GQ.run rfl rfl rfl (E.Runs.nilCheck rfl rfl) ?_
      refine E.GQ.run rfl rfl rfl (E.Runs.fieldAddr rfl rfl hu76 rfl (by assumption) rfl) ?_
      refine E.GQ.run rfl rfl rfl (E.Runs.load1 rfl rfl hu74 rfl (by first | assumption | exact E.blkc (by assumption) rfl)) ?_
      refine E.GQ.run rfl rfl rfl (E.Runs.move rfl rfl) ?_
      refine E.GQ.run rfl rfl rfl (E.Runs.move rfl rfl) ?_
      refine E.GQ.run rfl rfl rfl (E.Runs.indexAddrA rfl rfl rfl hu99 z104 o104 hvn eY (show _ = (⟨gY, s.v * 2, none⟩ : Addr) from by rw [Go.Addr.add_mid, Nat.zero_add])) ?_
      refine E.GQ.run rfl rfl rfl (E.Runs.fieldAddr rfl rfl hu104 rfl (by assumption) (show _ = (⟨gY, s.v * 2, none⟩ : Addr) from rfl)) ?_
      refine E.GQ.run rfl rfl rfl (E.Runs.load rfl rfl hu3 (by first | assumption | exact E.blkc (by assumption) rfl)) ?_
      refine E.GQ.run rfl rfl rfl (E.Runs.indexAddrA rfl rfl rfl hu74 z96 o96 hun rfl (show _ = (⟨gE, (near e b) * 1, none⟩ : Addr) from by rw [Go.Addr.add_mid, Nat.zero_add])) ?_
      refine E.GQ.run rfl rfl rfl (E.Runs.load1 rfl rfl hu96 rfl (by first | assumption | exact E.blkc (by assumption) rfl)) ?_
      refine E.GQ.run rfl rfl rfl (E.Runs.move rfl rfl) ?_
      refine E.GQ.run rfl rfl rfl (E.Runs.move rfl rfl) ?_
      refine E.GQ.run rfl rfl rfl (E.Runs.indexAddrA rfl rfl rfl hu99 z104 o104 hvn eY (show _ = (⟨gY, s.v * 2, none⟩ : Addr) from by rw [Go.Addr.add_mid, Nat.zero_add])) ?_
      refine E.GQ.run rfl rfl rfl (E.Runs.fieldAddr rfl rfl hu104 rfl (by assumption) (show _ = (⟨gY, s.v * 2 + 1, none⟩ : Addr) from rfl)) ?_
      refine E.GQ.run rfl rfl rfl (E.Runs.load rfl rfl hu3 (by first | assumption | exact E.blkc (by assumption) rfl)) ?_
      refine E.GQ.run rfl rfl rfl (E.Runs.indexAddrA rfl rfl rfl hu96 z98 o98 hix eU (show _ = (⟨gu, idx Es (near e b) k * 5, none⟩ : Addr) from by rw [Go.Addr.add_mid, Nat.zero_add])) ?_
      refine E.GQ.run rfl rfl rfl (E.Runs.fieldAddr rfl rfl hu98 rfl (by assumption) (show _ = (⟨gu, idx Es (near e b) k * 5 + 1, none⟩ : Addr) from rfl)) ?_
      refine E.GQ.run rfl rfl rfl (E.Runs.load rfl rfl hu3 (by first | assumption | exact E.blkc (by assumption) rfl)) ?_
      refine E.GQ.run rfl rfl rfl (E.Runs.min rfl rfl rfl rfl) ?_
      refine E.GQ.run rfl rfl rfl (E.Runs.assign rfl rfl) ?_
      refine E.GQ.doneB fun v8 lD => ?_
      replace hM := hM.below lD
      have lD8 := lD
      clear lD
      refine E.QG.block_normal ?_
      refine E.QG.code ?_
      obtain ⟨gY, eY, cY0, cY1⟩ := rd104_at hM.by_ hbl
      replace cY0 : World.cell? _ ⟨gY, s.v * 2, none⟩ = some (.int .i64 ((near e b : Nat) : Int)) := cY0
      refine E.CG.list ?_
      refine E.GL.run rfl rfl rfl (E.Runs.move rfl rfl) ?_
      refine E.GL.run rfl rfl rfl (E.Runs.move rfl rfl) ?_
      refine E.GL.run rfl rfl rfl (E.Runs.indexAddrA rfl rfl rfl hu99 z104 o104 hvn eY (show _ = (⟨gY, s.v * 2, none⟩ : Addr) from by rw [Go.Addr.add_mid, Nat.zero_add])) ?_
      refine E.GL.run rfl rfl rfl (E.Runs.fieldAddr rfl rfl hu104 rfl (by assumption) (show _ = (⟨gY, s.v * 2, none⟩ : Addr) from rfl)) ?_
      refine E.GL.run rfl rfl rfl (E.Runs.load rfl rfl hu3 (by first | assumption | exact E.blkc (by assumption) rfl)) ?_
      refine E.GL.run rfl rfl rfl (E.Runs.assign rfl rfl) ?_
      refine E.GL.done ?_
      exact E.QG.round ⟨near e b, r, mn s.x (roomP Es f (k, b)), f, s.vs⟩ (E.subc rfl (E.subc rfl (E.subc rfl (E.subc rfl E.subn)))) ⟨hwr, mn_pos hx0 hroom, Int.le_trans (mn_le _ _).1 hx1, way_min hx2 hP, hM⟩ (by simp only [hP, List.length_cons]; omega)
    · have hPe : s.P = [] := by
        cases hq : s.P with
        | nil => rfl
        | cons a r =>
          rw [hq] at hw2
          have := hw2.1
          omega
      have hx3 : ∀ h ∈ P, s.x ≤ roomP Es f h := fun h hm => (hx2 h hm).resolve_left (by rw [hPe]; simp)
      refine E.GL.done ?_
      refine E.QG.code ?_
      refine E.CG.cond_f rfl ?_
      refine E.CG.exit ?_
      refine E.QG.pass_exit ?_
      refine E.QG.pass_exit ?_
      refine E.QG.block_here ?_
      refine E.QG.code ?_
      refine E.CG.seq ?_
      refine E.CG.seq ?_
      refine E.CG.list ?_
      refine E.GL.run rfl rfl rfl (E.Runs.assign rfl rfl) ?_
      refine E.GL.done ?_
      refine E.QG.code ?_
      refine E.CG.block ?_
      refine E.CG.loop (fun (s2 : Ph) => [(0, .pointer (some ⟨gN, 0, none⟩)), (3, .slice A1 n c1), (5, .int .i64 s.x), (7, .int .i64 s2.v)]) (fun s2 w' => Way Es s2.f n bl s2.v s2.P ∧ (s2.P.map Prod.fst).Nodup ∧ (∀ h ∈ s2.P, s.x ≤ roomP Es s2.f h) ∧ FlowOk Es s2.f ∧ (∀ u, exc s2.f u Es 0 = exc f u Es 0 + (if u = 1 then s.x else 0) - (if u = s2.v then s.x else 0)) ∧ Pm w0 wS w' base gN gE n H out (rowsP Es s2.f n) s2.vs wS.heap.size A1 n c1 bl) (fun s2 => s2.P.length) ⟨1, P, 0, f, s.vs⟩ (E.subc rfl (E.subc rfl (E.subc rfl (E.subc rfl E.subn)))) ⟨hw, hnd, hx3, hf, fun u => by simp only; split <;> omega, hM⟩ ?_
      rintro s2 w10 ⟨hw2, hnd2, hx2, ho2, hex, hM⟩
      clear hS0
      refine E.CG.seq ?_
      refine E.CG.seq ?_
      refine E.CG.list ?_
      refine E.GL.run rfl rfl rfl (E.Runs.move rfl rfl) ?_
      refine E.GL.cmpn rfl rfl rfl (fun _ h => (E.Runs.neq rfl rfl rfl h)) (fun h47 => ?_) (fun h47 => ?_)
      · obtain ⟨⟨k, b⟩, r, hP⟩ : ∃ h r, s2.P = h :: r := by
          cases hq : s2.P with
          | nil => rw [hq] at hw2; exact absurd (by have : s2.v = 0 := hw2; omega) h47
          | cons a r => exact ⟨a, r, rfl⟩
        rw [hP] at hw2
        obtain ⟨hv0, hvn', e, he, hfar, hnear, hbl, hroom, hwr⟩ := hw2
        have hne := (hE e (List.mem_of_getElem? he)).2.2
        have hvn : (s2.v : Int) < n := by omega
        have hun : ((near e b : Nat) : Int) < n := by omega
        have hent : (rowP Es s2.f (near e b))[idx Es (near e b) k]? = some (entP Es s2.f (k, b)) := by unfold rowP; rw [List.getElem?_map, hs_near he hne b]; rfl
        have hix : ((idx Es (near e b) k : Nat) : Int) < (rowP Es s2.f (near e b)).length := by have := (List.getElem?_eq_some_iff.1 hent).1; omega
        rw [entP_is he] at hent
        obtain ⟨gY, eY, cY0, cY1⟩ := rd104_at hM.by_ hbl
        replace cY0 : World.cell? w10 ⟨gY, s2.v * 2, none⟩ = some (.int .i64 ((near e b : Nat) : Int)) := cY0
        replace cY1 : World.cell? w10 ⟨gY, s2.v * 2 + 1, none⟩ = some (.int .i64 ((idx Es (near e b) k : Nat) : Int)) := cY1
        have c3 : World.cell? w10 ⟨gN, 3, none⟩ = some (.slice (some ⟨gE, 0, none⟩) n n) := E.blkc hM.blk rfl
        obtain ⟨Au, cu, gu, cE, eU, cU1, cU2, fU, stU⟩ := hM.entry (rowsP_get hnear) hent
        replace cU1 : World.cell? w10 ⟨gu, idx Es (near e b) k * 5 + 1, none⟩ = some (.int .i64 (roomP Es s2.f (k, b))) := cU1
        have hrb : roomP Es s2.f (k, b) ≤ 1073741824 := room_le ho2 hcap he
        refine E.GL.done ?_
        refine E.QG.code ?_
        refine E.CG.cond_t rfl ?_
        refine E.CG.skip ?_
        refine E.QG.code ?_
        refine E.CG.seq ?_
        refine E.CG.block ?_
        refine E.CG.seq ?_
        refine E.CG.quietF (by kernel_rfl) rfl (by kernel_rfl) (by kernel_rfl) ?_
        refine E.GQ.run rfl rfl rfl (E.Runs.move rfl rfl) ?_
        refine E.GQ.run rfl rfl rfl (E.Runs.nilCheck rfl rfl) ?_
        refine E.GQ.run rfl rfl rfl (E.Runs.fieldAddr rfl rfl hu76 rfl (by assumption) rfl) ?_
        refine E.GQ.run rfl rfl rfl (E.Runs.load1 rfl rfl hu74 rfl (by first | assumption | exact E.blkc (by assumption) rfl)) ?_
        refine E.GQ.run rfl rfl rfl (E.Runs.move rfl rfl) ?_
        refine E.GQ.run rfl rfl rfl (E.Runs.move rfl rfl) ?_
        refine E.GQ.run rfl rfl rfl (E.Runs.indexAddrA rfl rfl rfl hu99 z104 o104 hvn eY (show _ = (⟨gY, s2.v * 2, none⟩ : Addr) from by rw [Go.Addr.add_mid, Nat.zero_add])) ?_
        refine E.GQ.run rfl rfl rfl (E.Runs.fieldAddr rfl rfl hu104 rfl (by assumption) (show _ = (⟨gY, s2.v * 2, none⟩ : Addr) from rfl)) ?_
        refine E.GQ.run rfl rfl rfl (E.Runs.load rfl rfl hu3 (by first | assumption | exact E.blkc (by assumption) rfl)) ?_
        refine E.GQ.run rfl rfl rfl (E.Runs.indexAddrA rfl rfl rfl hu74 z96 o96 hun rfl (show _ = (⟨gE, (near e b) * 1, none⟩ : Addr) from by rw [Go.Addr.add_mid, Nat.zero_add])) ?_
        refine E.GQ.run rfl rfl rfl (E.Runs.load1 rfl rfl hu96 rfl (by first | assumption | exact E.blkc (by assumption) rfl)) ?_
        refine E.GQ.run rfl rfl rfl (E.Runs.move rfl rfl) ?_
        refine E.GQ.run rfl rfl rfl (E.Runs.move rfl rfl) ?_
        refine E.GQ.run rfl rfl rfl (E.Runs.indexAddrA rfl rfl rfl hu99 z104 o104 hvn eY (show _ = (⟨gY, s2.v * 2, none⟩ : Addr) from by rw [Go.Addr.add_mid, Nat.zero_add])) ?_
        refine E.GQ.run rfl rfl rfl (E.Runs.fieldAddr rfl rfl hu104 rfl (by assumption) (show _ = (⟨gY, s2.v * 2 + 1, none⟩ : Addr) from rfl)) ?_
        refine E.GQ.run rfl rfl rfl (E.Runs.load rfl rfl hu3 (by first | assumption | exact E.blkc (by assumption) rfl)) ?_
        refine E.GQ.run rfl rfl rfl (E.Runs.indexAddrA rfl rfl rfl hu96 z98 o98 hix eU (show _ = (⟨gu, idx Es (near e b) k * 5, none⟩ : Addr) from by rw [Go.Addr.add_mid, Nat.zero_add])) ?_
        refine E.GQ.run rfl rfl rfl (E.Runs.assign rfl rfl) ?_
        refine E.GQ.doneB fun v12 lD => ?_
        replace hM := hM.below lD
        have lD12 := lD
        clear lD
        refine E.QG.code ?_
        refine E.CG.seq ?_
        obtain ⟨Au', cu', gu', cE', eU', cU1', cU2', fU', stU'⟩ := hM.entry (rowsP_get hnear) hent
        have hbr := hx2 _ (by rw [hP]; exact List.mem_cons_self)
        obtain rfl : gu = gu' := by
          have e1 := cE'
          rw [pw_cell_below lD12 cE] at e1
          injection e1 with e1
          injection e1 with e1
          rw [← e1] at eU'
          have := eU.symm.trans eU'
          injection this with this
          injection this
        replace cU1' : World.cell? _ ⟨gu, idx Es (near e b) k * 5 + 1, none⟩ = some (.int .i64 (roomP Es s2.f (k, b))) := cU1'
        refine E.CG.list ?_
        refine E.GL.run rfl rfl rfl (E.Runs.move rfl rfl) ?_
        refine E.GL.run rfl rfl rfl (E.Runs.nilCheck rfl rfl) ?_
        refine E.GL.run rfl rfl rfl (E.Runs.fieldAddr rfl rfl hu98 rfl (by assumption) (show _ = (⟨gu, idx Es (near e b) k * 5 + 1, none⟩ : Addr) from rfl)) ?_
        refine E.GL.run rfl rfl rfl (E.Runs.load rfl rfl hu3 cU1') ?_
        refine E.GL.run rfl rfl rfl (E.Runs.move rfl rfl) ?_
        refine E.GL.run rfl rfl rfl (E.Runs.sub rfl rfl rfl (IntWalk.i64_in _ (by omega))) ?_
        refine E.GL.run rfl rfl rfl (E.Runs.nilCheck rfl rfl) ?_
        refine E.GL.run rfl rfl rfl (E.Runs.fieldAddr rfl rfl hu98 rfl (by assumption) (show _ = (⟨gu, idx Es (near e b) k * 5 + 1, none⟩ : Addr) from rfl)) ?_
        refine E.GL.sn rfl rfl (E.ST.storeN rfl z3 o3 rfl rfl cU1' fU' ?_)
        obtain ⟨w13, hw13, hM13, cB⟩ := stU' (roomP Es s2.f (k, b) - s.x)
        rw [← hw13]
        replace cB : World.cell? w13 ⟨gu, idx Es (near e b) k * 5 + 2, none⟩ = some (.int .i64 ((idx Es s2.v k : Nat) : Int)) := by rw [← hfar]; exact cB
        clear hM stU stU' cU1' cE' cU2' fU' fU cU1 cU2 cY0 cY1 c3 cE
        have hM := hM13
        clear hM13
        refine E.GL.done ?_
        refine E.QG.code ?_
        refine E.CG.heldJ 18 (fun v W => v.grownBy W (none)) (fun _ _ => True) (by kernel_rfl) (by kernel_rfl) (fun v => World.grownBy.refl _ _) fun v14 lD => ?_
        replace hM := hM.below lD
        have lD14 := lD
        clear lD
        replace cB := pw_cell_below lD14 cB
        have c3 : World.cell? v14 ⟨gN, 3, none⟩ = some (.slice (some ⟨gE, 0, none⟩) n n) := E.blkc hM.blk rfl
        have hnv : near e b ≠ s2.v := by rw [← hfar]; cases b <;> simp only [near, far, Bool.false_eq_true, if_true, if_false] <;> omega
        have hrow2 : ((rowsP Es s2.f n).set (near e b) ((rowP Es s2.f (near e b)).set (idx Es (near e b) k) { (⟨(far e b : Nat), roomP Es s2.f (k, b), (idx Es (far e b) k : Nat), if b then ⟨e.up, e.um⟩ else ⟨-1, 0⟩⟩ : S98) with f1 := roomP Es s2.f (k, b) - s.x }))[s2.v]? = some (rowP Es s2.f s2.v) := by rw [List.getElem?_set_ne hnv]; exact rowsP_get hvn'
        have hent2 : (rowP Es s2.f s2.v)[idx Es s2.v k]? = some (entP Es s2.f (k, !b)) := by have := hs_near he hne (!b); rw [near_not, hfar] at this; unfold rowP; rw [List.getElem?_map, this]; rfl
        have hix2 : ((idx Es s2.v k : Nat) : Int) < (rowP Es s2.f s2.v).length := by have := (List.getElem?_eq_some_iff.1 hent2).1; omega
        rw [entP_is he, far_not] at hent2
        obtain ⟨At, ct, gt, cE2, eT, cT1, cT2, fT, stT⟩ := hM.entry hrow2 hent2
        replace cT1 : World.cell? v14 ⟨gt, idx Es s2.v k * 5 + 1, none⟩ = some (.int .i64 (roomP Es s2.f (k, !b))) := cT1
        have hrb2 : roomP Es s2.f (k, !b) ≤ 1073741824 := room_le ho2 hcap he
        have hrb3 : 0 ≤ roomP Es s2.f (k, !b) := room_ge ho2 he
        have s_hM := hM
        refine E.GJ.take1 (i := 0) rfl (by kernel_rfl) (by kernel_rfl) (by kernel_rfl) (by kernel_rfl) rfl (by kernel_rfl) (by kernel_rfl) (by intro c a d v w h; cases d <;> exact h) rfl rfl rfl (fun w' hS => (E.Runs.move rfl rfl)) ?_
        refine E.GJ.take1 (i := 1) rfl (by kernel_rfl) (by kernel_rfl) (by kernel_rfl) (by kernel_rfl) rfl (by kernel_rfl) (by kernel_rfl) (by intro c a d v w h; cases d <;> exact h) rfl rfl rfl (fun w' hS => (E.Runs.nilCheck rfl rfl)) ?_
        refine E.GJ.take1 (i := 2) rfl (by kernel_rfl) (by kernel_rfl) (by kernel_rfl) (by kernel_rfl) rfl (by kernel_rfl) (by kernel_rfl) (by intro c a d v w h; cases d <;> exact h) rfl rfl rfl (fun w' hS => (E.Runs.fieldAddr rfl rfl hu76 rfl (by assumption) rfl)) ?_
        refine E.GJ.take1 (i := 3) rfl (by kernel_rfl) (by kernel_rfl) (by kernel_rfl) (by kernel_rfl) rfl (by kernel_rfl) (by kernel_rfl) (by intro c a d v w h; cases d <;> exact h) rfl rfl rfl (fun w' hS => (E.Runs.load1 rfl rfl hu74 rfl (E.keeps hS c3 E.nen))) ?_
        refine E.GJ.take1 (i := 4) rfl (by kernel_rfl) (by kernel_rfl) (by kernel_rfl) (by kernel_rfl) rfl (by kernel_rfl) (by kernel_rfl) (by intro c a d v w h; cases d <;> exact h) rfl rfl rfl (fun w' hS => (E.Runs.move rfl rfl)) ?_
        refine E.GJ.take1 (i := 5) rfl (by kernel_rfl) (by kernel_rfl) (by kernel_rfl) (by kernel_rfl) rfl (by kernel_rfl) (by kernel_rfl) (by intro c a d v w h; cases d <;> exact h) rfl rfl rfl (fun w' hS => (E.Runs.indexAddrA rfl rfl rfl hu74 z96 o96 hvn rfl (show _ = (⟨gE, s2.v * 1, none⟩ : Addr) from by rw [Go.Addr.add_mid, Nat.zero_add]))) ?_
        refine E.GJ.take1 (i := 6) rfl (by kernel_rfl) (by kernel_rfl) (by kernel_rfl) (by kernel_rfl) rfl (by kernel_rfl) (by kernel_rfl) (by intro c a d v w h; cases d <;> exact h) rfl rfl rfl (fun w' hS => (E.Runs.load1 rfl rfl hu96 rfl (E.keeps hS cE2 E.nen))) ?_
        refine E.GJ.take1 (i := 7) rfl (by kernel_rfl) (by kernel_rfl) (by kernel_rfl) (by kernel_rfl) rfl (by kernel_rfl) (by kernel_rfl) (by intro c a d v w h; cases d <;> exact h) rfl rfl rfl (fun w' hS => (E.Runs.move rfl rfl)) ?_
        refine E.GJ.take1 (i := 8) rfl (by kernel_rfl) (by kernel_rfl) (by kernel_rfl) (by kernel_rfl) rfl (by kernel_rfl) (by kernel_rfl) (by intro c a d v w h; cases d <;> exact h) rfl rfl rfl (fun w' hS => (E.Runs.nilCheck rfl rfl)) ?_
        refine E.GJ.take1 (i := 9) rfl (by kernel_rfl) (by kernel_rfl) (by kernel_rfl) (by kernel_rfl) rfl (by kernel_rfl) (by kernel_rfl) (by intro c a d v w h; cases d <;> exact h) rfl rfl rfl (fun w' hS => (E.Runs.fieldAddr rfl rfl hu98 rfl (by assumption) (show _ = (⟨gu, idx Es (near e b) k * 5 + 2, none⟩ : Addr) from rfl))) ?_
        refine E.GJ.take1 (i := 10) rfl (by kernel_rfl) (by kernel_rfl) (by kernel_rfl) (by kernel_rfl) rfl (by kernel_rfl) (by kernel_rfl) (by intro c a d v w h; cases d <;> exact h) rfl rfl rfl (fun w' hS => (E.Runs.load rfl rfl hu3 (E.keeps hS cB E.nen))) ?_
        refine E.GJ.take1 (i := 11) rfl (by kernel_rfl) (by kernel_rfl) (by kernel_rfl) (by kernel_rfl) rfl (by kernel_rfl) (by kernel_rfl) (by intro c a d v w h; cases d <;> exact h) rfl rfl rfl (fun w' hS => (E.Runs.indexAddrA rfl rfl rfl hu96 z98 o98 hix2 eT (show _ = (⟨gt, idx Es s2.v k * 5, none⟩ : Addr) from by rw [Go.Addr.add_mid, Nat.zero_add]))) ?_
        refine E.GJ.take1 (i := 12) rfl (by kernel_rfl) (by kernel_rfl) (by kernel_rfl) (by kernel_rfl) rfl (by kernel_rfl) (by kernel_rfl) (by intro c a d v w h; cases d <;> exact h) rfl rfl rfl (fun w' hS => (E.Runs.fieldAddr rfl rfl hu98 rfl (by assumption) (show _ = (⟨gt, idx Es s2.v k * 5 + 1, none⟩ : Addr) from rfl))) ?_
        refine E.GJ.take1 (i := 13) rfl (by kernel_rfl) (by kernel_rfl) (by kernel_rfl) (by kernel_rfl) rfl (by kernel_rfl) (by kernel_rfl) (by intro c a d v w h; cases d <;> exact h) rfl rfl rfl (fun w' hS => (E.Runs.load rfl rfl hu3 (E.keeps hS cT1 E.nen))) ?_
        refine E.GJ.take1 (i := 14) rfl (by kernel_rfl) (by kernel_rfl) (by kernel_rfl) (by kernel_rfl) rfl (by kernel_rfl) (by kernel_rfl) (by intro c a d v w h; cases d <;> exact h) rfl rfl rfl (fun w' hS => (E.Runs.move rfl rfl)) ?_
        refine E.GJ.take1 (i := 15) rfl (by kernel_rfl) (by kernel_rfl) (by kernel_rfl) (by kernel_rfl) rfl (by kernel_rfl) (by kernel_rfl) (by intro c a d v w h; cases d <;> exact h) rfl rfl rfl (fun w' hS => (E.Runs.add rfl rfl rfl (IntWalk.i64_in _ (by omega)))) ?_
        refine E.GJ.take2 (i := 16) rfl (by kernel_rfl) (by kernel_rfl) (by kernel_rfl) (by kernel_rfl) (by intro c a d v w h; cases d <;> exact h) rfl rfl rfl (fun w' hS => (E.Runs.indexAddrA rfl rfl rfl hu96 z98 o98 hix2 eT (show _ = (⟨gt, idx Es s2.v k * 5, none⟩ : Addr) from by rw [Go.Addr.add_mid, Nat.zero_add]))) ?_
        refine E.GJ.take1 (i := 17) rfl (by kernel_rfl) (by kernel_rfl) (by kernel_rfl) (by kernel_rfl) rfl (by kernel_rfl) (by kernel_rfl) (by intro c a d v w h; cases d <;> exact h) rfl rfl rfl (fun w' hS => (E.Runs.fieldAddr rfl rfl hu98 rfl (by assumption) (show _ = (⟨gt, idx Es s2.v k * 5 + 1, none⟩ : Addr) from rfl))) ?_
        refine E.GJ.one (i := 18) (by kernel_rfl) (E.OJ.sn rfl rfl rfl (E.ST.storeN rfl z3 o3 rfl rfl cT1 fT ⟨(E.SJ.behind (by kernel_rfl)).mpr trivial, ?_⟩))
        obtain ⟨w14, hw14, hM14, _⟩ := stT (roomP Es s2.f (k, !b) + s.x)
        rw [← hw14]
        clear hM
        have hM : Pm w0 wS w14 base gN gE n H out (rowsP Es (upd s2.f k (sgn b s.x)) n) s2.vs wS.heap.size A1 n c1 bl := by rw [rowsP_push he hne (by have := hE e (List.mem_of_getElem? he); omega) (by have := hE e (List.mem_of_getElem? he); omega), entP_is he, entP_is he, far_not, hfar]; rw [hfar] at hM14; exact hM14
        clear hM14 stT cT1 cT2 fT eT cE2 cB c3
        refine E.GJ.done (by kernel_rfl) ?_
        refine E.QG.block_normal ?_
        refine E.QG.code ?_
        obtain ⟨gY, eY, cY0, cY1⟩ := rd104_at hM.by_ hbl
        replace cY0 : World.cell? _ ⟨gY, s2.v * 2, none⟩ = some (.int .i64 ((near e b : Nat) : Int)) := cY0
        refine E.CG.list ?_
        refine E.GL.run rfl rfl rfl (E.Runs.move rfl rfl) ?_
        refine E.GL.run rfl rfl rfl (E.Runs.move rfl rfl) ?_
        refine E.GL.run rfl rfl rfl (E.Runs.indexAddrA rfl rfl rfl hu99 z104 o104 hvn eY (show _ = (⟨gY, s2.v * 2, none⟩ : Addr) from by rw [Go.Addr.add_mid, Nat.zero_add])) ?_
        refine E.GL.run rfl rfl rfl (E.Runs.fieldAddr rfl rfl hu104 rfl (by assumption) (show _ = (⟨gY, s2.v * 2, none⟩ : Addr) from rfl)) ?_
        refine E.GL.run rfl rfl rfl (E.Runs.load rfl rfl hu3 (by first | assumption | exact E.blkc (by assumption) rfl)) ?_
        refine E.GL.run rfl rfl rfl (E.Runs.assign rfl rfl) ?_
        refine E.GL.done ?_
        exact E.QG.round ⟨near e b, r, 0, upd s2.f k (sgn b s.x), s2.vs⟩ (E.subc rfl (E.subc rfl (E.subc rfl (E.subc rfl E.subn)))) (by obtain ⟨q1, q2, q3, q4, q5⟩ := way_step hE he hfar hwr (by rw [← hP]; exact hnd2) (by rw [← hP]; exact hx2) (Int.le_of_lt hx0) ho2; exact ⟨q1, q2, q3, q4, fun u => exc_go (hex u) (q5 u), hM⟩) (by simp only [hP, List.length_cons]; omega)
      · have hz : s2.v = 0 := by omega
        rw [hz] at hex
        refine E.GL.done ?_
        refine E.QG.code ?_
        refine E.CG.cond_f rfl ?_
        refine E.CG.exit ?_
        refine E.QG.pass_exit ?_
        refine E.QG.pass_exit ?_
        refine E.QG.block_here ?_
        refine E.QG.code ?_
        refine E.CG.seq ?_
        refine E.CG.list ?_
        refine E.GL.run rfl rfl rfl (E.Runs.move rfl rfl) ?_
        refine E.GL.run rfl rfl rfl (E.Runs.assign rfl rfl) ?_
        refine E.GL.done ?_
        refine E.QG.code ?_
        refine E.CG.ret ?_
        exact E.QG.result rfl rfl ⟨_, _, rfl, hx1, .inr ⟨hx0, ho2, hex⟩, ⟨hM.hb, hM.blk, _, hM.rows⟩, hM.bel, hM.size, hM.calm⟩

end Go.Proofs.Ytmnjlnkfihklgaa.T
namespace Go.Proofs.Ytmnjlnkfihklgaa.T
open Go.RowKit Go.Proofs.YtmnjlnkfihklgaaW.PrintWords Go.Proofs.YtmnjlnkfihklgaaW.PrintMore
open Go.Proofs.Ytmnjlnkfihklgaa.P
set_option linter.unusedVariables false
/-- The node of a room in a minute. -/
def nodeN (T r m : Nat) : Nat := 2 + r * (T + 1) + m
theorem nodeN_lt {T r m R : Nat} (hr : r < R) (hm : m ≤ T) : nodeN T r m < nodeN T R 0 := by
  have : (r + 1) * (T + 1) ≤ R * (T + 1) := Nat.mul_le_mul_right _ hr
  rw [Nat.add_mul, Nat.one_mul] at this
  unfold nodeN
  omega
theorem nodeN_inj {T r m s k : Nat} (hm : m ≤ T) (hk : k ≤ T) (h : nodeN T r m = nodeN T s k) : r = s ∧ m = k := by
  unfold nodeN at h
  rcases Nat.lt_trichotomy r s with q | q | q
  · have : (r + 1) * (T + 1) ≤ s * (T + 1) := Nat.mul_le_mul_right _ q
    rw [Nat.add_mul, Nat.one_mul] at this
    omega
  · subst q
    exact ⟨rfl, by omega⟩
  · have : (s + 1) * (T + 1) ≤ r * (T + 1) := Nat.mul_le_mul_right _ q
    rw [Nat.add_mul, Nat.one_mul] at this
    omega
theorem nodeN_two (T r m : Nat) : 2 ≤ nodeN T r m := by unfold nodeN; omega
/-- Everybody in a room at first, and who stays there. -/
def edR (T r : Nat) (p : Int) (j : Nat) : List Ed := ⟨0, nodeN T r 0, p, -1, 0⟩ :: (List.range j).map fun m => ⟨nodeN T r m, nodeN T r (m + 1), 1073741824, -1, 0⟩
def edRs (T : Nat) (ps : List Int) : Nat → List Ed
  | 0 => []
  | r + 1 => edRs T ps r ++ edR T r (ps.getD r 0) T
/-- Where a passage leads, and its minutes. -/
def toN (T : Nat) (q : S45) (m : Nat) : Nat := if q.f1 = -1 then 1 else nodeN T q.f1.toNat (m + q.f3.toNat)
def edQ (T i : Nat) (q : S45) (j : Nat) : List Ed := (List.range j).map fun m => ⟨nodeN T q.f0.toNat m, toN T q m, q.f2, (i : Int), (m : Int)⟩
def edQs (T : Nat) (qs : List S45) : Nat → List Ed
  | 0 => []
  | i + 1 => edQs T qs i ++ edQ T i (qs.getD i z45) (T + 1 - (qs.getD i z45).f3.toNat)
def edH (ps : List Int) (qs : List S45) (T : Nat) : List Ed := edRs T ps ps.length ++ edQs T qs qs.length
theorem edR_snoc (T r : Nat) (p : Int) (j : Nat) : edR T r p (j + 1) = edR T r p j ++ [⟨nodeN T r j, nodeN T r (j + 1), 1073741824, -1, 0⟩] := by
  unfold edR
  rw [List.range_succ, List.map_append, ← List.cons_append]
  rfl
theorem edQ_snoc (T i : Nat) (q : S45) (j : Nat) : edQ T i q (j + 1) = edQ T i q j ++ [⟨nodeN T q.f0.toNat j, toN T q j, q.f2, (i : Int), (j : Int)⟩] := by
  unfold edQ
  rw [List.range_succ, List.map_append]
  rfl
theorem edR_len (T r : Nat) (p : Int) (j : Nat) : (edR T r p j).length = j + 1 := by simp [edR]
theorem edQ_len (T i : Nat) (q : S45) (j : Nat) : (edQ T i q j).length = j := by simp [edQ]
theorem edRs_len (T : Nat) (ps : List Int) : ∀ r, (edRs T ps r).length = r * (T + 1)
  | 0 => by simp [edRs]
  | r + 1 => by rw [edRs, List.length_append, edRs_len T ps r, edR_len, Nat.add_mul, Nat.one_mul]
theorem edQs_len (T : Nat) (qs : List S45) : ∀ i, (edQs T qs i).length ≤ i * (T + 1)
  | 0 => by simp [edQs]
  | i + 1 => by
    have := edQs_len T qs i
    rw [edQs, List.length_append, edQ_len, Nat.add_mul, Nat.one_mul]
    omega
/-- A passage that is right; a house that is valid. -/
def QOk (R : Nat) (q : S45) : Prop := 0 ≤ q.f0 ∧ q.f0 < R ∧ -1 ≤ q.f1 ∧ q.f1 < R ∧ q.f0 ≠ q.f1 ∧ 0 ≤ q.f2 ∧ q.f2 ≤ 20 ∧ 1 ≤ q.f3 ∧ q.f3 ≤ 9
structure HOk (ps : List Int) (qs : List S45) : Prop where
  r1 : 1 ≤ ps.length
  r6 : ps.length ≤ 6
  q12 : qs.length ≤ 12
  p : ∀ x ∈ ps, 0 ≤ x ∧ x ≤ 99
  q : ∀ x ∈ qs, QOk ps.length x
theorem edRs_mem {T : Nat} {ps : List Int} {e : Ed} : ∀ {R : Nat}, e ∈ edRs T ps R → ∃ r, r < R ∧ (e = ⟨0, nodeN T r 0, ps.getD r 0, -1, 0⟩ ∨ ∃ m, m < T ∧ e = ⟨nodeN T r m, nodeN T r (m + 1), 1073741824, -1, 0⟩)
  | 0, h => by cases h
  | R + 1, h => by
    rcases List.mem_append.mp h with h | h
    · obtain ⟨r, q1, q2⟩ := edRs_mem h
      exact ⟨r, by omega, q2⟩
    · refine ⟨R, by omega, ?_⟩
      rcases List.mem_cons.mp h with h | h
      · exact .inl h
      · obtain ⟨m, q1, q2⟩ := List.mem_map.mp h
        exact .inr ⟨m, List.mem_range.mp q1, q2.symm⟩
theorem edQs_mem {T : Nat} {qs : List S45} {e : Ed} : ∀ {I : Nat}, e ∈ edQs T qs I → ∃ i m, i < I ∧ m + (qs.getD i z45).f3.toNat < T + 1 ∧ e = ⟨nodeN T (qs.getD i z45).f0.toNat m, toN T (qs.getD i z45) m, (qs.getD i z45).f2, (i : Int), (m : Int)⟩
  | 0, h => by cases h
  | I + 1, h => by
    rcases List.mem_append.mp h with h | h
    · obtain ⟨i, m, q1, q2⟩ := edQs_mem h
      exact ⟨i, m, by omega, q2⟩
    · obtain ⟨m, q1, q2⟩ := List.mem_map.mp h
      have := List.mem_range.mp q1
      exact ⟨I, m, by omega, by omega, q2.symm⟩
theorem getD_mem {α : Type} {l : List α} {i : Nat} {z : α} (h : i < l.length) : l.getD i z ∈ l := by
  rw [List.getD_eq_getElem?_getD, List.getElem?_eq_getElem h]
  exact List.getElem_mem h
theorem toN_ok {T : Nat} {ps : List Int} {q : S45} {m : Nat} (hq : QOk ps.length q) (hm : m + q.f3.toNat < T + 1) : toN T q m < nodeN T ps.length 0 ∧ nodeN T q.f0.toNat m < nodeN T ps.length 0 ∧ nodeN T q.f0.toNat m ≠ toN T q m := by
  obtain ⟨h1, h2, h3, h4, h5, h6, h7, h8, h9⟩ := hq
  have a := nodeN_lt (T := T) (r := q.f0.toNat) (m := m) (R := ps.length) (by omega) (by omega)
  unfold toN
  split
  · have := nodeN_two T q.f0.toNat m
    exact ⟨by omega, a, by omega⟩
  · have b := nodeN_lt (T := T) (r := q.f1.toNat) (m := m + q.f3.toNat) (R := ps.length) (by omega) (by omega)
    refine ⟨b, a, fun e => ?_⟩
    have := nodeN_inj (by omega) (by omega) e
    omega
theorem edH_ok {ps : List Int} {qs : List S45} {T : Nat} (h : HOk ps qs) : EdsOk (edH ps qs T) (nodeN T ps.length 0) := by
  intro e he
  rcases List.mem_append.mp he with he | he
  · obtain ⟨r, hr, rfl | ⟨m, hm, rfl⟩⟩ := edRs_mem he
    · have := nodeN_two T r 0
      have a := nodeN_lt (T := T) (r := r) (m := 0) (R := ps.length) hr (by omega)
      refine ⟨?_, a, ?_⟩ <;> simp only <;> omega
    · refine ⟨nodeN_lt hr (by omega), nodeN_lt hr (by omega), ?_⟩
      unfold nodeN
      simp only
      omega
  · obtain ⟨i, m, hi, hm, rfl⟩ := edQs_mem he
    obtain ⟨a, b, c⟩ := toN_ok (h.q _ (getD_mem (z := z45) hi)) hm
    exact ⟨b, a, c⟩
theorem edH_cap {ps : List Int} {qs : List S45} {T : Nat} (h : HOk ps qs) : ∀ e ∈ edH ps qs T, 0 ≤ e.cap ∧ e.cap ≤ 1073741824 := by
  intro e he
  rcases List.mem_append.mp he with he | he
  · obtain ⟨r, hr, rfl | ⟨m, hm, rfl⟩⟩ := edRs_mem he
    · have := h.p _ (getD_mem (z := 0) hr)
      simp only
      omega
    · simp only
      omega
  · obtain ⟨i, m, hi, hm, rfl⟩ := edQs_mem he
    obtain ⟨h1, h2, h3, h4, h5, h6, h7, h8, h9⟩ := h.q _ (getD_mem (z := z45) hi)
    simp only
    omega
theorem edH_len {ps : List Int} {qs : List S45} {T : Nat} (h : HOk ps qs) (hT : T ≤ 60) : (edH ps qs T).length ≤ 2000 := by
  have h1 := edRs_len T ps ps.length
  have h2 := edQs_len T qs qs.length
  have h3 : ps.length * (T + 1) ≤ 6 * 61 := Nat.mul_le_mul h.r6 (by omega)
  have h4 : qs.length * (T + 1) ≤ 12 * 61 := Nat.mul_le_mul h.q12 (by omega)
  unfold edH
  rw [List.length_append]
  omega
theorem nodes_few {ps : List Int} {qs : List S45} {T : Nat} (h : HOk ps qs) (hT : T ≤ 60) : nodeN T ps.length 0 ≤ 368 := by
  have h3 : ps.length * (T + 1) ≤ 6 * 61 := Nat.mul_le_mul h.r6 (by omega)
  unfold nodeN
  omega
theorem capOut_le (S : Nat → Prop) [DecidablePred S] {c : Int} (h0 : 0 ≤ c) : ∀ {E : List Ed}, (∀ e ∈ E, e.cap ≤ c) → capOut S E ≤ c * E.length
  | [], _ => by simp [capOut]
  | e :: r, h => by
    have h1 := capOut_le S h0 (E := r) (fun x hx => h x (List.mem_cons_of_mem _ hx))
    have h2 := h e List.mem_cons_self
    have h3 : c * ((e :: r).length : Nat) = c * r.length + c := by rw [List.length_cons]; push_cast; rw [Int.mul_add, Int.mul_one]
    rw [h3]
    simp only [capOut]
    split <;> omega
/-- A greatest flow. -/
structure MaxFlow (E : List Ed) (n : Nat) (f : Nat → Int) (out : Int) : Prop where
  ok : FlowOk E f
  calm : ∀ v, v < n → v ≠ 0 → v ≠ 1 → exc f v E 0 = 0
  exo : exc f 1 E 0 = out
  cut : ∃ bl il, ReachOk E f n bl il ∧ il[1]? = some false
/-- How the flow stands behind a push that is not yet counted. -/
structure Fp (E : List Ed) (n : Nat) (f : Nat → Int) (out r : Int) : Prop where
  ok : FlowOk E f
  calm : ∀ v, v < n → v ≠ 0 → v ≠ 1 → exc f v E 0 = 0
  exo : exc f 1 E 0 = out + r
  o0 : 0 ≤ out
  r0 : 0 ≤ r
  r1 : r ≤ 1073741824
  end_ : r = 0 → ∃ bl il, ReachOk E f n bl il ∧ il[1]? = some false
theorem Fp.le {E : List Ed} {n : Nat} {f : Nat → Int} {out r : Int} (h : Fp E n f out r) (hE : EdsOk E n) (hn : 1 < n) : out + r ≤ capOut (fun v => v = 0) E := by
  have := flow_le (fun v => v = 0) (s := 0) (t := 1) (fun e he => ⟨(hE e he).1, (hE e he).2.1⟩) rfl (by decide) hn (fun v hv h0 h1 => by rw [h.calm v hv h0 h1]; exact Int.le_refl _) (fun i e he => ⟨(h.ok i e he).1, fun _ _ => (h.ok i e he).2⟩)
  rw [h.exo] at this
  exact this
theorem Fp.next {E : List Ed} {n : Nat} {f g : Nat → Int} {out r s : Int} (h : Fp E n f out r) (hp : PushOk E n f g s) (hs : s ≤ 1073741824) : Fp E n g (out + r) s := by
  have ho := h.o0
  have hr := h.r0
  rcases hp with ⟨rfl, rfl, hc⟩ | ⟨h0, hok, hx⟩
  · exact ⟨h.ok, h.calm, by rw [h.exo]; omega, by omega, by omega, by omega, fun _ => hc⟩
  · refine ⟨hok, fun v hv h1 h2 => ?_, ?_, by omega, by omega, hs, fun e => by omega⟩
    · rw [hx v, h.calm v hv h1 h2, if_neg h2, if_neg h1]; rfl
    · rw [hx 1, h.exo, if_pos rfl, if_neg (by decide)]; omega
theorem Fp.first {E : List Ed} {n : Nat} {g : Nat → Int} {s : Int} (h0 : ∀ e ∈ E, 0 ≤ e.cap) (hp : PushOk E n (fun _ => 0) g s) (hs : s ≤ 1073741824) : Fp E n g 0 s := by
  have : Fp E n (fun _ => 0) 0 0 → Fp E n g 0 s := fun h => h.next hp hs
  rcases hp with ⟨rfl, rfl, hc⟩ | ⟨hs0, hok, hx⟩
  · exact ⟨fun k e he => ⟨Int.le_refl _, h0 e (List.mem_of_getElem? he)⟩, fun v _ _ _ => exc_zero v E 0, exc_zero 1 E 0, by omega, by omega, by omega, fun _ => hc⟩
  · refine ⟨hok, fun v hv h1 h2 => ?_, ?_, by omega, by omega, hs, fun e => by omega⟩
    · rw [hx v, exc_zero, if_neg h2, if_neg h1]; rfl
    · rw [hx 1, exc_zero, if_pos rfl, if_neg (by decide)]; omega
theorem Fp.done {E : List Ed} {n : Nat} {f : Nat → Int} {out r : Int} (h : Fp E n f out r) (hr : ¬ 0 < r) : MaxFlow E n f out := by
  have := h.r0
  obtain rfl : r = 0 := by omega
  exact ⟨h.ok, h.calm, by rw [h.exo]; omega, h.end_ rfl⟩
end Go.Proofs.Ytmnjlnkfihklgaa.T
namespace Go.Proofs.Ytmnjlnkfihklgaa.E
open Go.RowKit Go.Proofs.YtmnjlnkfihklgaaW.PrintWords Go.Proofs.YtmnjlnkfihklgaaW.PrintMore
open Go.Proofs.Ytmnjlnkfihklgaa.T
set_option linter.unusedVariables false
set_option linter.unusedSimpArgs false
section
variable {P : Program} {ops : Array Oper} {Q : Exit → Act → World → Prop} {b : Nat} {S1 S0 : World → Prop}
/-- An operation that b waits for may be taken first: what it leaves is told in the worlds before b. -/
theorem J_first1t {i m : Nat} {oi om ob : Oper} {v : Value} (hi : ops[i]? = some oi) (hib : i ≠ b) (hob : ops[b]? = some ob) (hbm : ∃ e ∈ ob.after, Region.binds .any e = true ∧ e.on = m) (hom : ops[m]? = some om) (hmi : ∃ e ∈ om.after, Region.binds .any e = true ∧ e.on = i) (hmI : m ≠ i) (hsel : ∀ (j : Nat) (o : Oper) cs c, ops[j]? = some o → o.op ≠ .select cs c)
    (hQ : ∀ c a w, Q (.panic c) (a.put oi.dst v) w → Q (.panic c) a w) :
    ∀ (fuel : Nat) (L : Array Bool) (a : Act) (w : World), L.getD b false = false → L.getD m false = false → m < L.size →
      (∀ j oj, ops[j]? = some oj → j ≠ i → L.getD j true = false → (∀ e ∈ oj.after, Region.binds .any e = true → e.on ≠ i) → oi.apart ops oj = true) →
      i ∈ Region.ready .any ops L → YieldsIf P ops S1 oi v a → S1 w →
      wpAnyJ P ops Q b S1 S0 fuel (L.setIfInBounds i true) (a.put oi.dst v) w → wpAnyJ P ops Q b S1 S0 (fuel + 1) L a w := by
  intro fuel
  induction fuel with
  | zero =>
    intro L a w hb _ _ _ hr hy hS H
    refine ⟨fun h => (by rw [h] at hr; cases hr), fun j hj => ?_⟩
    by_cases hji : j = i
    · subst hji; exact hy.wpOp hi hS ⟨(SJ.same hib).mpr ((SJ.before hb).mpr hS), H⟩
    · have := ready_mono hj hji
      rw [H.1] at this
      cases this
  | succ fuel ih =>
    intro L a w hb hm hms hfree hr hy hS H
    refine ⟨fun h => (by rw [h] at hr; cases hr), fun j hj => ?_⟩
    by_cases hji : j = i
    · subst hji; exact hy.wpOp hi hS ⟨(SJ.same hib).mpr ((SJ.before hb).mpr hS), H⟩
    · have h1 := H.2 j (ready_mono hj hji)
      obtain ⟨hjun, oj, hoj, hall⟩ := mem_ready.1 hj
      have h0 := (mem_ready.1 hr).1
      have nol : ∀ k, k = i → L.getD k false = true → False := fun k hk h' => by
        subst hk
        rcases Nat.lt_or_ge k L.size with h2 | h2
        · simp [h2] at h0 h'; rw [h0] at h'; cases h'
        · simp [Array.getElem?_eq_none h2] at h'
      have hjm : j ≠ m := fun e => by
        subst e
        rw [hom] at hoj
        cases hoj
        obtain ⟨e, he, hbe, heq⟩ := hmi
        exact nol _ heq (hall e he hbe)
      have hjb : j ≠ b := fun e => by
        subst e
        rw [hob] at hoj
        cases hoj
        obtain ⟨e, he, hbe, heq⟩ := hbm
        have h5 := hall e he hbe
        rw [heq] at h5
        simp [hms] at h5 hm
        rw [hm] at h5
        cases h5
      have hnot : ∀ e ∈ oj.after, Region.binds .any e = true → e.on ≠ i := fun e he hbe heq => nol _ heq (hall e he hbe)
      have h2 := wpOp_putIf hoj (hfree j oj hoj hji hjun hnot) (fun cs c => hsel i oi cs c hi) (fun cs c => hsel j oj cs c hoj) hQ hy h1
      have hfree' : ∀ k ok, ops[k]? = some ok → k ≠ i → (L.setIfInBounds j true).getD k true = false → (∀ e ∈ ok.after, Region.binds .any e = true → e.on ≠ i) → oi.apart ops ok = true := fun k ok hk hki hun hno => by
        refine hfree k ok hk hki ?_ hno
        by_cases hjk : j = k
        · subst hjk; exact hjun
        · rw [getD_set_ne true hjk] at hun; exact hun
      have hbj : (L.setIfInBounds j true).getD b false = false := by rw [getD_set_ne false hjb]; exact hb
      refine wpOp_mono (fun a' w' h3 => ?_) h2
      have hs1 : S1 w' := by
        have := h3.2.1
        rw [SJ.same hjb, SJ.same hib, SJ.before hb] at this
        exact this
      refine ⟨(SJ.before hbj).mpr hs1, ih (L.setIfInBounds j true) a' w' hbj (by rw [getD_set_ne false hjm]; exact hm) (by simpa using hms) hfree' (ready_mono hr (Ne.symm hji)) h3.1 hs1 ?_⟩
      rw [Array.setIfInBounds_comm _ _ hji]
      exact h3.2.2
variable {N : Nat} {w : World} {env : Env} {o : Oper} {fuel : Nat} {L : Array Bool}
theorem GJ.take1t {i n : Nat} (m : Nat) {v : Value} {om ob : Oper} (hi : ops[i]? = some o) (hs : Region.noSelect ops = true) (hf : Region.free .any ops L i = true) (hr : (Region.ready .any ops L).contains i = true) (hib : (i == b) = false) (hob : ops[b]? = some ob) (hbm : (ob.after.any fun e => Region.binds .any e && e.on == m) = true) (hom : ops[m]? = some om) (hmi : (om.after.any fun e => Region.binds .any e && e.on == i) = true) (hmI : (m == i) = false) (hLb : L.getD b false = false) (hLm : L.getD m false = false) (hms : Nat.blt m L.size = true)
    (hQ : Calm Q) (hd : o.dst = some n) (hn : Nat.blt n N = true) (hw : want ops env o = some true) (hy : ∀ w', S1 w' → Runs P N env o w' v) (h : GJ P ops Q b S1 S0 N fuel (L.setIfInBounds i true) ((n, v) :: env) w) : GJ P ops Q b S1 S0 N (fuel + 1) L env w := by
  intro a ha hS
  have hib' : i ≠ b := by simpa using hib
  obtain ⟨e, he, hbe⟩ := Array.any_eq_true'.1 hbm
  simp only [Bool.and_eq_true, beq_iff_eq] at hbe
  obtain ⟨e2, he2, hbe2⟩ := Array.any_eq_true'.1 hmi
  simp only [Bool.and_eq_true, beq_iff_eq] at hbe2
  have hS1 := (SJ.before hLb).mp hS
  refine J_first1t hi hib' hob ⟨e, he, hbe.1, hbe.2⟩ hom ⟨e2, he2, hbe2.1, hbe2.2⟩ (by simpa using hmI) (Region.noSelect_spec hs) (fun c a w => hQ c a _ v w) fuel L a w hLb hLm (by simpa [Nat.blt_eq] using hms) (Region.free_spec hi hf) (by simpa using hr) (.inl ⟨wanted_of ha hw, fun w' hw' => hy w' hw' a w' ha rfl⟩) hS1 ?_
  rw [hd]
  exact h _ (ha.put v (by simpa [Nat.blt_eq] using hn)) ((SJ.same hib').mpr hS)
end
end Go.Proofs.Ytmnjlnkfihklgaa.E
namespace Go.Proofs.Ytmnjlnkfihklgaa.T
open Go.RowKit Go.Proofs.YtmnjlnkfihklgaaW.PrintWords Go.Proofs.YtmnjlnkfihklgaaW.PrintMore
open Go.Proofs.Ytmnjlnkfihklgaa.P
set_option linter.unusedVariables false
set_option linter.unusedSimpArgs false

set_option maxRecDepth 100000 in
theorem build76 (A B : Option Addr) (n c m d : Nat) (t : Int) (W : World) : (Instr.build 76 #[(0, .agg #[.slice A n c, .slice B m d]), (1, .int .i64 t)]).run Try.prog W = .ok (.agg #[.slice A n c, .slice B m d, .int .i64 t, .slice none 0 0, .int .i64 0]) W := by
  have hu3 := Try.underlying3
  have hu22 := Try.underlying22
  have hu23 := Try.underlying23
  have hu25 := Try.underlying25
  have hu74 := Try.underlying74
  have hu76 := Try.underlying76
  go_simp
set_option maxRecDepth 100000 in
theorem build72b (a b : Int) (W : World) : (Instr.build 72 #[(0, .int .i64 a), (1, .int .i64 b)]).run Try.prog W = .ok (.agg #[.int .i64 a, .int .i64 b]) W := by
  have hu3 := Try.underlying3
  have hu72 := Try.underlying72
  go_simp
/-- Rows that are all empty. -/
theorem Rows.fresh {α : Type} (d : Kd α) (e t : Nat) {w : World} {base g n : Nat} (hb : base ≤ g) (h : w.heap[g]? = some (.cells (List.replicate n (.slice none 0 0)).toArray t (0, 0))) : Rows d e t w base g (List.replicate n []) (List.replicate n (.slice none 0 0)) := by
  refine ⟨by simp, hb, h, fun i v xs h1 h2 => ?_, fun i j v u k h1 h2 h3 h4 => ?_⟩
  · rw [List.getElem?_replicate] at h1 h2
    split at h1
    · next q =>
      rw [if_pos q] at h2
      cases h1
      cases h2
      exact Kd.R_nil _ _ _ _ _
    · cases h1
  · rw [List.getElem?_replicate] at h1
    split at h1
    · cases h1
      simp [Value.ownBlock] at h3
    · cases h1
/-- A block of another type is written. -/
theorem Rows.other {α : Type} {d : Kd α} {e t q g1 : Nat} {w w' : World} {base g : Nat} {xss : List (List α)} {vs : List Value} {cs : Array Value} (h : Rows d e t w base g xss vs) (hE : d.E = []) (hb : w.heap[g1]? = some (.cells cs q (0, 0))) (h1 : e ≠ q) (h2 : t ≠ q) (hg : w.grownBy w' (some g1)) : Rows d e t w' base g xss vs :=
  ⟨h.len, h.hb, blk_grown h.blk hg (E.nes (blk_ne h.blk hb h2)), fun i v xs a b => over_blk (h.row i v xs a b) hb h1 hE hg, h.apart⟩
/-- Where the making of a flow stands in memory. -/
structure Fs (w0 w : World) (g2 gN gE n : Nat) (H : Hd) (out : Int) (Es : List Ed) (f : Nat → Int) : Prop where
  net : Net w w0.heap.size gN gE n H out Es f
  b2 : w.heap[g2]? = some (.cells #[H.p0, H.p1] 25 (0, 0))
  bel : Below w0.heap.size w0 w
  size : w0.heap.size ≤ w.heap.size
section
variable {w0 w w' : World} {g2 gN gE n : Nat} {H : Hd} {out : Int} {Es : List Ed} {f : Nat → Int}
theorem Fs.below (h : Fs w0 w g2 gN gE n H out Es f) (l : Below w.heap.size w w') : Fs w0 w' g2 gN gE n H out Es f :=
  ⟨h.net.below l, blk_below h.b2 l, below_step' h.bel h.size l, Nat.le_trans h.size l.size⟩
theorem Fs.counted (h : Fs w0 w g2 gN gE n H out Es f) {o2 : Int} (hb : w'.heap[gN]? = some (.cells (netC H gE n o2).toArray 76 (0, 0))) (hg : w.grownBy w' (some gN)) : Fs w0 w' g2 gN gE n H o2 Es f := by
  obtain ⟨q1, q2, vs, q3⟩ := h.net
  exact ⟨⟨q1, hb, vs, q3.other rfl q2 (by decide) (by decide) hg⟩, blk_grown h.b2 hg (E.nes (blk_ne h.b2 q2 (by decide))), h.bel.grown hg h.size (fun z ez => by cases ez; exact q1), Nat.le_trans h.size hg.size⟩
theorem Fs.join {e : Ed} (h : Fs w0 w g2 gN gE n H out Es f) (hf : f Es.length = 0) (hne : e.fr ≠ e.td) (hfr : e.fr < n) (htd : e.td < n) (hn : n ≤ 100000) (hE : Es.length ≤ 99999) :
    Calls Try.prog 60 #[.pointer (some ⟨gN, 0, none⟩), .int .i64 e.fr, .int .i64 e.td, .int .i64 e.cap, .agg #[.int .i64 e.up, .int .i64 e.um]] w fun e_ w' => ∃ v, e_ = .returned v ∧ Fs w0 w' g2 gN gE n H out (Es ++ [e]) f ∧ CalmT 98 96 w w' := by
  refine (join_calls gN w0.heap.size gE n H out Es f e w0 w h.net h.bel h.size hf hne hfr htd hn (by omega)).mono ?_
  rintro e_ w' ⟨⟨v, hv⟩, h1, h2, h3⟩
  exact ⟨v, hv, ⟨h1, h3 _ _ _ _ h.b2 (by decide) (by decide), h2, h2.size⟩, h3⟩
theorem Fs.push (h : Fs w0 w g2 gN gE n H out Es f) (hE : EdsOk Es n) (hn1 : 1 < n) (hn : n ≤ 100000) (hEl : Es.length ≤ 100000) (hf : FlowOk Es f) (hcap : ∀ e ∈ Es, 0 ≤ e.cap ∧ e.cap ≤ 1073741824) :
    Calls Try.prog 61 #[.pointer (some ⟨gN, 0, none⟩)] w fun e_ w' => ∃ r g, e_ = .returned (.int .i64 r) ∧ r ≤ 1073741824 ∧ PushOk Es n f g r ∧ Fs w0 w' g2 gN gE n H out Es g := by
  refine (push_calls gN w0.heap.size gE n H out Es f w0 w h.net h.bel h.size hE hn1 hn hEl hf (fun e he => (hcap e he).2)).mono ?_
  rintro e_ w' ⟨r, g, h1, h2, h3, h4, h5, h6, h7⟩
  exact ⟨r, g, h1, h2, h3, h4, h7 _ _ _ _ h.b2 (by decide) (by decide), h5, h6⟩
end
theorem getD_some {α : Type} {l : List α} {i : Nat} (h : i < l.length) (z : α) : l[i]? = some (l.getD i z) := by simp [List.getD_eq_getElem?_getD, h]
theorem pass_at {w : World} {A : Option Addr} {n : Nat} {l : List S45} (h : Kd.C k45 w A n l) {i : Nat} {x : S45} (hi : l[i]? = some x) : ∃ ad, A = some ad ∧ ∀ j u, ([.int .i64 x.f0, .int .i64 x.f1, .int .i64 x.f2, .int .i64 x.f3] : List Value)[j]? = some u → w.cell? ((ad.add (i * 4)).add j) = some u := by
  have hil : i < l.length := (List.getElem?_eq_some_iff.1 hi).1
  have hn := Kd.C_len h
  obtain ⟨ad, c, e, _, hK, hc0⟩ := Kd.C_get h x (i : Int) (by omega) (by omega)
  have hx : l.getD i x = x := by simp [List.getD_eq_getElem?_getD, hi]
  rw [Int.toNat_natCast, hx] at hK
  rw [Int.toNat_natCast] at hc0
  obtain rfl := k45_open hK
  refine ⟨ad, e, fun j u hu => ?_⟩
  have := hc0 j u hu
  rw [← this]
  congr 1
  exact add_add _ _ _
theorem Fs.grown {w0 w w' : World} {g2 gN gE n g : Nat} {H : Hd} {out : Int} {Es : List Ed} {f : Nat → Int} (h : Fs w0 w g2 gN gE n H out Es f) (hg : w.grownBy w' (some g)) (k : (∃ cs, w.heap[g]? = some (.cells cs 45 (0, 0))) ∧ w0.heap.size ≤ g) : Fs w0 w' g2 gN gE n H out Es f := by
  obtain ⟨⟨cs, hb⟩, hl⟩ := k
  obtain ⟨q1, q2, vs, q3⟩ := h.net
  exact ⟨⟨q1, blk_grown q2 hg (E.nes (blk_ne q2 hb (by decide))), vs, q3.other rfl hb (by decide) (by decide) hg⟩, blk_grown h.b2 hg (E.nes (blk_ne h.b2 hb (by decide))), h.bel.grown hg h.size (fun z ez => by cases ez; exact hl), Nat.le_trans h.size hg.size⟩
structure Pf where
  f : Nat → Int
  out : Int
  r : Int
set_option maxRecDepth 100000 in
set_option maxHeartbeats 8000000 in

theorem nodeC_calls (gN : Nat) (p0 p1 x y : Value) (T r m : Int) (w : World) (bN : w.heap[gN]? = some (.cells #[p0, p1, .int .i64 T, x, y] 76 (0, 0))) (hr : 0 ≤ r ∧ r ≤ 100) (hm : 0 ≤ m ∧ m ≤ 1000) (hT : 0 ≤ T ∧ T ≤ 100) :
    Calls Try.prog 59 #[.pointer (some ⟨gN, 0, none⟩), .int .i64 r, .int .i64 m] w fun e w' => e = .returned (.int .i64 (2 + r * (T + 1) + m)) ∧ Below w.heap.size w w' := by
  have hu3 := Try.underlying3
  have hu76 := Try.underlying76
  obtain ⟨z3, o3⟩ := info_some info3s (by decide)
  have hp0 : 0 ≤ r * (T + 1) := Int.mul_nonneg hr.1 (by omega)
  have hp1 : r * (T + 1) ≤ 100 * 101 := Int.le_trans (Int.mul_le_mul_of_nonneg_right hr.2 (by omega)) (Int.mul_le_mul_of_nonneg_left (by omega) (by omega))
  refine E.enter (N := 17) Try.func59 rfl Try.ntmps59 (args := [.pointer (some ⟨gN, 0, none⟩), .int .i64 r, .int .i64 m]) (by simp) ?_
  have L := Below.refl w.heap.size w
  refine E.CG.seq ?_
  refine E.CG.list ?_
  refine E.GL.run rfl rfl rfl (E.Runs.assign rfl rfl) ?_
  refine E.GL.done ?_
  refine E.QG.code ?_
  refine E.CG.seq ?_
  refine E.CG.list ?_
  refine E.GL.run rfl rfl rfl (E.Runs.move rfl rfl) ?_
  refine E.GL.run rfl rfl rfl (E.Runs.move rfl rfl) ?_
  refine E.GL.run rfl rfl rfl (E.Runs.nilCheck rfl rfl) ?_
  refine E.GL.run rfl rfl rfl (E.Runs.fieldAddr rfl rfl hu76 rfl (by assumption) rfl) ?_
  refine E.GL.run rfl rfl rfl (E.Runs.load rfl rfl hu3 (by first | assumption | exact E.blkc (by assumption) rfl | exact pw_cell_below L (by assumption))) ?_
  refine E.GL.run rfl rfl rfl (E.Runs.add rfl rfl rfl (IntWalk.i64_in _ (by omega))) ?_
  refine E.GL.run rfl rfl rfl (E.Runs.mul rfl rfl rfl (IntWalk.i64_in _ (by omega))) ?_
  refine E.GL.run rfl rfl rfl (E.Runs.add rfl rfl rfl (IntWalk.i64_in _ (by omega))) ?_
  refine E.GL.run rfl rfl rfl (E.Runs.move rfl rfl) ?_
  refine E.GL.run rfl rfl rfl (E.Runs.add rfl rfl rfl (IntWalk.i64_in _ (by omega))) ?_
  refine E.GL.run rfl rfl rfl (E.Runs.assign rfl rfl) ?_
  refine E.GL.done ?_
  refine E.QG.code ?_
  refine E.CG.ret ?_
  exact E.QG.result rfl rfl ⟨rfl, L⟩

theorem nodeB_calls (gN : Nat) (p0 p1 x y : Value) (t : Int) (T rn mn : Nat) (w : World) (bN : w.heap[gN]? = some (.cells #[p0, p1, .int .i64 t, x, y] 76 (0, 0))) (ht : t = T) (hr : rn ≤ 100) (hm : mn ≤ 1000) (hT : T ≤ 100) (r m : Int) (er : r = rn) (em : m = mn) :
    Calls Try.prog 59 #[.pointer (some ⟨gN, 0, none⟩), .int .i64 r, .int .i64 m] w fun e w' => e = .returned (.int .i64 ((nodeN T rn mn : Nat) : Int)) ∧ Below w.heap.size w w' := by
  subst ht
  refine (nodeC_calls gN p0 p1 x y T r m w bN (by omega) (by omega) (by omega)).mono ?_
  rintro e w' ⟨h1, h2⟩
  refine ⟨?_, h2⟩
  rw [h1, er, em]
  have : (2 : Int) + (rn : Int) * ((T : Int) + 1) + (mn : Int) = ((nodeN T rn mn : Nat) : Int) := by
    unfold nodeN
    push_cast
    omega
  rw [this]

theorem info96 : (Try.prog.info? 96).map (fun i => (i.zero, i.size, i.bytes)) = some (some (.slice none 0 0), 1, 24) := by kernel_rfl

set_option maxRecDepth 100000 in
set_option maxHeartbeats 8000000 in

theorem flow_calls (ps : List Int) (qs : List S45) (T : Nat) (A B : Option Addr) (c d : Nat) (w : World) (hok : HOk ps qs) (hT : T ≤ 60) (hP : Kd.C kI w A ps.length ps) (hQ : Kd.C k45 w B qs.length qs) :
    Calls Try.prog 51 #[.agg #[.slice A ps.length c, .slice B qs.length d], .int .i64 (T : Int)] w fun e w' => ∃ gN gE out f, e = .returned (.pointer (some ⟨gN, 0, none⟩)) ∧ Net w' w.heap.size gN gE (nodeN T ps.length 0) ⟨.slice A ps.length c, .slice B qs.length d, (T : Int)⟩ out (edH ps qs T) f ∧ MaxFlow (edH ps qs T) (nodeN T ps.length 0) f out ∧ Below w.heap.size w w' := by
  have hu3 := Try.underlying3
  have hu22 := Try.underlying22
  have hu23 := Try.underlying23
  have hu25 := Try.underlying25
  have hu45 := Try.underlying45
  have hu72 := Try.underlying72
  have hu74 := Try.underlying74
  have hu76 := Try.underlying76
  have hu96 := Try.underlying96
  obtain ⟨z3, o3⟩ := info_some info3s (by decide)
  obtain ⟨z4, o4⟩ := info_some info4s (by decide)
  obtain ⟨z22, o22⟩ := info_some info22s (by decide)
  obtain ⟨z23, o23⟩ := info_some info23s (by decide)
  obtain ⟨z25, o25⟩ := info_some info25s (by decide)
  obtain ⟨z45, o45⟩ := info_some info45s (by decide)
  obtain ⟨z72, o72⟩ := info_some info72s (by decide)
  obtain ⟨z74, o74⟩ := info_some info74s (by decide)
  obtain ⟨z76, o76⟩ := info_some info76s (by decide)
  obtain ⟨z96, o96⟩ := info_some info96s (by decide)
  have hr6 := hok.r6
  have hq12 := hok.q12
  refine E.enter (N := 116) Try.func51 rfl Try.ntmps51 (args := [.agg #[.slice A ps.length c, .slice B qs.length d], .int .i64 (T : Int)]) (by simp) ?_
  have L := Below.refl w.heap.size w
  refine E.CG.seq ?_
  refine E.CG.list ?_
  refine E.GL.st rfl rfl rfl (E.ST.box rfl rfl fun g2 w2 e2 b2 l2 => ?_)
  have h2_L : w.heap.size ≤ g2 := by rw [e2]; exact L.size
  replace L := below_step L l2
  refine E.GL.run rfl rfl rfl (E.Runs.assign rfl rfl) ?_
  refine E.GL.done ?_
  refine E.QG.code ?_
  refine E.CG.seq ?_
  refine E.CG.list ?_
  refine E.GL.run rfl rfl rfl (E.Runs.loads (cs := [.slice A ps.length c, .slice B qs.length d]) rfl rfl hu25 rfl info25s (blk_cells b2)) ?_
  refine E.GL.run rfl rfl rfl (E.Runs.move rfl rfl) ?_
  refine E.GL.run rfl rfl rfl (E.Runs.build rfl (E.epc rfl (E.epc rfl E.epn)) (build76 _ _ _ _ _ _ _)) ?_
  refine E.GL.st rfl rfl rfl (E.ST.box rfl rfl fun gN w17 e17 b17 l17 => ?_)
  have h17L : w.heap.size ≤ gN := by rw [e17]; exact L.size
  replace b2 := blk_below b2 l17
  replace L := below_step L l17
  refine E.GL.run rfl rfl rfl (E.Runs.assign rfl rfl) ?_
  refine E.GL.done ?_
  refine E.QG.code ?_
  refine E.CG.seq ?_
  refine E.CG.list ?_
  refine E.GL.run rfl rfl rfl (E.Runs.move rfl rfl) ?_
  refine E.GL.run rfl rfl rfl (E.Runs.move rfl rfl) ?_
  refine E.GL.run rfl rfl rfl (E.Runs.fieldAddr rfl rfl hu25 rfl (by assumption) rfl) ?_
  refine E.GL.run rfl rfl rfl (E.Runs.load1 rfl rfl hu22 rfl (by first | assumption | exact E.blkc (by assumption) rfl | exact pw_cell_below L (by assumption))) ?_
  refine E.GL.run rfl rfl rfl (E.Runs.len rfl rfl hu22) ?_
  refine E.GL.st rfl rfl rfl (E.ST.call rfl ent59 (E.evc rfl (E.evc rfl (E.evc rfl E.evn))) ((nodeB_calls gN _ _ _ _ _ T ps.length 0 _ b17 rfl (by omega) (by omega) (by omega) _ _ rfl rfl).mono ?_))
  rintro e w23 ⟨rfl, l23⟩
  refine ⟨_, rfl, ?_⟩
  replace b2 := blk_below b2 l23
  replace b17 := blk_below b17 l23
  replace L := below_step L l23
  refine E.GL.st rfl rfl rfl (E.ST.makeB rfl rfl rfl hu74 info96 rfl (by have := nodes_few hok hT; omega) fun gE w24 e24 bE l24 => ?_)
  have hgE : w.heap.size ≤ gE := by rw [e24]; exact L.size
  replace b2 := blk_below b2 l24
  replace b17 := blk_below b17 l24
  replace L := below_step L l24
  refine E.GL.run rfl rfl rfl (E.Runs.nilCheck rfl rfl) ?_
  refine E.GL.run rfl rfl rfl (E.Runs.fieldAddr rfl rfl hu76 rfl (by assumption) rfl) ?_
  refine E.GL.sn rfl rfl (E.ST.storeSl (cs := [.slice A ps.length c, .slice B qs.length d, .int .i64 (T : Int), .slice none 0 0, .int .i64 0]) rfl z74 o74 rfl rfl b17 rfl rfl fun w29 d17 l29 => ?_)
  replace b2 := blk_grown b2 l29 (E.nes (blk_ne b2 b17 (by decide)))
  replace bE := blk_grown bE l29 (E.nes (blk_ne bE b17 (by decide)))
  replace L := E.below_own L h17L l29
  obtain ⟨n, hn⟩ : ∃ n, n = nodeN T ps.length 0 := ⟨_, rfl⟩
  rw [← hn] at bE d17
  obtain ⟨H, hH⟩ : ∃ H : Hd, H = ⟨.slice A ps.length c, .slice B qs.length d, (T : Int)⟩ := ⟨_, rfl⟩
  have hHT : H.T = (T : Int) := by rw [hH]
  have hn1 : 1 < n := by have := nodeN_two T ps.length 0; omega
  have hnf := nodes_few hok hT
  rw [← hn] at hnf
  have hM : Fs w _ g2 gN gE n H 0 [] (fun _ => 0) := ⟨⟨Nat.le_trans h17L (Nat.le_refl _), by rw [hH]; exact d17, _, by rw [rowsP_nil]; exact Rows.fresh _ _ _ hgE bE⟩, by rw [hH]; exact b2, L, L.size⟩
  clear b2 bE d17
  refine E.GL.done ?_
  refine E.QG.code ?_
  refine E.CG.seq ?_
  refine E.CG.seq ?_
  refine E.CG.list ?_
  refine E.GL.run rfl rfl rfl (E.Runs.fieldAddr rfl rfl hu25 rfl (by assumption) rfl) ?_
  refine E.GL.run rfl rfl rfl (E.Runs.load1 rfl rfl hu22 rfl (E.blkc hM.b2 (by rw [hH]; rfl))) ?_
  refine E.GL.run rfl rfl rfl (E.Runs.len rfl rfl hu22) ?_
  refine E.GL.run rfl rfl rfl (E.Runs.move rfl rfl) ?_
  refine E.GL.done ?_
  refine E.QG.code ?_
  refine E.CG.block ?_
  refine E.CG.loop (fun (s : Nat) => [(1, .int .i64 (T : Int)), (2, .pointer (some ⟨g2, 0, none⟩)), (5, .pointer (some ⟨gN, 0, none⟩)), (28, .slice A ps.length c), (29, .int .i64 ps.length), (30, .int .i64 s)]) (fun s w' => s ≤ ps.length ∧ Fs w w' g2 gN gE n H 0 (edRs T ps s) (fun _ => 0)) (fun s => ps.length - s) 0 (E.subc rfl (E.subc rfl (E.subc rfl (E.subc rfl (E.subc rfl (E.subc rfl E.subn)))))) ⟨Nat.zero_le _, hM⟩ ?_
  rintro s w4 ⟨hs1, hM⟩
  refine E.CG.seq ?_
  refine E.CG.list ?_
  refine E.GL.cmp rfl rfl rfl (fun _ h => (E.Runs.lss rfl rfl rfl h)) (fun h31 => ?_) (fun h31 => ?_)
  · have hs : s < ps.length := by omega
    obtain ⟨aP, eP, cP⟩ := int_at hP (getD_some hs 0)
    refine E.GL.done ?_
    refine E.QG.code ?_
    refine E.CG.seq ?_
    refine E.CG.cond_t rfl ?_
    refine E.CG.skip ?_
    refine E.QG.code ?_
    refine E.CG.seq ?_
    refine E.CG.block ?_
    refine E.CG.seq ?_
    refine E.CG.list ?_
    refine E.GL.run rfl rfl rfl (E.Runs.move rfl rfl) ?_
    refine E.GL.run rfl rfl rfl (E.Runs.indexAddrA rfl rfl rfl hu22 z3 o3 (show (s : Int) < ps.length by omega) eP rfl) ?_
    refine E.GL.run rfl rfl rfl (E.Runs.load rfl rfl hu3 (pw_cell_below hM.bel cP)) ?_
    refine E.GL.run rfl rfl rfl (E.Runs.assign rfl rfl) ?_
    refine E.GL.run rfl rfl rfl (E.Runs.assign rfl rfl) ?_
    refine E.GL.done ?_
    refine E.QG.code ?_
    refine E.CG.seq ?_
    refine E.CG.list ?_
    refine E.GL.run rfl rfl rfl (E.Runs.move rfl rfl) ?_
    refine E.GL.run rfl rfl rfl (E.Runs.move rfl rfl) ?_
    refine E.GL.run rfl rfl rfl (E.Runs.move rfl rfl) ?_
    refine E.GL.st rfl rfl rfl (E.ST.call rfl ent59 (E.evc rfl (E.evc rfl (E.evc rfl E.evn))) ((nodeB_calls gN _ _ _ _ _ T s 0 _ hM.net.blk hHT (by omega) (by omega) (by omega) _ _ rfl rfl).mono ?_))
    rintro e w38 ⟨rfl, l38⟩
    refine ⟨_, rfl, ?_⟩
    replace hM := hM.below l38
    refine E.GL.run rfl rfl rfl (E.Runs.move rfl rfl) ?_
    refine E.GL.run rfl rfl rfl (E.Runs.build rfl (E.epc rfl E.epn) (build72 _)) ?_
    refine E.GL.st rfl rfl rfl (E.ST.call rfl ent60 (E.evc rfl (E.evc rfl (E.evc rfl (E.evc rfl (E.evc rfl E.evn))))) ((hM.join (e := ⟨0, nodeN T s 0, ps.getD s 0, -1, 0⟩) rfl (by have := nodeN_two T s 0; simp only; omega) (by simp only; omega) (by rw [hn]; exact nodeN_lt hs (by omega)) (by omega) (by rw [edRs_len]; have := Nat.mul_le_mul (show s ≤ 6 by omega) (show T + 1 ≤ 61 by omega); omega)).mono ?_))
    rintro e w41 ⟨v41, rfl, hM41, hC41⟩
    refine ⟨_, rfl, ?_⟩
    clear hM
    have hM := hM41
    clear hM41
    refine E.GL.done ?_
    refine E.QG.code ?_
    refine E.CG.seq ?_
    refine E.CG.list ?_
    refine E.GL.run rfl rfl rfl (E.Runs.move rfl rfl) ?_
    refine E.GL.run rfl rfl rfl (E.Runs.move rfl rfl) ?_
    refine E.GL.done ?_
    refine E.QG.code ?_
    refine E.CG.block ?_
    refine E.CG.loop (fun (m : Nat) => [(1, .int .i64 (T : Int)), (2, .pointer (some ⟨g2, 0, none⟩)), (5, .pointer (some ⟨gN, 0, none⟩)), (6, .int .i64 s), (28, .slice A ps.length c), (29, .int .i64 ps.length), (30, .int .i64 s), (42, .int .i64 (T : Int)), (43, .int .i64 m)]) (fun m w' => m ≤ T ∧ Fs w w' g2 gN gE n H 0 (edRs T ps s ++ edR T s (ps.getD s 0) m) (fun _ => 0)) (fun m => T - m) 0 (E.subc rfl (E.subc rfl (E.subc rfl (E.subc rfl (E.subc rfl (E.subc rfl (E.subc rfl (E.subc rfl (E.subc rfl E.subn))))))))) ⟨Nat.zero_le _, hM⟩ ?_
    rintro m w8 ⟨hm1, hM⟩
    refine E.CG.seq ?_
    refine E.CG.list ?_
    refine E.GL.cmp rfl rfl rfl (fun _ h => (E.Runs.lss rfl rfl rfl h)) (fun h44 => ?_) (fun h44 => ?_)
    · have hmT : m < T := by omega
      refine E.GL.done ?_
      refine E.QG.code ?_
      refine E.CG.seq ?_
      refine E.CG.cond_t rfl ?_
      refine E.CG.skip ?_
      refine E.QG.code ?_
      refine E.CG.seq ?_
      refine E.CG.block ?_
      refine E.CG.seq ?_
      refine E.CG.list ?_
      refine E.GL.run rfl rfl rfl (E.Runs.move rfl rfl) ?_
      refine E.GL.run rfl rfl rfl (E.Runs.assign rfl rfl) ?_
      refine E.GL.done ?_
      refine E.QG.code ?_
      refine E.CG.list ?_
      refine E.GL.run rfl rfl rfl (E.Runs.move rfl rfl) ?_
      refine E.GL.run rfl rfl rfl (E.Runs.move rfl rfl) ?_
      refine E.GL.run rfl rfl rfl (E.Runs.move rfl rfl) ?_
      refine E.GL.run rfl rfl rfl (E.Runs.move rfl rfl) ?_
      refine E.GL.st rfl rfl rfl (E.ST.call rfl ent59 (E.evc rfl (E.evc rfl (E.evc rfl E.evn))) ((nodeB_calls gN _ _ _ _ _ T s m _ hM.net.blk hHT (by omega) (by omega) (by omega) _ _ rfl rfl).mono ?_))
      rintro e w50 ⟨rfl, l50⟩
      refine ⟨_, rfl, ?_⟩
      replace hM := hM.below l50
      refine E.GL.run rfl rfl rfl (E.Runs.move rfl rfl) ?_
      refine E.GL.run rfl rfl rfl (E.Runs.move rfl rfl) ?_
      refine E.GL.run rfl rfl rfl (E.Runs.move rfl rfl) ?_
      refine E.GL.run rfl rfl rfl (E.Runs.add rfl rfl rfl (IntWalk.i64_in _ (by omega))) ?_
      refine E.GL.st rfl rfl rfl (E.ST.call rfl ent59 (E.evc rfl (E.evc rfl (E.evc rfl E.evn))) ((nodeB_calls gN _ _ _ _ _ T s (m + 1) _ hM.net.blk hHT (by omega) (by omega) (by omega) _ _ rfl (by push_cast; rfl)).mono ?_))
      rintro e w55 ⟨rfl, l55⟩
      refine ⟨_, rfl, ?_⟩
      replace hM := hM.below l55
      refine E.GL.run rfl rfl rfl (E.Runs.build rfl (E.epc rfl E.epn) (build72 _)) ?_
      refine E.GL.st rfl rfl rfl (E.ST.call rfl ent60 (E.evc rfl (E.evc rfl (E.evc rfl (E.evc rfl (E.evc rfl E.evn))))) ((hM.join (e := ⟨nodeN T s m, nodeN T s (m + 1), 1073741824, -1, 0⟩) rfl (by unfold nodeN; simp only; omega) (by rw [hn]; exact nodeN_lt hs (by omega)) (by rw [hn]; exact nodeN_lt hs (by omega)) (by omega) (by rw [List.length_append, edRs_len, edR_len]; have := Nat.mul_le_mul (show s ≤ 6 by omega) (show T + 1 ≤ 61 by omega); omega)).mono ?_))
      rintro e w57 ⟨v57, rfl, hM57, hC57⟩
      refine ⟨_, rfl, ?_⟩
      clear hM
      have hM := hM57
      clear hM57
      refine E.GL.done ?_
      refine E.QG.block_normal ?_
      refine E.QG.code ?_
      refine E.CG.list ?_
      refine E.GL.run rfl rfl rfl (E.Runs.add rfl rfl rfl (IntWalk.i64_in _ (by omega))) ?_
      refine E.GL.run rfl rfl rfl (E.Runs.move rfl rfl) ?_
      refine E.GL.done ?_
      exact E.QG.round (m + 1) (E.subc rfl (E.subc rfl (E.subc rfl (E.subc rfl (E.subc rfl (E.subc rfl (E.subc rfl (E.subc rfl (E.subc rfl E.subn))))))))) ⟨by omega, by rw [edR_snoc, ← List.append_assoc]; exact hM⟩ (by omega)
    · have hmT : m = T := by omega
      rw [hmT] at hM
      refine E.GL.done ?_
      refine E.QG.code ?_
      refine E.CG.seq ?_
      refine E.CG.cond_f rfl ?_
      refine E.CG.exit ?_
      refine E.QG.pass_exit ?_
      refine E.QG.pass_exit ?_
      refine E.QG.block_here ?_
      refine E.QG.block_normal ?_
      refine E.QG.code ?_
      refine E.CG.list ?_
      refine E.GL.run rfl rfl rfl (E.Runs.add rfl rfl rfl (IntWalk.i64_in _ (by omega))) ?_
      refine E.GL.run rfl rfl rfl (E.Runs.move rfl rfl) ?_
      refine E.GL.done ?_
      exact E.QG.round (s + 1) (E.subc rfl (E.subc rfl (E.subc rfl (E.subc rfl (E.subc rfl (E.subc rfl E.subn)))))) ⟨by omega, hM⟩ (by omega)
  · have hs4 : s = ps.length := by omega
    rw [hs4] at hM
    refine E.GL.done ?_
    refine E.QG.code ?_
    refine E.CG.seq ?_
    refine E.CG.cond_f rfl ?_
    refine E.CG.exit ?_
    refine E.QG.pass_exit ?_
    refine E.QG.pass_exit ?_
    refine E.QG.block_here ?_
    refine E.QG.code ?_
    refine E.CG.seq ?_
    refine E.CG.seq ?_
    refine E.CG.list ?_
    refine E.GL.run rfl rfl rfl (E.Runs.fieldAddr rfl rfl hu25 rfl (by assumption) rfl) ?_
    refine E.GL.run rfl rfl rfl (E.Runs.load1 rfl rfl hu23 rfl (E.blkc hM.b2 (by rw [hH]; rfl))) ?_
    refine E.GL.run rfl rfl rfl (E.Runs.len rfl rfl hu23) ?_
    refine E.GL.run rfl rfl rfl (E.Runs.move rfl rfl) ?_
    refine E.GL.done ?_
    refine E.QG.code ?_
    refine E.CG.block ?_
    refine E.CG.loop (fun (i : Nat) => [(1, .int .i64 (T : Int)), (2, .pointer (some ⟨g2, 0, none⟩)), (5, .pointer (some ⟨gN, 0, none⟩)), (61, .slice B qs.length d), (62, .int .i64 qs.length), (63, .int .i64 i)]) (fun i w' => i ≤ qs.length ∧ Fs w w' g2 gN gE n H 0 (edRs T ps ps.length ++ edQs T qs i) (fun _ => 0)) (fun i => qs.length - i) 0 (E.subc rfl (E.subc rfl (E.subc rfl (E.subc rfl (E.subc rfl (E.subc rfl E.subn)))))) ⟨Nat.zero_le _, by rw [show edQs T qs 0 = [] from rfl, List.append_nil]; exact hM⟩ ?_
    rintro i w14 ⟨hi1, hM⟩
    refine E.CG.seq ?_
    refine E.CG.list ?_
    refine E.GL.cmp rfl rfl rfl (fun _ h => (E.Runs.lss rfl rfl rfl h)) (fun h64 => ?_) (fun h64 => ?_)
    · have hi2 : i < qs.length := by omega
      obtain ⟨q, hq⟩ : ∃ q, q = qs.getD i P.z45 := ⟨_, rfl⟩
      obtain ⟨aQ, eQ, cQ⟩ := pass_at hQ (show qs[i]? = some q by rw [hq]; exact getD_some hi2 _)
      have hqk : QOk ps.length q := by rw [hq]; exact hok.q _ (getD_mem (z := P.z45) hi2)
      obtain ⟨hq1, hq2, hq3, hq4, hq5, hq6, hq7, hq8, hq9⟩ := id hqk
      refine E.GL.done ?_
      refine E.QG.code ?_
      refine E.CG.seq ?_
      refine E.CG.cond_t rfl ?_
      refine E.CG.skip ?_
      refine E.QG.code ?_
      refine E.CG.seq ?_
      refine E.CG.block ?_
      refine E.CG.seq ?_
      have hqc : ∀ j v, ([.int .i64 q.f0, .int .i64 q.f1, .int .i64 q.f2, .int .i64 q.f3] : List Value)[j]? = some v → World.cell? _ ((aQ.add (i * 4)).add j) = some v := fun j v hv => pw_cell_below hM.bel (cQ j v hv)
      refine E.CG.list ?_
      refine E.GL.run rfl rfl rfl (E.Runs.move rfl rfl) ?_
      refine E.GL.run rfl rfl rfl (E.Runs.indexAddrA rfl rfl rfl hu23 z45 o45 (show (i : Int) < qs.length by omega) eQ rfl) ?_
      refine E.GL.run rfl rfl rfl (E.Runs.loads (cs := [.int .i64 q.f0, .int .i64 q.f1, .int .i64 q.f2, .int .i64 q.f3]) rfl rfl hu45 rfl info45s hqc) ?_
      have hsz10 := hM.size
      refine E.GL.st rfl rfl rfl (E.ST.alloc rfl info45z fun g10 w10 e10 b10 l10 => ?_)
      replace hM := hM.below l10
      have hg10 : w.heap.size ≤ g10 := by rw [e10]; exact hsz10
      refine E.GL.run rfl rfl rfl (E.Runs.assign rfl rfl) ?_
      refine E.GL.store_whole rfl rfl rfl rfl rfl b10 rfl info45s (four_one _ _ _ _) fun wS15_5 c10 lS15_5 => ?_
      replace hM := hM.grown lS15_5 ⟨⟨_, b10⟩, hg10⟩
      replace b10 := c10
      clear c10
      refine E.GL.done ?_
      refine E.QG.code ?_
      refine E.CG.seq ?_
      refine E.CG.list ?_
      refine E.GL.run rfl rfl rfl (E.Runs.assign rfl rfl) ?_
      refine E.GL.done ?_
      refine E.QG.code ?_
      refine E.CG.block ?_
      have s17_b10 := b10
      refine E.CG.loop (fun (m : Nat) => [(1, .int .i64 (T : Int)), (2, .pointer (some ⟨g2, 0, none⟩)), (5, .pointer (some ⟨gN, 0, none⟩)), (9, .int .i64 i), (10, .pointer (some ⟨g10, 0, none⟩)), (11, .int .i64 m), (61, .slice B qs.length d), (62, .int .i64 qs.length), (63, .int .i64 i)]) (fun m w' => m ≤ T + 1 - q.f3.toNat ∧ Fs w w' g2 gN gE n H 0 (edRs T ps ps.length ++ edQs T qs i ++ edQ T i q m) (fun _ => 0) ∧ w'.heap[g10]? = some (.cells #[.int .i64 q.f0, .int .i64 q.f1, .int .i64 q.f2, .int .i64 q.f3] 45 (0, 0))) (fun m => T + 1 - m) 0 (E.subc rfl (E.subc rfl (E.subc rfl (E.subc rfl (E.subc rfl (E.subc rfl (E.subc rfl (E.subc rfl (E.subc rfl E.subn))))))))) ⟨Nat.zero_le _, by rw [show edQ T i q 0 = [] from rfl, List.append_nil]; exact hM, b10⟩ ?_
      rintro m w17 ⟨hm1, hM, b10⟩
      refine E.CG.seq ?_
      refine E.CG.seq ?_
      refine E.CG.list ?_
      refine E.GL.run rfl rfl rfl (E.Runs.move rfl rfl) ?_
      refine E.GL.run rfl rfl rfl (E.Runs.fieldAddr rfl rfl hu45 rfl (by assumption) rfl) ?_
      refine E.GL.run rfl rfl rfl (E.Runs.load rfl rfl hu3 (by first | assumption | exact E.blkc (by assumption) rfl)) ?_
      refine E.GL.run rfl rfl rfl (E.Runs.add rfl rfl rfl (IntWalk.i64_in _ (by omega))) ?_
      refine E.GL.run rfl rfl rfl (E.Runs.move rfl rfl) ?_
      refine E.GL.cmp rfl rfl rfl (fun _ h => (E.Runs.leq rfl rfl rfl h)) (fun h73 => ?_) (fun h73 => ?_)
      · have hmq : m + q.f3.toNat < T + 1 := by omega
        obtain ⟨ht1, ht2, ht3⟩ := toN_ok (ps := ps) hqk hmq
        rw [← hn] at ht1 ht2
        refine E.GL.done ?_
        refine E.QG.code ?_
        refine E.CG.cond_t rfl ?_
        refine E.CG.skip ?_
        refine E.QG.code ?_
        refine E.CG.seq ?_
        refine E.CG.block ?_
        refine E.CG.seq ?_
        refine E.CG.list ?_
        refine E.GL.run rfl rfl rfl (E.Runs.assign rfl rfl) ?_
        refine E.GL.done ?_
        refine E.QG.code ?_
        refine E.CG.seq ?_
        refine E.CG.seq ?_
        refine E.CG.list ?_
        refine E.GL.run rfl rfl rfl (E.Runs.fieldAddr rfl rfl hu45 rfl (by assumption) rfl) ?_
        refine E.GL.run rfl rfl rfl (E.Runs.load rfl rfl hu3 (by first | assumption | exact E.blkc (by assumption) rfl)) ?_
        refine E.GL.cmpn rfl rfl rfl (fun _ h => (E.Runs.neq rfl rfl rfl h)) (fun h78 => ?_) (fun h78 => ?_)
        · have htn : toN T q m = nodeN T q.f1.toNat (m + q.f3.toNat) := by unfold toN; rw [if_neg h78]
          refine E.GL.done ?_
          refine E.QG.code ?_
          refine E.CG.cond_t rfl ?_
          refine E.CG.list ?_
          refine E.GL.run rfl rfl rfl (E.Runs.move rfl rfl) ?_
          refine E.GL.run rfl rfl rfl (E.Runs.fieldAddr rfl rfl hu45 rfl (by assumption) rfl) ?_
          refine E.GL.run rfl rfl rfl (E.Runs.load rfl rfl hu3 (by first | assumption | exact E.blkc (by assumption) rfl)) ?_
          refine E.GL.run rfl rfl rfl (E.Runs.move rfl rfl) ?_
          refine E.GL.run rfl rfl rfl (E.Runs.fieldAddr rfl rfl hu45 rfl (by assumption) rfl) ?_
          refine E.GL.run rfl rfl rfl (E.Runs.load rfl rfl hu3 (by first | assumption | exact E.blkc (by assumption) rfl)) ?_
          refine E.GL.run rfl rfl rfl (E.Runs.add rfl rfl rfl (IntWalk.i64_in _ (by omega))) ?_
          refine E.GL.st rfl rfl rfl (E.ST.call rfl ent59 (E.evc rfl (E.evc rfl (E.evc rfl E.evn))) ((nodeB_calls gN _ _ _ _ _ T q.f1.toNat (m + q.f3.toNat) _ hM.net.blk hHT (by omega) (by omega) (by omega) _ _ (by omega) (by omega)).mono ?_))
          rintro e w86 ⟨rfl, l86⟩
          refine ⟨_, rfl, ?_⟩
          replace b10 := blk_below b10 l86
          replace hM := hM.below l86
          refine E.GL.run rfl rfl rfl (E.Runs.assign rfl rfl) ?_
          refine E.GL.done ?_
          refine E.QG.code ?_
          refine E.CG.heldJ 12 (fun v W => v.grownBy W (none)) (fun _ _ => True) (by kernel_rfl) (by kernel_rfl) (fun v => World.grownBy.refl _ _) fun v22 lD => ?_
          replace b10 := blk_below b10 lD
          replace hM := hM.below lD
          have lD22 := lD
          clear lD
          have s_b10 := b10
          have s_hM := hM
          have hh : v22.grownBy v22 (none) := World.grownBy.refl _ _
          refine E.GJ.take1 (i := 0) rfl (by kernel_rfl) (by kernel_rfl) (by kernel_rfl) (by kernel_rfl) rfl (by kernel_rfl) (by kernel_rfl) (by intro c a d v w h; cases d <;> exact h) rfl rfl rfl (fun w' hS => (E.Runs.move rfl rfl)) ?_
          refine E.GJ.take1t (i := 1) 5 rfl (by kernel_rfl) (by kernel_rfl) (by kernel_rfl) (by kernel_rfl) rfl (by kernel_rfl) rfl (by kernel_rfl) (by kernel_rfl) (by kernel_rfl) (by kernel_rfl) (by kernel_rfl) (by intro c a d v w h; cases d <;> exact h) rfl rfl rfl (fun w' hS => (E.Runs.move rfl rfl)) ?_
          refine E.GJ.take2 (i := 2) rfl (by kernel_rfl) (by kernel_rfl) (by kernel_rfl) (by kernel_rfl) (by intro c a d v w h; cases d <;> exact h) rfl rfl rfl (fun w' hS => (E.Runs.fieldAddr rfl rfl hu45 rfl (by assumption) rfl)) ?_
          refine E.GJ.take1t (i := 3) 5 rfl (by kernel_rfl) (by kernel_rfl) (by kernel_rfl) (by kernel_rfl) rfl (by kernel_rfl) rfl (by kernel_rfl) (by kernel_rfl) (by kernel_rfl) (by kernel_rfl) (by kernel_rfl) (by intro c a d v w h; cases d <;> exact h) rfl rfl rfl (fun w' hS => (E.Runs.load rfl rfl hu3 (by first | exact E.keeps hS (E.blkc (by assumption) rfl) (by first | exact E.nen | exact E.nes (by assumption) | exact E.nes (Ne.symm (by assumption)))))) ?_
          refine E.GJ.take1t (i := 4) 5 rfl (by kernel_rfl) (by kernel_rfl) (by kernel_rfl) (by kernel_rfl) rfl (by kernel_rfl) rfl (by kernel_rfl) (by kernel_rfl) (by kernel_rfl) (by kernel_rfl) (by kernel_rfl) (by intro c a d v w h; cases d <;> exact h) rfl rfl rfl (fun w' hS => (E.Runs.move rfl rfl)) ?_
          refine E.GJ.take1 (i := 6) rfl (by kernel_rfl) (by kernel_rfl) (by kernel_rfl) (by kernel_rfl) rfl (by kernel_rfl) (by kernel_rfl) (by intro c a d v w h; cases d <;> exact h) rfl rfl rfl (fun w' hS => (E.Runs.move rfl rfl)) ?_
          refine E.GJ.take1t (i := 7) 8 rfl (by kernel_rfl) (by kernel_rfl) (by kernel_rfl) (by kernel_rfl) rfl (by kernel_rfl) rfl (by kernel_rfl) (by kernel_rfl) (by kernel_rfl) (by kernel_rfl) (by kernel_rfl) (by intro c a d v w h; cases d <;> exact h) rfl rfl rfl (fun w' hS => (E.Runs.fieldAddr rfl rfl hu45 rfl (by assumption) rfl)) ?_
          refine E.GJ.take1 (i := 8) rfl (by kernel_rfl) (by kernel_rfl) (by kernel_rfl) (by kernel_rfl) rfl (by kernel_rfl) (by kernel_rfl) (by intro c a d v w h; cases d <;> exact h) rfl rfl rfl (fun w' hS => (E.Runs.load rfl rfl hu3 (by first | exact E.keeps hS (E.blkc (by assumption) rfl) (by first | exact E.nen | exact E.nes (by assumption) | exact E.nes (Ne.symm (by assumption)))))) ?_
          refine E.GJ.take1t (i := 9) 11 rfl (by kernel_rfl) (by kernel_rfl) (by kernel_rfl) (by kernel_rfl) rfl (by kernel_rfl) rfl (by kernel_rfl) (by kernel_rfl) (by kernel_rfl) (by kernel_rfl) (by kernel_rfl) (by intro c a d v w h; cases d <;> exact h) rfl rfl rfl (fun w' hS => (E.Runs.move rfl rfl)) ?_
          refine E.GJ.take1t (i := 10) 11 rfl (by kernel_rfl) (by kernel_rfl) (by kernel_rfl) (by kernel_rfl) rfl (by kernel_rfl) rfl (by kernel_rfl) (by kernel_rfl) (by kernel_rfl) (by kernel_rfl) (by kernel_rfl) (by intro c a d v w h; cases d <;> exact h) rfl rfl rfl (fun w' hS => (E.Runs.move rfl rfl)) ?_
          refine E.GJ.take1 (i := 11) rfl (by kernel_rfl) (by kernel_rfl) (by kernel_rfl) (by kernel_rfl) rfl (by kernel_rfl) (by kernel_rfl) (by intro c a d v w h; cases d <;> exact h) rfl rfl rfl (fun w' hS => (E.Runs.build rfl (E.epc rfl (E.epc rfl E.epn)) (build72b _ _))) ?_
          refine E.GJ.one (i := 5) (by kernel_rfl) (E.OJ.st rfl rfl rfl rfl (E.ST.call rfl ent59 (E.evc rfl (E.evc rfl (E.evc rfl E.evn))) ((nodeB_calls gN _ _ _ _ _ T q.f0.toNat m _ hM.net.blk hHT (by omega) (by omega) (by omega) _ _ (by omega) rfl).mono ?_)))
          rintro e w92 ⟨rfl, l92⟩
          refine ⟨_, rfl, (E.SJ.before (by kernel_rfl)).mpr (hh.trans (E.gbB l92)), ?_⟩
          replace hh := hh.trans (E.gbB l92)
          replace b10 := blk_below b10 l92
          replace hM := hM.below l92
          refine E.GJ.one (i := 12) (by kernel_rfl) (E.OJ.st rfl rfl rfl rfl (E.ST.call rfl ent60 (E.evc rfl (E.evc rfl (E.evc (by rw [htn]; rfl) (E.evc rfl (E.evc rfl E.evn))))) ((hM.join (e := ⟨nodeN T q.f0.toNat m, toN T q m, q.f2, (i : Int), (m : Int)⟩) rfl ht3 ht2 ht1 (by omega) (by rw [List.length_append, List.length_append, edRs_len, edQ_len]; have := Nat.mul_le_mul (show ps.length ≤ 6 by omega) (show T + 1 ≤ 61 by omega); have := edQs_len T qs i; have := Nat.mul_le_mul (show i ≤ 12 by omega) (show T + 1 ≤ 61 by omega); omega)).mono ?_)))
          rintro e w99 ⟨v99, rfl, hM99, hC99⟩
          refine ⟨_, rfl, (E.SJ.behind (by kernel_rfl)).mpr trivial, ?_⟩
          replace b10 := hC99 _ _ _ _ b10 (by decide) (by decide)
          clear hM
          have hM := hM99
          clear hM99
          refine E.GJ.done (by kernel_rfl) ?_
          refine E.QG.block_normal ?_
          refine E.QG.code ?_
          refine E.CG.list ?_
          refine E.GL.run rfl rfl rfl (E.Runs.move rfl rfl) ?_
          refine E.GL.run rfl rfl rfl (E.Runs.add rfl rfl rfl (IntWalk.i64_in _ (by omega))) ?_
          refine E.GL.run rfl rfl rfl (E.Runs.assign rfl rfl) ?_
          refine E.GL.done ?_
          exact E.QG.round (m + 1) (E.subc rfl (E.subc rfl (E.subc rfl (E.subc rfl (E.subc rfl (E.subc rfl (E.subc rfl (E.subc rfl (E.subc rfl E.subn))))))))) ⟨by omega, by rw [edQ_snoc, ← List.append_assoc]; exact hM, b10⟩ (by omega)
        · have htn : toN T q m = 1 := by unfold toN; rw [if_pos h78]
          refine E.GL.done ?_
          refine E.QG.code ?_
          refine E.CG.cond_f rfl ?_
          refine E.CG.skip ?_
          refine E.QG.code ?_
          refine E.CG.heldJ 12 (fun v W => v.grownBy W (none)) (fun _ _ => True) (by kernel_rfl) (by kernel_rfl) (fun v => World.grownBy.refl _ _) fun v22 lD => ?_
          replace b10 := blk_below b10 lD
          replace hM := hM.below lD
          have lD22 := lD
          clear lD
          have s_b10 := b10
          have s_hM := hM
          have hh : v22.grownBy v22 (none) := World.grownBy.refl _ _
          refine E.GJ.take1 (i := 0) rfl (by kernel_rfl) (by kernel_rfl) (by kernel_rfl) (by kernel_rfl) rfl (by kernel_rfl) (by kernel_rfl) (by intro c a d v w h; cases d <;> exact h) rfl rfl rfl (fun w' hS => (E.Runs.move rfl rfl)) ?_
          refine E.GJ.take1t (i := 1) 5 rfl (by kernel_rfl) (by kernel_rfl) (by kernel_rfl) (by kernel_rfl) rfl (by kernel_rfl) rfl (by kernel_rfl) (by kernel_rfl) (by kernel_rfl) (by kernel_rfl) (by kernel_rfl) (by intro c a d v w h; cases d <;> exact h) rfl rfl rfl (fun w' hS => (E.Runs.move rfl rfl)) ?_
          refine E.GJ.take2 (i := 2) rfl (by kernel_rfl) (by kernel_rfl) (by kernel_rfl) (by kernel_rfl) (by intro c a d v w h; cases d <;> exact h) rfl rfl rfl (fun w' hS => (E.Runs.fieldAddr rfl rfl hu45 rfl (by assumption) rfl)) ?_
          refine E.GJ.take1t (i := 3) 5 rfl (by kernel_rfl) (by kernel_rfl) (by kernel_rfl) (by kernel_rfl) rfl (by kernel_rfl) rfl (by kernel_rfl) (by kernel_rfl) (by kernel_rfl) (by kernel_rfl) (by kernel_rfl) (by intro c a d v w h; cases d <;> exact h) rfl rfl rfl (fun w' hS => (E.Runs.load rfl rfl hu3 (by first | exact E.keeps hS (E.blkc (by assumption) rfl) (by first | exact E.nen | exact E.nes (by assumption) | exact E.nes (Ne.symm (by assumption)))))) ?_
          refine E.GJ.take1t (i := 4) 5 rfl (by kernel_rfl) (by kernel_rfl) (by kernel_rfl) (by kernel_rfl) rfl (by kernel_rfl) rfl (by kernel_rfl) (by kernel_rfl) (by kernel_rfl) (by kernel_rfl) (by kernel_rfl) (by intro c a d v w h; cases d <;> exact h) rfl rfl rfl (fun w' hS => (E.Runs.move rfl rfl)) ?_
          refine E.GJ.take1 (i := 6) rfl (by kernel_rfl) (by kernel_rfl) (by kernel_rfl) (by kernel_rfl) rfl (by kernel_rfl) (by kernel_rfl) (by intro c a d v w h; cases d <;> exact h) rfl rfl rfl (fun w' hS => (E.Runs.move rfl rfl)) ?_
          refine E.GJ.take1t (i := 7) 8 rfl (by kernel_rfl) (by kernel_rfl) (by kernel_rfl) (by kernel_rfl) rfl (by kernel_rfl) rfl (by kernel_rfl) (by kernel_rfl) (by kernel_rfl) (by kernel_rfl) (by kernel_rfl) (by intro c a d v w h; cases d <;> exact h) rfl rfl rfl (fun w' hS => (E.Runs.fieldAddr rfl rfl hu45 rfl (by assumption) rfl)) ?_
          refine E.GJ.take1 (i := 8) rfl (by kernel_rfl) (by kernel_rfl) (by kernel_rfl) (by kernel_rfl) rfl (by kernel_rfl) (by kernel_rfl) (by intro c a d v w h; cases d <;> exact h) rfl rfl rfl (fun w' hS => (E.Runs.load rfl rfl hu3 (by first | exact E.keeps hS (E.blkc (by assumption) rfl) (by first | exact E.nen | exact E.nes (by assumption) | exact E.nes (Ne.symm (by assumption)))))) ?_
          refine E.GJ.take1t (i := 9) 11 rfl (by kernel_rfl) (by kernel_rfl) (by kernel_rfl) (by kernel_rfl) rfl (by kernel_rfl) rfl (by kernel_rfl) (by kernel_rfl) (by kernel_rfl) (by kernel_rfl) (by kernel_rfl) (by intro c a d v w h; cases d <;> exact h) rfl rfl rfl (fun w' hS => (E.Runs.move rfl rfl)) ?_
          refine E.GJ.take1t (i := 10) 11 rfl (by kernel_rfl) (by kernel_rfl) (by kernel_rfl) (by kernel_rfl) rfl (by kernel_rfl) rfl (by kernel_rfl) (by kernel_rfl) (by kernel_rfl) (by kernel_rfl) (by kernel_rfl) (by intro c a d v w h; cases d <;> exact h) rfl rfl rfl (fun w' hS => (E.Runs.move rfl rfl)) ?_
          refine E.GJ.take1 (i := 11) rfl (by kernel_rfl) (by kernel_rfl) (by kernel_rfl) (by kernel_rfl) rfl (by kernel_rfl) (by kernel_rfl) (by intro c a d v w h; cases d <;> exact h) rfl rfl rfl (fun w' hS => (E.Runs.build rfl (E.epc rfl (E.epc rfl E.epn)) (build72b _ _))) ?_
          refine E.GJ.one (i := 5) (by kernel_rfl) (E.OJ.st rfl rfl rfl rfl (E.ST.call rfl ent59 (E.evc rfl (E.evc rfl (E.evc rfl E.evn))) ((nodeB_calls gN _ _ _ _ _ T q.f0.toNat m _ hM.net.blk hHT (by omega) (by omega) (by omega) _ _ (by omega) rfl).mono ?_)))
          rintro e w92 ⟨rfl, l92⟩
          refine ⟨_, rfl, (E.SJ.before (by kernel_rfl)).mpr (hh.trans (E.gbB l92)), ?_⟩
          replace hh := hh.trans (E.gbB l92)
          replace b10 := blk_below b10 l92
          replace hM := hM.below l92
          refine E.GJ.one (i := 12) (by kernel_rfl) (E.OJ.st rfl rfl rfl rfl (E.ST.call rfl ent60 (E.evc rfl (E.evc rfl (E.evc (by rw [htn]; rfl) (E.evc rfl (E.evc rfl E.evn))))) ((hM.join (e := ⟨nodeN T q.f0.toNat m, toN T q m, q.f2, (i : Int), (m : Int)⟩) rfl ht3 ht2 ht1 (by omega) (by rw [List.length_append, List.length_append, edRs_len, edQ_len]; have := Nat.mul_le_mul (show ps.length ≤ 6 by omega) (show T + 1 ≤ 61 by omega); have := edQs_len T qs i; have := Nat.mul_le_mul (show i ≤ 12 by omega) (show T + 1 ≤ 61 by omega); omega)).mono ?_)))
          rintro e w99 ⟨v99, rfl, hM99, hC99⟩
          refine ⟨_, rfl, (E.SJ.behind (by kernel_rfl)).mpr trivial, ?_⟩
          replace b10 := hC99 _ _ _ _ b10 (by decide) (by decide)
          clear hM
          have hM := hM99
          clear hM99
          refine E.GJ.done (by kernel_rfl) ?_
          refine E.QG.block_normal ?_
          refine E.QG.code ?_
          refine E.CG.list ?_
          refine E.GL.run rfl rfl rfl (E.Runs.move rfl rfl) ?_
          refine E.GL.run rfl rfl rfl (E.Runs.add rfl rfl rfl (IntWalk.i64_in _ (by omega))) ?_
          refine E.GL.run rfl rfl rfl (E.Runs.assign rfl rfl) ?_
          refine E.GL.done ?_
          exact E.QG.round (m + 1) (E.subc rfl (E.subc rfl (E.subc rfl (E.subc rfl (E.subc rfl (E.subc rfl (E.subc rfl (E.subc rfl (E.subc rfl E.subn))))))))) ⟨by omega, by rw [edQ_snoc, ← List.append_assoc]; exact hM, b10⟩ (by omega)
      · have hmT : m = T + 1 - q.f3.toNat := by omega
        rw [hmT] at hM
        refine E.GL.done ?_
        refine E.QG.code ?_
        refine E.CG.cond_f rfl ?_
        refine E.CG.exit ?_
        refine E.QG.pass_exit ?_
        refine E.QG.pass_exit ?_
        refine E.QG.block_here ?_
        refine E.QG.block_normal ?_
        refine E.QG.code ?_
        refine E.CG.list ?_
        refine E.GL.run rfl rfl rfl (E.Runs.add rfl rfl rfl (IntWalk.i64_in _ (by omega))) ?_
        refine E.GL.run rfl rfl rfl (E.Runs.move rfl rfl) ?_
        refine E.GL.done ?_
        exact E.QG.round (i + 1) (E.subc rfl (E.subc rfl (E.subc rfl (E.subc rfl (E.subc rfl (E.subc rfl E.subn)))))) ⟨by omega, by rw [List.append_assoc] at hM; subst hq; exact hM⟩ (by omega)
    · refine E.GL.done ?_
      refine E.QG.code ?_
      refine E.CG.seq ?_
      refine E.CG.cond_f rfl ?_
      refine E.CG.exit ?_
      refine E.QG.pass_exit ?_
      refine E.QG.pass_exit ?_
      refine E.QG.block_here ?_
      refine E.QG.code ?_
      refine E.CG.seq ?_
      refine E.CG.seq ?_
      have hi4 : i = qs.length := by omega
      rw [hi4] at hM
      have hM : Fs w _ g2 gN gE n H 0 (edH ps qs T) (fun _ => 0) := hM
      refine E.CG.list ?_
      refine E.GL.run rfl rfl rfl (E.Runs.move rfl rfl) ?_
      refine E.GL.st rfl rfl rfl (E.ST.call rfl ent61 (E.evc rfl E.evn) ((hM.push (by rw [hn]; exact edH_ok hok) hn1 (by omega) (by have := edH_len hok hT; omega) (fun k e he => ⟨Int.le_refl _, (edH_cap hok e (List.mem_of_getElem? he)).1⟩) (edH_cap hok)).mono ?_))
      rintro e w102 ⟨r0, f0, rfl, hr0, hp0, hM102⟩
      refine ⟨_, rfl, ?_⟩
      clear hM
      have hM := hM102
      clear hM102
      refine E.GL.run rfl rfl rfl (E.Runs.assign rfl rfl) ?_
      refine E.GL.done ?_
      refine E.QG.code ?_
      refine E.CG.block ?_
      refine E.CG.loop (fun (s : Pf) => [(5, .pointer (some ⟨gN, 0, none⟩)), (13, .int .i64 s.r)]) (fun s w' => Fp (edH ps qs T) n s.f s.out s.r ∧ Fs w w' g2 gN gE n H s.out (edH ps qs T) s.f) (fun s => (capOut (fun v => v = 0) (edH ps qs T) - s.out).toNat) ⟨f0, 0, r0⟩ (E.subc rfl (E.subc rfl E.subn)) ⟨Fp.first (fun e he => (edH_cap hok e he).1) hp0 hr0, hM⟩ ?_
      rintro s w25 ⟨hF, hM⟩
      refine E.CG.seq ?_
      refine E.CG.seq ?_
      refine E.CG.list ?_
      refine E.GL.run rfl rfl rfl (E.Runs.move rfl rfl) ?_
      refine E.GL.cmp rfl rfl rfl (fun _ h => (E.Runs.gtr rfl rfl rfl h)) (fun h104 => ?_) (fun h104 => ?_)
      · refine E.GL.done ?_
        refine E.QG.code ?_
        refine E.CG.cond_t rfl ?_
        refine E.CG.skip ?_
        refine E.QG.code ?_
        refine E.CG.seq ?_
        refine E.CG.block ?_
        refine E.CG.list ?_
        refine E.GL.run rfl rfl rfl (E.Runs.move rfl rfl) ?_
        refine E.GL.run rfl rfl rfl (E.Runs.nilCheck rfl rfl) ?_
        refine E.GL.run rfl rfl rfl (E.Runs.fieldAddr rfl rfl hu76 rfl (by assumption) rfl) ?_
        refine E.GL.run rfl rfl rfl (E.Runs.load rfl rfl hu3 (E.blkc hM.net.blk rfl)) ?_
        refine E.GL.run rfl rfl rfl (E.Runs.move rfl rfl) ?_
        refine E.GL.run rfl rfl rfl (E.Runs.add rfl rfl rfl (IntWalk.i64_in _ (by have := hF.le (by rw [hn]; exact edH_ok hok) hn1; have := capOut_le (fun v => v = 0) (by decide) (E := edH ps qs T) (fun e he => (edH_cap hok e he).2); have := edH_len hok hT; have := hF.o0; have := hF.r0; omega))) ?_
        refine E.GL.run rfl rfl rfl (E.Runs.nilCheck rfl rfl) ?_
        refine E.GL.run rfl rfl rfl (E.Runs.fieldAddr rfl rfl hu76 rfl (by assumption) rfl) ?_
        refine E.GL.sn rfl rfl (E.ST.store rfl z3 o3 rfl rfl hM.net.blk rfl (show _ = (netC H gE n (s.out + s.r)).toArray from rfl) fun w27 c27 l27 => ?_)
        have hM27 := hM.counted c27 l27
        clear hM
        have hM := hM27
        clear hM27
        refine E.GL.done ?_
        refine E.QG.block_normal ?_
        refine E.QG.code ?_
        refine E.CG.list ?_
        refine E.GL.run rfl rfl rfl (E.Runs.move rfl rfl) ?_
        refine E.GL.st rfl rfl rfl (E.ST.call rfl ent61 (E.evc rfl E.evn) ((hM.push (by rw [hn]; exact edH_ok hok) hn1 (by omega) (by have := edH_len hok hT; omega) hF.ok (edH_cap hok)).mono ?_))
        rintro e w106 ⟨r1, f1, rfl, hr1, hp1, hM106⟩
        refine ⟨_, rfl, ?_⟩
        clear hM
        have hM := hM106
        clear hM106
        refine E.GL.run rfl rfl rfl (E.Runs.assign rfl rfl) ?_
        refine E.GL.done ?_
        exact E.QG.round ⟨f1, s.out + s.r, r1⟩ (E.subc rfl (E.subc rfl E.subn)) ⟨hF.next hp1 hr1, hM⟩ (by have := hF.le (by rw [hn]; exact edH_ok hok) hn1; simp only; omega)
      · refine E.GL.done ?_
        refine E.QG.code ?_
        refine E.CG.cond_f rfl ?_
        refine E.CG.exit ?_
        refine E.QG.pass_exit ?_
        refine E.QG.pass_exit ?_
        refine E.QG.block_here ?_
        refine E.QG.code ?_
        refine E.CG.seq ?_
        refine E.CG.list ?_
        refine E.GL.run rfl rfl rfl (E.Runs.move rfl rfl) ?_
        refine E.GL.run rfl rfl rfl (E.Runs.assign rfl rfl) ?_
        refine E.GL.done ?_
        refine E.QG.code ?_
        refine E.CG.ret ?_
        exact E.QG.result rfl rfl ⟨gN, gE, _, _, rfl, by rw [← hn, ← hH]; exact hM.net, by rw [← hn]; exact hF.done h104, hM.bel⟩

end Go.Proofs.Ytmnjlnkfihklgaa.T
namespace Go.Proofs.Ytmnjlnkfihklgaa.T
open Go.RowKit Go.Proofs.YtmnjlnkfihklgaaW.PrintWords Go.Proofs.YtmnjlnkfihklgaaW.PrintMore
open Go.Proofs.Ytmnjlnkfihklgaa.P
set_option linter.unusedVariables false
/-! #### sums over edges -/
def sumE (h : Ed → Int) : List Ed → Int
  | [] => 0
  | e :: r => h e + sumE h r
theorem sumE_append (h : Ed → Int) : ∀ E F : List Ed, sumE h (E ++ F) = sumE h E + sumE h F
  | [], F => by simp [sumE]
  | e :: r, F => by simp only [List.cons_append, sumE, sumE_append h r F]; omega
theorem sumE_range (h : Ed → Int) (F : Nat → Ed) : ∀ j, sumE h ((List.range j).map F) = sumN (fun m => h (F m)) j
  | 0 => rfl
  | j + 1 => by rw [List.range_succ, List.map_append, sumE_append, sumE_range h F j]; simp [sumE, sumN]
theorem sumE_rooms (h : Ed → Int) (T : Nat) (ps : List Int) : ∀ R, sumE h (edRs T ps R) = sumN (fun r => h ⟨0, nodeN T r 0, ps.getD r 0, -1, 0⟩ + sumN (fun m => h ⟨nodeN T r m, nodeN T r (m + 1), 1073741824, -1, 0⟩) T) R
  | 0 => rfl
  | R + 1 => by
    rw [edRs, sumE_append, sumE_rooms h T ps R]
    simp only [edR, sumE, sumE_range, sumN]
theorem sumE_doors (h : Ed → Int) (T : Nat) (qs : List S45) : ∀ I, sumE h (edQs T qs I) = sumN (fun i => sumN (fun k => h ⟨nodeN T (qs.getD i z45).f0.toNat k, toN T (qs.getD i z45) k, (qs.getD i z45).f2, (i : Int), (k : Int)⟩) (T + 1 - (qs.getD i z45).f3.toNat)) I
  | 0 => rfl
  | I + 1 => by
    rw [edQs, sumE_append, sumE_doors h T qs I]
    simp only [edQ, sumE_range, sumN]
/-- The sum over all passages and their minutes. -/
def sumQ (T : Nat) (qs : List S45) (h : Nat → Nat → Int) : Int := sumN (fun i => sumN (fun k => h i k) (T + 1 - (qs.getD i z45).f3.toNat)) qs.length
theorem sumQ_congr {T : Nat} {qs : List S45} {a b : Nat → Nat → Int} (h : ∀ i k, i < qs.length → k + (qs.getD i z45).f3.toNat < T + 1 → a i k = b i k) : sumQ T qs a = sumQ T qs b :=
  sumN_congr fun i hi => sumN_congr fun k hk => h i k hi (by omega)
theorem sumQ_add (T : Nat) (qs : List S45) (a b : Nat → Nat → Int) : sumQ T qs (fun i k => a i k + b i k) = sumQ T qs a + sumQ T qs b := by
  unfold sumQ
  rw [← sumN_add]
  exact sumN_congr fun i _ => sumN_add _ _ _
theorem sumQ_zero (T : Nat) (qs : List S45) : sumQ T qs (fun _ _ => 0) = 0 := by
  unfold sumQ
  rw [sumN_congr (b := fun _ => 0) (fun i _ => sumN_zero _), sumN_zero]
/-- What a node has more than goes from it, told by the edges themselves. -/
theorem exc_sum {f : Nat → Int} {g : Ed → Int} (v : Nat) : ∀ (E : List Ed) (k0 : Nat), (∀ k e, E[k]? = some e → f (k0 + k) = g e) → exc f v E k0 = sumE (fun e => if e.td = v then g e else 0) E - sumE (fun e => if e.fr = v then g e else 0) E
  | [], _, _ => rfl
  | e :: r, k0, h => by
    have ih := exc_sum (f := f) (g := g) v r (k0 + 1) (fun k x hx => by
      have := h (k + 1) x (by simpa using hx)
      rw [show k0 + (k + 1) = k0 + 1 + k by omega] at this
      exact this)
    have h0 := h 0 e rfl
    rw [Nat.add_zero] at h0
    simp only [exc, sumE, ih, h0]
    omega
/-! #### what goes on at the nodes of a house -/
def srcE (ps : List Int) (T r : Nat) : Ed := ⟨0, nodeN T r 0, ps.getD r 0, -1, 0⟩
def holdE (T r m : Nat) : Ed := ⟨nodeN T r m, nodeN T r (m + 1), 1073741824, -1, 0⟩
def passE (qs : List S45) (T i k : Nat) : Ed := ⟨nodeN T (qs.getD i z45).f0.toNat k, toN T (qs.getD i z45) k, (qs.getD i z45).f2, (i : Int), (k : Int)⟩
theorem sumE_house (h : Ed → Int) (ps : List Int) (qs : List S45) (T : Nat) : sumE h (edH ps qs T) = sumN (fun r => h (srcE ps T r) + sumN (fun m => h (holdE T r m)) T) ps.length + sumQ T qs (fun i k => h (passE qs T i k)) := by
  unfold edH
  rw [sumE_append, sumE_rooms, sumE_doors]
  rfl
section
variable {ps : List Int} {qs : List S45} {T : Nat}
theorem in_rooms (g : Ed → Int) {r m : Nat} (hr : r < ps.length) (hm : m ≤ T) : sumN (fun s => (if (srcE ps T s).td = nodeN T r m then g (srcE ps T s) else 0) + sumN (fun k => if (holdE T s k).td = nodeN T r m then g (holdE T s k) else 0) T) ps.length = if m = 0 then g (srcE ps T r) else g (holdE T r (m - 1)) := by
  rw [sumN_eq (u := r) hr]
  · by_cases h0 : m = 0
    · subst h0
      rw [if_pos rfl, if_pos (show (srcE ps T r).td = nodeN T r 0 from rfl), sumN_congr (b := fun _ => 0), sumN_zero, Int.add_zero]
      intro k hk
      rw [if_neg]
      intro e
      have := nodeN_inj (T := T) (m := k + 1) (k := 0) (by omega) (by omega) e
      omega
    · rw [if_neg h0, if_neg (show ¬ (srcE ps T r).td = nodeN T r m from fun e => h0 (nodeN_inj (T := T) (m := 0) (k := m) (by omega) hm e).2.symm), Int.zero_add, sumN_eq (u := m - 1) (by omega)]
      · rw [if_pos]
        show nodeN T r (m - 1 + 1) = nodeN T r m
        rw [show m - 1 + 1 = m by omega]
      · intro k hk hne
        rw [if_neg]
        intro e
        have := nodeN_inj (T := T) (m := k + 1) (k := m) (by omega) hm e
        omega
  · intro s hs hne
    rw [if_neg (show ¬ (srcE ps T s).td = nodeN T r m from fun e => hne (nodeN_inj (T := T) (m := 0) (k := m) (by omega) hm e).1), sumN_congr (b := fun _ => 0), sumN_zero]
    · rfl
    · intro k hk
      rw [if_neg]
      intro e
      exact hne (nodeN_inj (T := T) (m := k + 1) (k := m) (by omega) hm e).1
theorem out_rooms (g : Ed → Int) {r m : Nat} (hr : r < ps.length) (hm : m ≤ T) : sumN (fun s => (if (srcE ps T s).fr = nodeN T r m then g (srcE ps T s) else 0) + sumN (fun k => if (holdE T s k).fr = nodeN T r m then g (holdE T s k) else 0) T) ps.length = if m < T then g (holdE T r m) else 0 := by
  have hs0 : ∀ s, (srcE ps T s).fr ≠ nodeN T r m := fun s e => by
    have := nodeN_two T r m
    have e' : 0 = nodeN T r m := e
    omega
  rw [sumN_eq (u := r) hr]
  · rw [if_neg (hs0 r), Int.zero_add]
    by_cases h0 : m < T
    · rw [if_pos h0, sumN_eq (u := m) h0]
      · rw [if_pos (show (holdE T r m).fr = nodeN T r m from rfl)]
      · intro k hk hne
        rw [if_neg]
        intro e
        exact hne (nodeN_inj (T := T) (m := k) (k := m) (by omega) hm e).2
    · rw [if_neg h0, sumN_congr (b := fun _ => 0), sumN_zero]
      intro k hk
      rw [if_neg]
      intro e
      have := (nodeN_inj (T := T) (m := k) (k := m) (by omega) hm e).2
      omega
  · intro s hs hne
    rw [if_neg (hs0 s), sumN_congr (b := fun _ => 0), sumN_zero]
    · rfl
    · intro k hk
      rw [if_neg]
      intro e
      exact hne (nodeN_inj (T := T) (m := k) (k := m) (by omega) hm e).1
theorem in_doors (h : HOk ps qs) (g : Ed → Int) {r m : Nat} (hr : r < ps.length) (hm : m ≤ T) : sumQ T qs (fun i k => if (passE qs T i k).td = nodeN T r m then g (passE qs T i k) else 0) = sumQ T qs (fun i k => if (qs.getD i z45).f1 = r ∧ k + (qs.getD i z45).f3.toNat = m then g (passE qs T i k) else 0) := by
  refine sumQ_congr fun i k hi hk => ?_
  obtain ⟨h1, h2, h3, h4, h5, h6, h7, h8, h9⟩ := h.q _ (getD_mem (z := z45) hi)
  have e : ((passE qs T i k).td = nodeN T r m) ↔ ((qs.getD i z45).f1 = r ∧ k + (qs.getD i z45).f3.toNat = m) := by
    show toN T (qs.getD i z45) k = nodeN T r m ↔ _
    unfold toN
    by_cases q : (qs.getD i z45).f1 = -1
    · rw [if_pos q]
      have := nodeN_two T r m
      constructor
      · intro; omega
      · rintro ⟨a, b⟩; omega
    · rw [if_neg q]
      constructor
      · intro e
        have := nodeN_inj (by omega) hm e
        omega
      · rintro ⟨a, b⟩
        rw [a, b]
        rfl
  by_cases q : (passE qs T i k).td = nodeN T r m
  · rw [if_pos q, if_pos (e.mp q)]
  · rw [if_neg q, if_neg (fun z => q (e.mpr z))]
theorem out_doors (h : HOk ps qs) (g : Ed → Int) {r m : Nat} (hr : r < ps.length) (hm : m ≤ T) : sumQ T qs (fun i k => if (passE qs T i k).fr = nodeN T r m then g (passE qs T i k) else 0) = sumQ T qs (fun i k => if (qs.getD i z45).f0 = r ∧ k = m then g (passE qs T i k) else 0) := by
  refine sumQ_congr fun i k hi hk => ?_
  obtain ⟨h1, h2, h3, h4, h5, h6, h7, h8, h9⟩ := h.q _ (getD_mem (z := z45) hi)
  have e : ((passE qs T i k).fr = nodeN T r m) ↔ ((qs.getD i z45).f0 = r ∧ k = m) := by
    show nodeN T (qs.getD i z45).f0.toNat k = nodeN T r m ↔ _
    constructor
    · intro e
      have := nodeN_inj (by omega) hm e
      omega
    · rintro ⟨a, b⟩
      rw [a, b]
      rfl
  by_cases q : (passE qs T i k).fr = nodeN T r m
  · rw [if_pos q, if_pos (e.mp q)]
  · rw [if_neg q, if_neg (fun z => q (e.mpr z))]
/-- Who comes into a room, and who leaves it, in a minute and up to it. -/
def inU (qs : List S45) (T : Nat) (u : Nat → Nat → Int) (r m : Nat) : Int := sumQ T qs (fun i k => if (qs.getD i z45).f1 = r ∧ k + (qs.getD i z45).f3.toNat = m then u i k else 0)
def goU (qs : List S45) (T : Nat) (u : Nat → Nat → Int) (r m : Nat) : Int := sumQ T qs (fun i k => if (qs.getD i z45).f0 = r ∧ k = m then u i k else 0)
def arrU (qs : List S45) (T : Nat) (u : Nat → Nat → Int) (r m : Nat) : Int := sumQ T qs (fun i k => if (qs.getD i z45).f1 = r ∧ k + (qs.getD i z45).f3.toNat ≤ m then u i k else 0)
def depU (qs : List S45) (T : Nat) (u : Nat → Nat → Int) (r m : Nat) : Int := sumQ T qs (fun i k => if (qs.getD i z45).f0 = r ∧ k ≤ m then u i k else 0)
def outU (qs : List S45) (T : Nat) (u : Nat → Nat → Int) : Int := sumQ T qs (fun i k => if (qs.getD i z45).f1 = -1 then u i k else 0)
theorem arr_zero (h : HOk ps qs) (u : Nat → Nat → Int) (r : Nat) : arrU qs T u r 0 = inU qs T u r 0 := by
  refine sumQ_congr fun i k hi hk => ?_
  by_cases q : (qs.getD i z45).f1 = r ∧ k + (qs.getD i z45).f3.toNat ≤ 0
  · rw [if_pos q, if_pos ⟨q.1, by omega⟩]
  · rw [if_neg q, if_neg (fun z => q ⟨z.1, by omega⟩)]
theorem arr_succ (u : Nat → Nat → Int) (r m : Nat) : arrU qs T u r (m + 1) = arrU qs T u r m + inU qs T u r (m + 1) := by
  unfold arrU inU
  rw [← sumQ_add]
  refine sumQ_congr fun i k hi hk => ?_
  by_cases q : (qs.getD i z45).f1 = r
  · simp only [show ((qs.getD i z45).f1 = (r : Int)) = True from eq_true q, true_and]
    by_cases a : k + (qs.getD i z45).f3.toNat ≤ m
    · rw [if_pos (show k + (qs.getD i z45).f3.toNat ≤ m + 1 by omega), if_pos a, if_neg (by omega)]; omega
    · rw [if_neg a]
      by_cases b : k + (qs.getD i z45).f3.toNat = m + 1
      · rw [if_pos (show k + (qs.getD i z45).f3.toNat ≤ m + 1 by omega), if_pos b]; omega
      · rw [if_neg (show ¬ k + (qs.getD i z45).f3.toNat ≤ m + 1 by omega), if_neg b]; rfl
  · rw [if_neg (fun z => q z.1), if_neg (fun z => q z.1), if_neg (fun z => q z.1)]; rfl
theorem dep_zero (u : Nat → Nat → Int) (r : Nat) : depU qs T u r 0 = goU qs T u r 0 := by
  refine sumQ_congr fun i k hi hk => ?_
  by_cases q : (qs.getD i z45).f0 = r ∧ k ≤ 0
  · rw [if_pos q, if_pos ⟨q.1, by omega⟩]
  · rw [if_neg q, if_neg (fun z => q ⟨z.1, by omega⟩)]
theorem dep_succ (u : Nat → Nat → Int) (r m : Nat) : depU qs T u r (m + 1) = depU qs T u r m + goU qs T u r (m + 1) := by
  unfold depU goU
  rw [← sumQ_add]
  refine sumQ_congr fun i k hi hk => ?_
  by_cases q : (qs.getD i z45).f0 = r
  · simp only [show ((qs.getD i z45).f0 = (r : Int)) = True from eq_true q, true_and]
    by_cases a : k ≤ m
    · rw [if_pos (show k ≤ m + 1 by omega), if_pos a, if_neg (by omega)]; omega
    · rw [if_neg a]
      by_cases b : k = m + 1
      · rw [if_pos (show k ≤ m + 1 by omega), if_pos b]; omega
      · rw [if_neg (show ¬ k ≤ m + 1 by omega), if_neg b]; rfl
  · rw [if_neg (fun z => q z.1), if_neg (fun z => q z.1), if_neg (fun z => q z.1)]; rfl
/-- What a node of a room has more than goes from it. -/
theorem exc_node (h : HOk ps qs) {f : Nat → Int} {g : Ed → Int} (hg : ∀ k e, (edH ps qs T)[k]? = some e → f k = g e) {r m : Nat} (hr : r < ps.length) (hm : m ≤ T) :
    exc f (nodeN T r m) (edH ps qs T) 0 = (if m = 0 then g (srcE ps T r) else g (holdE T r (m - 1))) - (if m < T then g (holdE T r m) else 0) + inU qs T (fun i k => g (passE qs T i k)) r m - goU qs T (fun i k => g (passE qs T i k)) r m := by
  rw [exc_sum (g := g) _ _ 0 (by simpa using hg), sumE_house, sumE_house, in_rooms g hr hm, out_rooms g hr hm, in_doors h g hr hm, out_doors h g hr hm]
  unfold inU goU
  simp only
  omega
/-- What has come outside. -/
theorem exc_out (h : HOk ps qs) {f : Nat → Int} {g : Ed → Int} (hg : ∀ k e, (edH ps qs T)[k]? = some e → f k = g e) :
    exc f 1 (edH ps qs T) 0 = outU qs T (fun i k => g (passE qs T i k)) := by
  rw [exc_sum (g := g) _ _ 0 (by simpa using hg), sumE_house, sumE_house]
  have e1 : sumN (fun s => (if (srcE ps T s).td = 1 then g (srcE ps T s) else 0) + sumN (fun k => if (holdE T s k).td = 1 then g (holdE T s k) else 0) T) ps.length = 0 := by
    rw [sumN_congr (b := fun _ => 0), sumN_zero]
    intro s hs
    have h1 : ¬ (srcE ps T s).td = 1 := fun e => by have := nodeN_two T s 0; have e' : nodeN T s 0 = 1 := e; omega
    rw [if_neg h1, sumN_congr (b := fun _ => 0), sumN_zero]
    · rfl
    · intro k hk
      rw [if_neg]
      intro e
      have := nodeN_two T s (k + 1)
      have e' : nodeN T s (k + 1) = 1 := e
      omega
  have e2 : sumN (fun s => (if (srcE ps T s).fr = 1 then g (srcE ps T s) else 0) + sumN (fun k => if (holdE T s k).fr = 1 then g (holdE T s k) else 0) T) ps.length = 0 := by
    rw [sumN_congr (b := fun _ => 0), sumN_zero]
    intro s hs
    have h1 : ¬ (srcE ps T s).fr = 1 := fun e => by have e' : 0 = 1 := e; omega
    rw [if_neg h1, sumN_congr (b := fun _ => 0), sumN_zero]
    · rfl
    · intro k hk
      rw [if_neg]
      intro e
      have := nodeN_two T s k
      have e' : nodeN T s k = 1 := e
      omega
  have e3 : sumQ T qs (fun i k => if (passE qs T i k).fr = 1 then g (passE qs T i k) else 0) = 0 := by
    rw [sumQ_congr (b := fun _ _ => 0), sumQ_zero]
    intro i k hi hk
    rw [if_neg]
    intro e
    have := nodeN_two T (qs.getD i z45).f0.toNat k
    have e' : nodeN T (qs.getD i z45).f0.toNat k = 1 := e
    omega
  have e4 : sumQ T qs (fun i k => if (passE qs T i k).td = 1 then g (passE qs T i k) else 0) = outU qs T (fun i k => g (passE qs T i k)) := by
    refine sumQ_congr fun i k hi hk => ?_
    have e : (passE qs T i k).td = 1 ↔ (qs.getD i z45).f1 = -1 := by
      show toN T (qs.getD i z45) k = 1 ↔ _
      unfold toN
      by_cases q : (qs.getD i z45).f1 = -1
      · rw [if_pos q]; exact ⟨fun _ => q, fun _ => rfl⟩
      · rw [if_neg q]
        have := nodeN_two T (qs.getD i z45).f1.toNat (k + (qs.getD i z45).f3.toNat)
        constructor
        · intro; omega
        · intro z; exact absurd z q
    by_cases q : (passE qs T i k).td = 1
    · rw [if_pos q, if_pos (e.mp q)]
    · rw [if_neg q, if_neg (fun z => q (e.mpr z))]
  rw [e1, e2, e3, e4]
  omega
end
end Go.Proofs.Ytmnjlnkfihklgaa.T
namespace Go.Proofs.Ytmnjlnkfihklgaa.T
open Go.RowKit Go.Proofs.YtmnjlnkfihklgaaW.PrintWords Go.Proofs.YtmnjlnkfihklgaaW.PrintMore
open Go.Proofs.Ytmnjlnkfihklgaa.P
set_option linter.unusedVariables false
/-- Who is in a room behind a minute. -/
def thereU (ps : List Int) (qs : List S45) (T : Nat) (u : Nat → Nat → Int) (r m : Nat) : Int := ps.getD r 0 + arrU qs T u r m - depU qs T u r m
/-- A use of the passages that a plan may have. -/
structure Use (ps : List Int) (qs : List S45) (T : Nat) (u : Nat → Nat → Int) : Prop where
  w : ∀ i k, i < qs.length → k + (qs.getD i z45).f3.toNat < T + 1 → 0 ≤ u i k ∧ u i k ≤ (qs.getD i z45).f2
  there : ∀ r m, r < ps.length → m ≤ T → 0 ≤ thereU ps qs T u r m
/-- The bound of some hours. -/
def boundU (ps : List Int) (qs : List S45) (T : Nat) (hr : Nat → Nat) : Int :=
  sumN (fun r => if 0 < hr r then ps.getD r 0 else 0) ps.length + sumQ T qs (fun i k => if hr (qs.getD i z45).f0.toNat ≤ k ∧ ((qs.getD i z45).f1 = -1 ∨ k + (qs.getD i z45).f3.toNat < hr (qs.getD i z45).f1.toNat) then (qs.getD i z45).f2 else 0)
/-- The first node, and the nodes of rooms from their hours on. -/
def cutS (T : Nat) (hr : Nat → Nat) (v : Nat) : Prop := v = 0 ∨ (2 ≤ v ∧ hr ((v - 2) / (T + 1)) ≤ (v - 2) % (T + 1))
instance (T : Nat) (hr : Nat → Nat) : DecidablePred (cutS T hr) := fun v => by unfold cutS; infer_instance
theorem node_parts {T r m : Nat} (hm : m ≤ T) : (nodeN T r m - 2) / (T + 1) = r ∧ (nodeN T r m - 2) % (T + 1) = m := by
  unfold nodeN
  rw [show 2 + r * (T + 1) + m - 2 = m + r * (T + 1) by omega]
  exact ⟨by rw [Nat.add_mul_div_right _ _ (by omega), Nat.div_eq_of_lt (by omega), Nat.zero_add], by rw [Nat.add_mul_mod_self_right, Nat.mod_eq_of_lt (by omega)]⟩
theorem cut_node {T r m : Nat} {hr : Nat → Nat} (hm : m ≤ T) : cutS T hr (nodeN T r m) ↔ hr r ≤ m := by
  unfold cutS
  have h2 := nodeN_two T r m
  rw [(node_parts hm).1, (node_parts hm).2]
  constructor
  · rintro (h | h)
    · omega
    · exact h.2
  · intro h
    exact .inr ⟨h2, h⟩
theorem cut_one (T : Nat) (hr : Nat → Nat) : ¬ cutS T hr 1 := by
  unfold cutS
  omega
theorem node_of {T R v : Nat} (h2 : 2 ≤ v) (hv : v < nodeN T R 0) : ∃ r m, r < R ∧ m ≤ T ∧ v = nodeN T r m := by
  have hd := Nat.div_add_mod (v - 2) (T + 1)
  have hm := Nat.mod_lt (v - 2) (show 0 < T + 1 by omega)
  refine ⟨(v - 2) / (T + 1), (v - 2) % (T + 1), ?_, by omega, ?_⟩
  · rw [Nat.div_lt_iff_lt_mul (by omega)]
    unfold nodeN at hv
    omega
  · unfold nodeN
    rw [Nat.mul_comm] at hd
    omega
theorem capOut_sum (S : Nat → Prop) [DecidablePred S] : ∀ E : List Ed, capOut S E = sumE (fun e => if S e.fr ∧ ¬ S e.td then e.cap else 0) E
  | [] => rfl
  | e :: r => by simp only [capOut, sumE, capOut_sum S r]
section
variable {ps : List Int} {qs : List S45} {T : Nat}
theorem cut_to (h : HOk ps qs) {hr : Nat → Nat} {i k : Nat} (hi : i < qs.length) (hk : k + (qs.getD i z45).f3.toNat < T + 1) : ¬ cutS T hr (toN T (qs.getD i z45) k) ↔ ((qs.getD i z45).f1 = -1 ∨ k + (qs.getD i z45).f3.toNat < hr (qs.getD i z45).f1.toNat) := by
  unfold toN
  by_cases q : (qs.getD i z45).f1 = -1
  · rw [if_pos q]
    exact ⟨fun _ => .inl q, fun _ => cut_one T hr⟩
  · rw [if_neg q, cut_node (by omega)]
    constructor
    · intro z
      exact .inr (by omega)
    · rintro (z | z)
      · exact absurd z q
      · omega
/-- What can leave the cut is the bound of the hours. -/
theorem cut_bound (h : HOk ps qs) (hr : Nat → Nat) : capOut (cutS T hr) (edH ps qs T) = boundU ps qs T hr := by
  rw [capOut_sum, sumE_house]
  unfold boundU
  congr 1
  · refine sumN_congr fun r hr' => ?_
    have e1 : sumN (fun m => if cutS T hr (holdE T r m).fr ∧ ¬ cutS T hr (holdE T r m).td then (holdE T r m).cap else 0) T = 0 := by
      rw [sumN_congr (b := fun _ => 0), sumN_zero]
      intro m hm
      rw [if_neg]
      rintro ⟨a, b⟩
      have a' := (cut_node (T := T) (r := r) (m := m) (hr := hr) (by omega)).mp a
      exact b ((cut_node (T := T) (r := r) (m := m + 1) (hr := hr) (by omega)).mpr (by omega))
    rw [e1, Int.add_zero]
    have e2 : ¬ cutS T hr (srcE ps T r).td ↔ 0 < hr r := by
      show ¬ cutS T hr (nodeN T r 0) ↔ _
      rw [cut_node (by omega)]
      omega
    by_cases q : 0 < hr r
    · rw [if_pos ⟨.inl rfl, e2.mpr q⟩, if_pos q]
      rfl
    · rw [if_neg (fun z => q (e2.mp z.2)), if_neg q]
  · refine sumQ_congr fun i k hi hk => ?_
    have e1 : cutS T hr (passE qs T i k).fr ↔ hr (qs.getD i z45).f0.toNat ≤ k := cut_node (by omega)
    have e2 : ¬ cutS T hr (passE qs T i k).td ↔ _ := cut_to h hi hk
    by_cases q : hr (qs.getD i z45).f0.toNat ≤ k ∧ ((qs.getD i z45).f1 = -1 ∨ k + (qs.getD i z45).f3.toNat < hr (qs.getD i z45).f1.toNat)
    · rw [if_pos q, if_pos ⟨e1.mpr q.1, e2.mpr q.2⟩]
      rfl
    · rw [if_neg q, if_neg (fun z => q ⟨e1.mp z.1, e2.mp z.2⟩)]
theorem there_zero (h : HOk ps qs) (u : Nat → Nat → Int) (r : Nat) : thereU ps qs T u r 0 = ps.getD r 0 + inU qs T u r 0 - goU qs T u r 0 := by
  unfold thereU
  rw [arr_zero h, dep_zero]
theorem there_succ (u : Nat → Nat → Int) (r m : Nat) : thereU ps qs T u r (m + 1) = thereU ps qs T u r m + inU qs T u r (m + 1) - goU qs T u r (m + 1) := by
  unfold thereU
  rw [arr_succ, dep_succ]
  omega
/-- What a use lets go by an edge. -/
def useE (ps : List Int) (qs : List S45) (T : Nat) (u : Nat → Nat → Int) (e : Ed) : Int :=
  if 0 ≤ e.up then u e.up.toNat e.um.toNat else if e.fr = 0 then e.cap else thereU ps qs T u ((e.fr - 2) / (T + 1)) ((e.fr - 2) % (T + 1))
theorem use_pass (u : Nat → Nat → Int) (i k : Nat) : useE ps qs T u (passE qs T i k) = u i k := by
  unfold useE passE
  rw [if_pos (by simp only; omega)]
  rfl
theorem use_src (u : Nat → Nat → Int) (r : Nat) : useE ps qs T u (srcE ps T r) = ps.getD r 0 := rfl
theorem use_hold (u : Nat → Nat → Int) {r m : Nat} (hm : m ≤ T) : useE ps qs T u (holdE T r m) = thereU ps qs T u r m := by
  unfold useE holdE
  have := nodeN_two T r m
  rw [if_neg (by simp only; omega), if_neg (by simp only; omega)]
  simp only
  rw [(node_parts hm).1, (node_parts hm).2]
/-- The weak law. -/
theorem use_le (h : HOk ps qs) {u : Nat → Nat → Int} (hu : Use ps qs T u) (hr : Nat → Nat) : outU qs T u ≤ boundU ps qs T hr := by
  have hg : ∀ k e, (edH ps qs T)[k]? = some e → (fun k => useE ps qs T u ((edH ps qs T).getD k zEd)) k = useE ps qs T u e := fun k e he => by
    simp only [getD_at he]
  have hE := edH_ok (T := T) h
  have e1 := exc_out h hg
  have eu : (fun i k => useE ps qs T u (passE qs T i k)) = u := funext fun i => funext fun k => use_pass u i k
  have := flow_le (cutS T hr) (f := fun k => useE ps qs T u ((edH ps qs T).getD k zEd)) (n := nodeN T ps.length 0) (s := 0) (t := 1) (E := edH ps qs T) (fun e he => ⟨(hE e he).1, (hE e he).2.1⟩) (.inl rfl) (cut_one T hr) (by have := nodeN_two T ps.length 0; omega)
    (fun v hv h0 h1 => by
      obtain ⟨r, m, hr', hm, rfl⟩ := node_of (by omega) hv
      rw [exc_node h hg hr' hm, eu]
      have ht := hu.there r m hr' hm
      by_cases q : m = 0
      · subst q
        rw [if_pos rfl, use_src]
        rw [there_zero h] at ht
        by_cases z : 0 < T
        · rw [if_pos z, use_hold _ (by omega), there_zero h]
          omega
        · rw [if_neg z]
          omega
      · obtain ⟨m, rfl⟩ : ∃ j, m = j + 1 := ⟨m - 1, by omega⟩
        rw [if_neg q, Nat.add_sub_cancel, use_hold _ (by omega)]
        rw [there_succ] at ht
        by_cases z : m + 1 < T
        · rw [if_pos z, use_hold _ (by omega), there_succ]
          omega
        · rw [if_neg z]
          omega)
    (fun k e he => by
      have hm := List.mem_of_getElem? he
      simp only [getD_at he]
      rcases List.mem_append.mp hm with hm | hm
      · obtain ⟨r, hr', rfl | ⟨m, hm', rfl⟩⟩ := edRs_mem hm
        · have q : useE ps qs T u ⟨0, nodeN T r 0, ps.getD r 0, -1, 0⟩ = ps.getD r 0 := use_src u r
          rw [q]
          exact ⟨(h.p _ (getD_mem hr')).1, fun _ _ => Int.le_refl _⟩
        · have q : useE ps qs T u ⟨nodeN T r m, nodeN T r (m + 1), 1073741824, -1, 0⟩ = thereU ps qs T u r m := use_hold u (by omega)
          rw [q]
          refine ⟨hu.there r m hr' (by omega), fun a b => ?_⟩
          rw [cut_node (by omega)] at a b
          omega
      · obtain ⟨i, k, hi, hk, rfl⟩ := edQs_mem hm
        have q : useE ps qs T u ⟨nodeN T (qs.getD i z45).f0.toNat k, toN T (qs.getD i z45) k, (qs.getD i z45).f2, (i : Int), (k : Int)⟩ = u i k := use_pass u i k
        rw [q]
        exact ⟨(hu.w i k hi hk).1, fun _ _ => (hu.w i k hi hk).2⟩)
  rw [e1, eu, cut_bound h] at this
  exact this
/-- The greatest number: there are a use and hours that are equal. -/
def IsMost (ps : List Int) (qs : List S45) (T : Nat) (N : Int) : Prop :=
  (∃ u, Use ps qs T u ∧ outU qs T u = N) ∧ ∃ hr : Nat → Nat, (∀ r, r < ps.length → hr r ≤ T + 1) ∧ boundU ps qs T hr = N
theorem IsMost.one (h : HOk ps qs) {N M : Int} (a : IsMost ps qs T N) (b : IsMost ps qs T M) : N = M := by
  obtain ⟨⟨u, hu, eu⟩, hr, _, er⟩ := a
  obtain ⟨⟨v, hv, ev⟩, ks, _, ek⟩ := b
  have h1 := use_le h hu ks
  have h2 := use_le h hv hr
  omega
end
end Go.Proofs.Ytmnjlnkfihklgaa.T
namespace Go.Proofs.Ytmnjlnkfihklgaa.T
open Go.RowKit Go.Proofs.YtmnjlnkfihklgaaW.PrintWords Go.Proofs.YtmnjlnkfihklgaaW.PrintMore
open Go.Proofs.Ytmnjlnkfihklgaa.P
set_option linter.unusedVariables false
theorem map_nodup {F : Nat → Ed} {j : Nat} (h : ∀ a b, a < j → b < j → F a = F b → a = b) : ((List.range j).map F).Nodup := by
  unfold List.Nodup
  rw [List.pairwise_map]
  refine List.Pairwise.imp_of_mem (R := fun a b => a ≠ b) (fun {a b} ha hb hne he => ?_) (show (List.range j).Nodup from List.nodup_range)
  exact hne (h a b (List.mem_range.mp ha) (List.mem_range.mp hb) he)
theorem edRs_nodup (T : Nat) (ps : List Int) : ∀ R, (edRs T ps R).Nodup
  | 0 => List.nodup_nil
  | R + 1 => by
    rw [edRs, List.nodup_append]
    refine ⟨edRs_nodup T ps R, ?_, fun a ha b hb hab => ?_⟩
    · rw [edR, List.nodup_cons]
      refine ⟨fun hm => ?_, map_nodup fun a b ha hb he => ?_⟩
      · obtain ⟨m, _, hm⟩ := List.mem_map.mp hm
        have := congrArg Ed.fr hm
        have h2 := nodeN_two T R m
        have : nodeN T R m = 0 := this
        omega
      · have := congrArg Ed.fr he
        exact (nodeN_inj (T := T) (r := R) (s := R) (by omega) (by omega) this).2
    · subst hab
      obtain ⟨r, hr, h1⟩ := edRs_mem ha
      rcases List.mem_cons.mp hb with h2 | h2
      · rcases h1 with h1 | ⟨m, hm, h1⟩
        · rw [h1] at h2
          have := congrArg Ed.td h2
          have := (nodeN_inj (T := T) (r := r) (s := R) (m := 0) (k := 0) (by omega) (by omega) this).1
          omega
        · rw [h1] at h2
          have := congrArg Ed.fr h2
          have h3 := nodeN_two T r m
          have : nodeN T r m = 0 := this
          omega
      · obtain ⟨k, hk, h2⟩ := List.mem_map.mp h2
        have hk := List.mem_range.mp hk
        rcases h1 with h1 | ⟨m, hm, h1⟩
        · rw [h1] at h2
          have := congrArg Ed.fr h2
          have h3 := nodeN_two T R k
          have : nodeN T R k = 0 := this
          omega
        · rw [h1] at h2
          have := congrArg Ed.fr h2
          have := (nodeN_inj (T := T) (r := R) (s := r) (m := k) (k := m) (by omega) (by omega) this).1
          omega
theorem edQs_nodup (T : Nat) (qs : List S45) : ∀ I, (edQs T qs I).Nodup
  | 0 => List.nodup_nil
  | I + 1 => by
    rw [edQs, List.nodup_append]
    refine ⟨edQs_nodup T qs I, map_nodup fun a b ha hb he => ?_, fun a ha b hb hab => ?_⟩
    · have := congrArg Ed.um he
      have : (a : Int) = (b : Int) := this
      omega
    · subst hab
      obtain ⟨i, m, hi, hm, h1⟩ := edQs_mem ha
      obtain ⟨k, hk, h2⟩ := List.mem_map.mp hb
      rw [h1] at h2
      have := congrArg Ed.up h2
      have : (I : Int) = (i : Int) := this
      omega
theorem edH_nodup (ps : List Int) (qs : List S45) (T : Nat) : (edH ps qs T).Nodup := by
  unfold edH
  rw [List.nodup_append]
  refine ⟨edRs_nodup _ _ _, edQs_nodup _ _ _, fun a ha b hb hab => ?_⟩
  subst hab
  obtain ⟨i, m, hi, hm, h2⟩ := edQs_mem hb
  have h3 := congrArg Ed.up h2
  have h3 : a.up = (i : Int) := h3
  obtain ⟨r, hr, h1 | ⟨k, hk, h1⟩⟩ := edRs_mem ha
  · rw [h1] at h3
    have h3 : (-1 : Int) = i := h3
    omega
  · rw [h1] at h3
    have h3 : (-1 : Int) = i := h3
    omega
/-- What goes by an edge, told by the edge. -/
noncomputable def gOf (f : Nat → Int) (E : List Ed) (e : Ed) : Int := by
  classical exact if h : ∃ k, E[k]? = some e then f (Classical.choose h) else 0
theorem gOf_is {f : Nat → Int} {E : List Ed} (hn : E.Nodup) {k : Nat} {e : Ed} (h : E[k]? = some e) : f k = gOf f E e := by
  unfold gOf
  have hx : ∃ k, E[k]? = some e := ⟨k, h⟩
  rw [dif_pos hx]
  have := nodup_inj hn (Classical.choose_spec hx) h
  rw [this]
theorem crossF_ge (S : Nat → Prop) [DecidablePred S] {f : Nat → Int} : ∀ {E : List Ed} {k0 k : Nat} {e : Ed}, (∀ i e, E[i]? = some e → 0 ≤ f (k0 + i) ∧ (S e.td → S e.fr)) → 0 ≤ crossF S f E k0 ∧ (E[k]? = some e → S e.fr → ¬ S e.td → f (k0 + k) ≤ crossF S f E k0)
  | [], k0, k, e, _ => ⟨Int.le_refl _, fun h => by simp at h⟩
  | a :: r, k0, k, e, h => by
    have h0 := h 0 a rfl
    rw [Nat.add_zero] at h0
    have hr : ∀ i e, r[i]? = some e → 0 ≤ f (k0 + 1 + i) ∧ (S e.td → S e.fr) := fun i x hx => by
      have := h (i + 1) x (by simpa using hx)
      rw [show k0 + (i + 1) = k0 + 1 + i by omega] at this
      exact this
    have ih := fun k => crossF_ge S (f := f) (E := r) (k0 := k0 + 1) (k := k) (e := e) hr
    have hz : ¬ (¬ S a.fr ∧ S a.td) := fun q => q.1 (h0.2 q.2)
    simp only [crossF, if_neg hz]
    refine ⟨?_, fun hk hs ht => ?_⟩
    · have := (ih 0).1
      split <;> omega
    · cases k with
      | zero =>
        obtain rfl : a = e := by simpa using hk
        have := (ih 0).1
        rw [if_pos ⟨hs, ht⟩, Nat.add_zero]
        omega
      | succ k =>
        have := (ih k).2 (by simpa using hk) hs ht
        rw [show k0 + (k + 1) = k0 + 1 + k by omega]
        split <;> omega
/-- A flow of a house; who stays in a room may be as many as there are. -/
structure HFlow (ps : List Int) (qs : List S45) (T : Nat) (f : Nat → Int) (out : Int) : Prop where
  pos : ∀ k e, (edH ps qs T)[k]? = some e → 0 ≤ f k
  cap : ∀ k e, (edH ps qs T)[k]? = some e → e.fr = 0 ∨ e.up ≠ -1 → f k ≤ e.cap
  calm : ∀ v, v < nodeN T ps.length 0 → v ≠ 0 → v ≠ 1 → exc f v (edH ps qs T) 0 = 0
  exo : exc f 1 (edH ps qs T) 0 = out
def allP (ps : List Int) : Int := sumN (fun r => ps.getD r 0) ps.length
section
variable {ps : List Int} {qs : List S45} {T : Nat} {f : Nat → Int} {out : Int}
theorem one_lt (ps : List Int) (T : Nat) : 1 < nodeN T ps.length 0 := by have := nodeN_two T ps.length 0; omega
/-- The edges of a house go on in time. -/
theorem layer_in (h : HOk ps qs) {m : Nat} {k : Nat} {e : Ed} (he : (edH ps qs T)[k]? = some e) : (e.td = 0 ∨ (2 ≤ e.td ∧ (e.td - 2) % (T + 1) ≤ m)) → (e.fr = 0 ∨ (2 ≤ e.fr ∧ (e.fr - 2) % (T + 1) ≤ m)) := by
  have hm := List.mem_of_getElem? he
  rcases List.mem_append.mp hm with hm | hm
  · obtain ⟨r, hr, rfl | ⟨j, hj, rfl⟩⟩ := edRs_mem hm
    · intro _; exact .inl rfl
    · simp only
      have h1 := (node_parts (T := T) (r := r) (m := j) (by omega)).2
      have h2 := (node_parts (T := T) (r := r) (m := j + 1) (by omega)).2
      have h3 := nodeN_two T r j
      have h4 := nodeN_two T r (j + 1)
      rw [h1, h2]
      intro q
      omega
  · obtain ⟨i, j, hi, hj, rfl⟩ := edQs_mem hm
    simp only
    have h1 := (node_parts (T := T) (r := (qs.getD i z45).f0.toNat) (m := j) (by omega)).2
    have h3 := nodeN_two T (qs.getD i z45).f0.toNat j
    rw [h1]
    unfold toN
    by_cases q : (qs.getD i z45).f1 = -1
    · rw [if_pos q]
      intro z
      omega
    · rw [if_neg q]
      have h2 := (node_parts (T := T) (r := (qs.getD i z45).f1.toNat) (m := j + (qs.getD i z45).f3.toNat) (by omega)).2
      have h4 := nodeN_two T (qs.getD i z45).f1.toNat (j + (qs.getD i z45).f3.toNat)
      rw [h2]
      intro z
      omega
/-- No more stay in a room than come out. -/
theorem HFlow.hold_le (F : HFlow ps qs T f out) (h : HOk ps qs) {k r m : Nat} (hm : m < T) (he : (edH ps qs T)[k]? = some (holdE T r m)) : f k ≤ out := by
  have hE := edH_ok (T := T) h
  have h1 := cross_sum (fun v => v = 0 ∨ (2 ≤ v ∧ (v - 2) % (T + 1) ≤ m)) f (nodeN T ps.length 0) (edH ps qs T) 0 (fun e he => ⟨(hE e he).1, (hE e he).2.1⟩)
  have h3 := sumN_eq (a := fun v => if ¬ (v = 0 ∨ (2 ≤ v ∧ (v - 2) % (T + 1) ≤ m)) then exc f v (edH ps qs T) 0 else 0) (u := 1) (one_lt ps T) (fun v hv hne => by
    split
    · next q => exact F.calm v hv (fun e => q (.inl e)) hne
    · rfl)
  have h4 := (crossF_ge (fun v => v = 0 ∨ (2 ≤ v ∧ (v - 2) % (T + 1) ≤ m)) (f := f) (E := edH ps qs T) (k0 := 0) (k := k) (e := holdE T r m) (fun i e he => ⟨by rw [Nat.zero_add]; exact F.pos i e he, layer_in h he⟩)).2 he
    (.inr ⟨nodeN_two T r m, by show (nodeN T r m - 2) % (T + 1) ≤ m; rw [(node_parts (by omega)).2]; exact Nat.le_refl _⟩)
    (by
      show ¬ (nodeN T r (m + 1) = 0 ∨ (2 ≤ nodeN T r (m + 1) ∧ (nodeN T r (m + 1) - 2) % (T + 1) ≤ m))
      have := nodeN_two T r (m + 1)
      rw [(node_parts (by omega)).2]
      omega)
  rw [if_pos (by omega), F.exo] at h3
  rw [Nat.zero_add] at h4
  omega
theorem capOut_src (h : HOk ps qs) : capOut (fun v => v = 0) (edH ps qs T) = allP ps := by
  rw [capOut_sum, sumE_house]
  have e1 : sumQ T qs (fun i k => if (passE qs T i k).fr = 0 ∧ ¬ (passE qs T i k).td = 0 then (passE qs T i k).cap else 0) = 0 := by
    rw [sumQ_congr (b := fun _ _ => 0), sumQ_zero]
    intro i k _ _
    rw [if_neg]
    rintro ⟨a, _⟩
    have := nodeN_two T (qs.getD i z45).f0.toNat k
    have a' : nodeN T (qs.getD i z45).f0.toNat k = 0 := a
    omega
  rw [e1, Int.add_zero]
  unfold allP
  refine sumN_congr fun r _ => ?_
  have e2 : sumN (fun m => if (holdE T r m).fr = 0 ∧ ¬ (holdE T r m).td = 0 then (holdE T r m).cap else 0) T = 0 := by
    rw [sumN_congr (b := fun _ => 0), sumN_zero]
    intro m _
    rw [if_neg]
    rintro ⟨a, _⟩
    have := nodeN_two T r m
    have a' : nodeN T r m = 0 := a
    omega
  have := nodeN_two T r 0
  rw [e2, Int.add_zero, if_pos ⟨rfl, by show ¬ nodeN T r 0 = 0; omega⟩]
  rfl
theorem HFlow.out_le (F : HFlow ps qs T f out) (h : HOk ps qs) : out ≤ allP ps := by
  have hE := edH_ok (T := T) h
  have := flow_le (fun v => v = 0) (f := f) (s := 0) (t := 1) (fun e he => ⟨(hE e he).1, (hE e he).2.1⟩) rfl (by decide) (one_lt ps T) (fun v hv h0 h1 => by rw [F.calm v hv h0 h1]; exact Int.le_refl _) (fun i e he => ⟨F.pos i e he, fun q _ => F.cap i e he (.inl q)⟩)
  rw [F.exo, capOut_src h] at this
  exact this
theorem sumN_le {a b : Nat → Int} : ∀ {n}, (∀ v, v < n → a v ≤ b v) → sumN a n ≤ sumN b n
  | 0, _ => Int.le_refl _
  | n + 1, h => by
    have h1 := sumN_le (a := a) (b := b) (n := n) (fun v hv => h v (by omega))
    have h2 := h n (by omega)
    simp only [sumN]
    omega
theorem sumN_const (c : Int) : ∀ n : Nat, sumN (fun _ => c) n = c * n
  | 0 => by simp [sumN]
  | n + 1 => by simp only [sumN, sumN_const c n]; push_cast; rw [Int.mul_add, Int.mul_one]
theorem allP_le (h : HOk ps qs) : allP ps ≤ 594 := by
  have h1 := sumN_le (a := fun r => ps.getD r 0) (b := fun _ => 99) (n := ps.length) (fun r hr => (h.p _ (getD_mem hr)).2)
  have h2 := h.r6
  rw [sumN_const] at h1
  unfold allP
  omega
/-- The use of the passages that a flow tells. -/
noncomputable def useF (ps : List Int) (qs : List S45) (T : Nat) (f : Nat → Int) (i k : Nat) : Int := gOf f (edH ps qs T) (passE qs T i k)
theorem src_mem {r : Nat} (hr : r < ps.length) : ∃ k : Nat, (edH ps qs T)[k]? = some (srcE ps T r) := by
  refine List.mem_iff_getElem?.mp (List.mem_append_left _ ?_)
  have : ∀ R, r < R → srcE ps T r ∈ edRs T ps R := by
    intro R
    induction R with
    | zero => intro h; omega
    | succ R ih =>
      intro h
      rw [edRs]
      by_cases e : r = R
      · subst e
        exact List.mem_append_right _ List.mem_cons_self
      · exact List.mem_append_left _ (ih (by omega))
  exact this _ hr
theorem hold_mem {r m : Nat} (hr : r < ps.length) (hm : m < T) : ∃ k : Nat, (edH ps qs T)[k]? = some (holdE T r m) := by
  refine List.mem_iff_getElem?.mp (List.mem_append_left _ ?_)
  have : ∀ R, r < R → holdE T r m ∈ edRs T ps R := by
    intro R
    induction R with
    | zero => intro h; omega
    | succ R ih =>
      intro h
      rw [edRs]
      by_cases e : r = R
      · subst e
        exact List.mem_append_right _ (List.mem_cons_of_mem _ (List.mem_map.mpr ⟨m, List.mem_range.mpr hm, rfl⟩))
      · exact List.mem_append_left _ (ih (by omega))
  exact this _ hr
theorem pass_mem {i j : Nat} (hi : i < qs.length) (hj : j + (qs.getD i z45).f3.toNat < T + 1) : ∃ k : Nat, (edH ps qs T)[k]? = some (passE qs T i j) := by
  refine List.mem_iff_getElem?.mp (List.mem_append_right _ ?_)
  have : ∀ I, i < I → passE qs T i j ∈ edQs T qs I := by
    intro I
    induction I with
    | zero => intro h; omega
    | succ I ih =>
      intro h
      rw [edQs]
      by_cases e : i = I
      · subst e
        exact List.mem_append_right _ (List.mem_map.mpr ⟨j, List.mem_range.mpr (by omega), rfl⟩)
      · exact List.mem_append_left _ (ih (by omega))
  exact this _ hi
/-- Who is in a room, by a flow. -/
theorem HFlow.there (F : HFlow ps qs T f out) (h : HOk ps qs) {r : Nat} (hr : r < ps.length) : ∀ m, m ≤ T → thereU ps qs T (useF ps qs T f) r m = ps.getD r 0 - gOf f (edH ps qs T) (srcE ps T r) + (if m < T then gOf f (edH ps qs T) (holdE T r m) else 0) := by
  have hg : ∀ k e, (edH ps qs T)[k]? = some e → f k = gOf f (edH ps qs T) e := fun k e he => gOf_is (edH_nodup ps qs T) he
  have hx : ∀ m, m ≤ T → exc f (nodeN T r m) (edH ps qs T) 0 = 0 := fun m hm => F.calm _ (nodeN_lt hr hm) (by have := nodeN_two T r m; omega) (by have := nodeN_two T r m; omega)
  intro m
  induction m with
  | zero =>
    intro hm
    have e := exc_node h hg hr hm
    rw [hx 0 hm, if_pos rfl] at e
    rw [there_zero h]
    have e1 : (fun i k => gOf f (edH ps qs T) (passE qs T i k)) = useF ps qs T f := rfl
    rw [e1] at e
    omega
  | succ m ih =>
    intro hm
    have e := exc_node h hg hr hm
    rw [hx (m + 1) hm, if_neg (by omega), Nat.add_sub_cancel] at e
    have e1 : (fun i k => gOf f (edH ps qs T) (passE qs T i k)) = useF ps qs T f := rfl
    rw [e1] at e
    rw [there_succ, ih (by omega), if_pos (by omega)]
    omega
theorem HFlow.use (F : HFlow ps qs T f out) (h : HOk ps qs) : Use ps qs T (useF ps qs T f) ∧ outU qs T (useF ps qs T f) = out := by
  have hg : ∀ k e, (edH ps qs T)[k]? = some e → f k = gOf f (edH ps qs T) e := fun k e he => gOf_is (edH_nodup ps qs T) he
  refine ⟨⟨fun i k hi hk => ?_, fun r m hr hm => ?_⟩, ?_⟩
  · obtain ⟨j, hj⟩ := pass_mem (ps := ps) hi hk
    have e : useF ps qs T f i k = f j := (hg j _ hj).symm
    rw [e]
    exact ⟨F.pos j _ hj, F.cap j _ hj (.inr (by show ((i : Nat) : Int) ≠ -1; omega))⟩
  · rw [F.there h hr m hm]
    obtain ⟨j, hj⟩ := src_mem (qs := qs) (T := T) hr
    have a := F.cap j _ hj (.inl rfl)
    rw [hg j _ hj] at a
    have a' : gOf f (edH ps qs T) (srcE ps T r) ≤ ps.getD r 0 := a
    split
    · next q =>
      obtain ⟨k, hk⟩ := hold_mem (qs := qs) hr q
      have b := F.pos k _ hk
      rw [hg k _ hk] at b
      omega
    · omega
  · rw [← F.exo, exc_out h hg]
    rfl
/-- Hours that a set of nodes tells: the strong law. -/
theorem HFlow.most (F : HFlow ps qs T f out) (h : HOk ps qs) (S : Nat → Prop) (h0 : S 0) (h1 : ¬ S 1) (hr : Nat → Nat) (hS : ∀ r m, r < ps.length → m ≤ T → (hr r ≤ m ↔ S (nodeN T r m)))
    (hs : ∀ k e, (edH ps qs T)[k]? = some e → (S e.fr → ¬ S e.td → f k = e.cap) ∧ (¬ S e.fr → S e.td → f k = 0)) : boundU ps qs T hr = out := by
  have hE := edH_ok (T := T) h
  have key : ∀ v, v < nodeN T ps.length 0 → (cutS T hr v ↔ S v) := by
    intro v hv
    by_cases e0 : v = 0
    · subst e0
      exact ⟨fun _ => h0, fun _ => .inl rfl⟩
    · by_cases e1 : v = 1
      · subst e1
        exact ⟨fun q => absurd q (cut_one T hr), fun q => absurd q h1⟩
      · obtain ⟨r, m, q1, q2, rfl⟩ := node_of (by omega) hv
        rw [cut_node q2]
        exact hS r m q1 q2
  have := flow_eq (cutS T hr) (f := f) (n := nodeN T ps.length 0) (s := 0) (t := 1) (E := edH ps qs T) (fun e he => ⟨(hE e he).1, (hE e he).2.1⟩) (.inl rfl) (cut_one T hr) (one_lt ps T) F.calm (fun i e he => by
    have hm := hE e (List.mem_of_getElem? he)
    rw [key _ hm.1, key _ hm.2.1]
    exact hs i e he)
  rw [F.exo, cut_bound h] at this
  exact this.symm
end
end Go.Proofs.Ytmnjlnkfihklgaa.T
namespace Go.Proofs.Ytmnjlnkfihklgaa.T
open Go.RowKit Go.Proofs.YtmnjlnkfihklgaaW.PrintWords Go.Proofs.YtmnjlnkfihklgaaW.PrintMore
open Go.Proofs.Ytmnjlnkfihklgaa.P
set_option linter.unusedVariables false
theorem first_of (p : Nat → Prop) : ∀ T : Nat, ∃ h, h ≤ T + 1 ∧ (∀ m, m < h → ¬ p m) ∧ (h ≤ T → p h) := by
  classical
  intro T
  induction T with
  | zero =>
    by_cases q : p 0
    · exact ⟨0, by omega, fun m hm => by omega, fun _ => q⟩
    · refine ⟨1, by omega, fun m hm => ?_, fun h => by omega⟩
      obtain rfl : m = 0 := by omega
      exact q
  | succ T ih =>
    obtain ⟨h, h1, h2, h3⟩ := ih
    by_cases e : h ≤ T
    · exact ⟨h, by omega, h2, fun _ => h3 e⟩
    · obtain rfl : h = T + 1 := by omega
      by_cases q : p (T + 1)
      · exact ⟨T + 1, by omega, h2, fun _ => q⟩
      · refine ⟨T + 2, by omega, fun m hm => ?_, fun z => by omega⟩
        by_cases e : m = T + 1
        · subst e; exact q
        · exact h2 m (by omega)
/-- Whatever search: the same nodes are found. -/
theorem reach_same {E : List Ed} {f : Nat → Int} {n : Nat} {bl bl' : List S104} {il il' : List Bool} (h : ReachOk E f n bl il) (h' : ReachOk E f n bl' il') : ∀ v, v < n → il'[v]? = some true → il[v]? = some true := by
  obtain ⟨d, hd⟩ := h'.back
  suffices H : ∀ (m v : Nat), d v ≤ m → v < n → il'[v]? = some true → il[v]? = some true from fun v hv hi => H _ v (Nat.le_refl _) hv hi
  intro m
  induction m with
  | zero =>
    intro v hm hv hi
    by_cases h0 : v = 0
    · subst h0; exact h.s0
    · obtain ⟨u, i, x, _, _, _, _, _, _, q⟩ := hd v hv h0 hi
      omega
  | succ m ih =>
    intro v hm hv hi
    by_cases h0 : v = 0
    · subst h0; exact h.s0
    · obtain ⟨u, i, x, q1, q2, q3, q4, q5, q6, q7⟩ := hd v hv h0 hi
      obtain ⟨t, t1, t2⟩ := h.closed u q2 (ih u (by omega) q2 q3) x (List.mem_of_getElem? q4) q6
      obtain rfl : t = v := by rw [q5] at t1; omega
      exact t2
theorem reach_not {E : List Ed} {f : Nat → Int} {n : Nat} {bl bl' : List S104} {il il' : List Bool} (h : ReachOk E f n bl il) (h' : ReachOk E f n bl' il') {v : Nat} (hv : v < n) (hi : il[v]? = some false) : il'[v]? = some false := by
  have hl : il'[v]? = some (il'[v]'(by rw [h'.li]; exact hv)) := List.getElem?_eq_getElem _
  cases hq : il'[v]'(by rw [h'.li]; exact hv) with
  | false => rw [hl, hq]
  | true =>
    have := reach_same h h' v hv (by rw [hl, hq])
    rw [hi] at this
    cases this
theorem reach_cut {E : List Ed} {f : Nat → Int} {n : Nat} {bl : List S104} {il : List Bool} (h : ReachOk E f n bl il) (ho : FlowOk E f) (hE : EdsOk E n) : ∀ k e, E[k]? = some e → (il[e.fr]? = some true → ¬ il[e.td]? = some true → f k = e.cap) ∧ (¬ il[e.fr]? = some true → il[e.td]? = some true → f k = 0) := by
  intro k e he
  obtain ⟨h1, h2, hne⟩ := hE e (List.mem_of_getElem? he)
  have hb := ho k e he
  have step : ∀ b, il[near e b]? = some true → ¬ il[far e b]? = some true → roomP E f (k, b) ≤ 0 := by
    intro b hs ht
    have hent : (rowP E f (near e b))[idx E (near e b) k]? = some (entP E f (k, b)) := by unfold rowP; rw [List.getElem?_map, hs_near he hne b]; rfl
    rw [entP_is he] at hent
    by_cases q : 0 < roomP E f (k, b)
    · obtain ⟨t, t1, t2⟩ := h.closed _ (near_lt hE he b) hs _ (List.mem_of_getElem? hent) q
      have : (far e b : Int) = t := t1
      obtain rfl : t = far e b := by omega
      exact absurd t2 ht
    · omega
  refine ⟨fun hs ht => ?_, fun hs ht => ?_⟩
  · have := step true hs ht
    unfold roomP at this
    rw [getD_at he] at this
    simp only [if_true] at this
    omega
  · have := step false ht hs
    unfold roomP at this
    simp only [Bool.false_eq_true, if_false] at this
    omega
section
variable {ps : List Int} {qs : List S45} {T : Nat} {f : Nat → Int} {out : Int}
theorem MaxFlow.hflow (M : MaxFlow (edH ps qs T) (nodeN T ps.length 0) f out) : HFlow ps qs T f out :=
  ⟨fun k e he => (M.ok k e he).1, fun k e he _ => (M.ok k e he).2, M.calm, M.exo⟩
/-- The hours that a search tells. -/
def IsHrs (ps : List Int) (T : Nat) (il : List Bool) (hr : Nat → Nat) : Prop := ∀ r, r < ps.length → hr r ≤ T + 1 ∧ (∀ m, m < hr r → ¬ il[nodeN T r m]? = some true) ∧ (hr r ≤ T → il[nodeN T r (hr r)]? = some true)
theorem MaxFlow.hours (M : MaxFlow (edH ps qs T) (nodeN T ps.length 0) f out) (h : HOk ps qs) {bl : List S104} {il : List Bool} (hR : ReachOk (edH ps qs T) f (nodeN T ps.length 0) bl il) {hr : Nat → Nat} (hh : IsHrs ps T il hr) : boundU ps qs T hr = out := by
  have hE := edH_ok (T := T) h
  obtain ⟨bl0, il0, hR0, hc0⟩ := M.cut
  have hc := reach_not hR0 hR (one_lt ps T) hc0
  have hcut := reach_cut hR M.ok hE
  have F := M.hflow
  have up : ∀ r m, r < ps.length → m < T → il[nodeN T r m]? = some true → il[nodeN T r (m + 1)]? = some true := by
    intro r m hr' hm hi
    by_cases q : il[nodeN T r (m + 1)]? = some true
    · exact q
    · obtain ⟨k, hk⟩ := hold_mem (qs := qs) hr' hm
      have h1 := (hcut k _ hk).1 hi q
      have h2 := F.hold_le h hm hk
      have h3 := F.out_le h
      have h4 := allP_le h
      have h5 : f k = 1073741824 := h1
      omega
  have ups : ∀ r m, r < ps.length → il[nodeN T r m]? = some true → ∀ j, m + j ≤ T → il[nodeN T r (m + j)]? = some true := by
    intro r m hr' hi j
    induction j with
    | zero => intro _; exact hi
    | succ j ih =>
      intro hj
      exact up r (m + j) hr' (by omega) (ih (by omega))
  refine F.most h (fun v => il[v]? = some true) hR.s0 (by rw [hc]; decide) hr (fun r m hr' hm => ?_) hcut
  obtain ⟨h1, h2, h3⟩ := hh r hr'
  constructor
  · intro q
    have := ups r (hr r) hr' (h3 (by omega)) (m - hr r) (by omega)
    rw [show hr r + (m - hr r) = m by omega] at this
    exact this
  · intro q
    by_cases z : hr r ≤ m
    · exact z
    · exact absurd q (h2 m (by omega))
theorem MaxFlow.most (M : MaxFlow (edH ps qs T) (nodeN T ps.length 0) f out) (h : HOk ps qs) : IsMost ps qs T out := by
  obtain ⟨bl0, il0, hR0, hc0⟩ := M.cut
  have hx : ∀ r, ∃ h, h ≤ T + 1 ∧ (∀ m, m < h → ¬ il0[nodeN T r m]? = some true) ∧ (h ≤ T → il0[nodeN T r h]? = some true) := fun r => first_of (fun m => il0[nodeN T r m]? = some true) T
  refine ⟨⟨_, M.hflow.use h⟩, fun r => Classical.choose (hx r), fun r _ => (Classical.choose_spec (hx r)).1, M.hours h hR0 (fun r _ => Classical.choose_spec (hx r))⟩
theorem MaxFlow.out_le (M : MaxFlow (edH ps qs T) (nodeN T ps.length 0) f out) (h : HOk ps qs) : 0 ≤ out ∧ out ≤ allP ps := by
  refine ⟨?_, M.hflow.out_le h⟩
  obtain ⟨⟨u, hu, e⟩, _⟩ := M.most h
  rw [← e]
  unfold outU sumQ
  refine sumN_nonneg fun i hi => sumN_nonneg fun k hk => ?_
  dsimp only
  split
  · exact (hu.w i k hi (by omega)).1
  · exact Int.le_refl _
end
end Go.Proofs.Ytmnjlnkfihklgaa.T
namespace Go.Proofs.Ytmnjlnkfihklgaa.T
open Go.RowKit Go.Proofs.YtmnjlnkfihklgaaW.PrintWords Go.Proofs.YtmnjlnkfihklgaaW.PrintMore
open Go.Proofs.Ytmnjlnkfihklgaa.P
set_option linter.unusedVariables false
set_option linter.unusedSimpArgs false

end Go.Proofs.Ytmnjlnkfihklgaa.T
namespace Go.Proofs.Ytmnjlnkfihklgaa.T
open Go.RowKit Go.Proofs.YtmnjlnkfihklgaaW.PrintWords Go.Proofs.YtmnjlnkfihklgaaW.PrintMore
open Go.Proofs.Ytmnjlnkfihklgaa.P
set_option linter.unusedVariables false
set_option linter.unusedSimpArgs false

theorem lt_succ_all {p : Nat → Prop} {k : Nat} (h : ∀ m, m < k → p m) (hk : p k) : ∀ m, m < k + 1 → p m := fun m hm => by
  by_cases e : m = k
  · rw [e]; exact hk
  · exact h m (by omega)
end Go.Proofs.Ytmnjlnkfihklgaa.T
namespace Go.Proofs.Ytmnjlnkfihklgaa.T
open Go.RowKit Go.Proofs.YtmnjlnkfihklgaaW.PrintWords Go.Proofs.YtmnjlnkfihklgaaW.PrintMore
open Go.Proofs.Ytmnjlnkfihklgaa.P
set_option linter.unusedVariables false
set_option linter.unusedSimpArgs false

def inR (n lo hi : Int) : Prop := lo ≤ n ∧ n ≤ hi
instance (n lo hi : Int) : Decidable (inR n lo hi) := by unfold inR; infer_instance
instance (R : Nat) (q : S45) : Decidable (QOk R q) := by unfold QOk; infer_instance
theorem hok_iff (ps : List Int) (qs : List S45) : HOk ps qs ↔ (1 ≤ ps.length ∧ ps.length ≤ 6 ∧ qs.length ≤ 12 ∧ (∀ x ∈ ps, 0 ≤ x ∧ x ≤ 99) ∧ ∀ x ∈ qs, QOk ps.length x) := ⟨fun h => ⟨h.r1, h.r6, h.q12, h.p, h.q⟩, fun h => ⟨h.1, h.2.1, h.2.2.1, h.2.2.2.1, h.2.2.2.2⟩⟩
instance (ps : List Int) (qs : List S45) : Decidable (HOk ps qs) := decidable_of_iff _ (hok_iff ps qs).symm
def checkE (ps : List Int) (qs : List S45) : Int := if HOk ps qs then 0 else 110
def chkE (ps : List Int) (qs : List S45) (m : Int) : Int := if HOk ps qs then (if inR m 0 60 then 0 else 1) else 110
theorem checkE_no {ps : List Int} {qs : List S45} (h : ¬ HOk ps qs) : checkE ps qs = 110 := if_neg h
theorem checkE_yes {ps : List Int} {qs : List S45} (h : HOk ps qs) : checkE ps qs = 0 := if_pos h
theorem checkE_ok {ps : List Int} {qs : List S45} : checkE ps qs = 0 ↔ HOk ps qs := by
  unfold checkE
  split
  · next h => exact iff_of_true rfl h
  · next h => exact iff_of_false (by decide) h
theorem chkE_ok {ps : List Int} {qs : List S45} {m : Int} : chkE ps qs m = 0 ↔ HOk ps qs ∧ inR m 0 60 := by
  unfold chkE
  split
  · next h =>
    split
    · next q => exact iff_of_true rfl ⟨h, q⟩
    · next q => exact iff_of_false (by decide) (fun k => q k.2)
  · next h => exact iff_of_false (by decide) (fun k => h k.1)
theorem bool_no {b : Bool} {p : Prop} (h : b = true ↔ p) (k : ¬ p) : b = false := Bool.eq_false_iff.mpr (fun hb => k (h.mp hb))
abbrev hv (ps : List Int) (qs : List S45) (A B : Option Addr) (c d : Nat) : Value := .agg #[.slice A ps.length c, .slice B qs.length d]
def PsOk (l : List Int) : Prop := ∀ x ∈ l, 0 ≤ x ∧ x ≤ 99
def QsOk (R : Nat) (l : List S45) : Prop := ∀ x ∈ l, QOk R x
theorem all_more {α : Type} {p : α → Prop} {l : List α} {n : Nat} {g : α} (h : ∀ k, k < n → ∀ x, l[k]? = some x → p x) (hg : l[n]? = some g) (k : p g) : ∀ k, k < n + 1 → ∀ x, l[k]? = some x → p x := by
  intro j hj x hx
  by_cases e : j = n
  · subst e
    rw [hg] at hx
    cases hx
    exact k
  · exact h j (by omega) x hx
theorem all_done {α : Type} {p : α → Prop} {l : List α} {n : Nat} (h : ∀ k, k < n → ∀ x, l[k]? = some x → p x) (hn : l.length ≤ n) : ∀ x ∈ l, p x := fun g hg => by
  obtain ⟨k, hk⟩ := List.mem_iff_getElem?.mp hg
  exact h k (by have := (List.getElem?_eq_some_iff.1 hk).1; omega) g hk
set_option maxRecDepth 100000 in
set_option maxHeartbeats 8000000 in

theorem within_o (n lo hi : Int) (b : Bool) (h : b = true ↔ inR n lo hi) (w : World) :
    Calls Try.prog 38 #[.int .i64 n, .int .i64 lo, .int .i64 hi] w fun e w' => e = .returned (.bool b) ∧ Below w.heap.size w w' := by
  unfold inR at h
  refine E.enter (N := 15) Try.func38 rfl Try.ntmps38 (args := [.int .i64 n, .int .i64 lo, .int .i64 hi]) (by simp) ?_
  have L := Below.refl w.heap.size w
  refine E.CG.seq ?_
  refine E.CG.list ?_
  refine E.GL.run rfl rfl rfl (E.Runs.assign rfl rfl) ?_
  refine E.GL.done ?_
  refine E.QG.code ?_
  refine E.CG.seq ?_
  refine E.CG.list ?_
  refine E.GL.run rfl rfl rfl (E.Runs.move rfl rfl) ?_
  refine E.GL.run rfl rfl rfl (E.Runs.move rfl rfl) ?_
  refine E.GL.cmp rfl rfl rfl (fun _ h => (E.Runs.leq rfl rfl rfl h)) (fun h9 => ?_) (fun h9 => ?_)
  · refine E.GL.run rfl rfl rfl (E.Runs.move rfl rfl) ?_
    refine E.GL.run rfl rfl rfl (E.Runs.move rfl rfl) ?_
    refine E.GL.run rfl rfl rfl (E.Runs.move rfl rfl) ?_
    refine E.GL.cmp rfl rfl rfl (fun _ h => (E.Runs.leq rfl rfl rfl h)) (fun h13 => ?_) (fun h13 => ?_)
    · refine E.GL.run rfl rfl rfl (E.Runs.pick_t rfl rfl rfl) ?_
      refine E.GL.run rfl rfl rfl (E.Runs.assign rfl rfl) ?_
      refine E.GL.done ?_
      refine E.QG.code ?_
      refine E.CG.ret ?_
      exact E.QG.result rfl rfl ⟨by rw [h.mpr ⟨by omega, by omega⟩], L⟩
    · refine E.GL.run rfl rfl rfl (E.Runs.pick_t rfl rfl rfl) ?_
      refine E.GL.run rfl rfl rfl (E.Runs.assign rfl rfl) ?_
      refine E.GL.done ?_
      refine E.QG.code ?_
      refine E.CG.ret ?_
      exact E.QG.result rfl rfl ⟨by rw [bool_no h (by omega)], L⟩
  · refine E.GL.run rfl rfl rfl (E.Runs.move rfl rfl) ?_
    refine E.GL.skip rfl rfl rfl ?_
    refine E.GL.skip rfl rfl rfl ?_
    refine E.GL.skip rfl rfl rfl ?_
    refine E.GL.run rfl rfl rfl (E.Runs.pick_f rfl rfl rfl) ?_
    refine E.GL.run rfl rfl rfl (E.Runs.assign rfl rfl) ?_
    refine E.GL.done ?_
    refine E.QG.code ?_
    refine E.CG.ret ?_
    exact E.QG.result rfl rfl ⟨by rw [bool_no h (by omega)], L⟩

set_option maxRecDepth 100000 in
set_option maxHeartbeats 8000000 in

theorem within_r (n lo hi : Int) (b : Bool) (h : b = true ↔ inR n lo hi) (w : World) :
    Calls Try.prog 44 #[.int .i64 n, .int .i64 lo, .int .i64 hi] w fun e w' => e = .returned (.bool b) ∧ Below w.heap.size w w' := by
  unfold inR at h
  refine E.enter (N := 15) Try.func44 rfl Try.ntmps44 (args := [.int .i64 n, .int .i64 lo, .int .i64 hi]) (by simp) ?_
  have L := Below.refl w.heap.size w
  refine E.CG.seq ?_
  refine E.CG.list ?_
  refine E.GL.run rfl rfl rfl (E.Runs.assign rfl rfl) ?_
  refine E.GL.done ?_
  refine E.QG.code ?_
  refine E.CG.seq ?_
  refine E.CG.list ?_
  refine E.GL.run rfl rfl rfl (E.Runs.move rfl rfl) ?_
  refine E.GL.run rfl rfl rfl (E.Runs.move rfl rfl) ?_
  refine E.GL.cmp rfl rfl rfl (fun _ h => (E.Runs.geq rfl rfl rfl h)) (fun h9 => ?_) (fun h9 => ?_)
  · refine E.GL.run rfl rfl rfl (E.Runs.move rfl rfl) ?_
    refine E.GL.run rfl rfl rfl (E.Runs.move rfl rfl) ?_
    refine E.GL.run rfl rfl rfl (E.Runs.move rfl rfl) ?_
    refine E.GL.cmp rfl rfl rfl (fun _ h => (E.Runs.leq rfl rfl rfl h)) (fun h13 => ?_) (fun h13 => ?_)
    · refine E.GL.run rfl rfl rfl (E.Runs.pick_t rfl rfl rfl) ?_
      refine E.GL.run rfl rfl rfl (E.Runs.assign rfl rfl) ?_
      refine E.GL.done ?_
      refine E.QG.code ?_
      refine E.CG.ret ?_
      exact E.QG.result rfl rfl ⟨by rw [h.mpr ⟨by omega, by omega⟩], L⟩
    · refine E.GL.run rfl rfl rfl (E.Runs.pick_t rfl rfl rfl) ?_
      refine E.GL.run rfl rfl rfl (E.Runs.assign rfl rfl) ?_
      refine E.GL.done ?_
      refine E.QG.code ?_
      refine E.CG.ret ?_
      exact E.QG.result rfl rfl ⟨by rw [bool_no h (by omega)], L⟩
  · refine E.GL.run rfl rfl rfl (E.Runs.move rfl rfl) ?_
    refine E.GL.skip rfl rfl rfl ?_
    refine E.GL.skip rfl rfl rfl ?_
    refine E.GL.skip rfl rfl rfl ?_
    refine E.GL.run rfl rfl rfl (E.Runs.pick_f rfl rfl rfl) ?_
    refine E.GL.run rfl rfl rfl (E.Runs.assign rfl rfl) ?_
    refine E.GL.done ?_
    refine E.QG.code ?_
    refine E.CG.ret ?_
    exact E.QG.result rfl rfl ⟨by rw [bool_no h (by omega)], L⟩

set_option maxRecDepth 100000 in
set_option maxHeartbeats 8000000 in

theorem isPassage_calls (ps : List Int) (qs : List S45) (A B : Option Addr) (c d : Nat) (q : S45) (r : Bool) (hb : r = true ↔ QOk ps.length q) (hn : ps.length ≤ 1000000) (w : World) :
    Calls Try.prog 43 #[hv ps qs A B c d, .agg #[.int .i64 q.f0, .int .i64 q.f1, .int .i64 q.f2, .int .i64 q.f3]] w fun e w' => e = .returned (.bool r) ∧ Below w.heap.size w w' := by
  have hu3 := Try.underlying3
  have hu22 := Try.underlying22
  have hu25 := Try.underlying25
  have hu45 := Try.underlying45
  obtain ⟨z3, o3⟩ := info_some info3s (by decide)
  obtain ⟨z22, o22⟩ := info_some info22s (by decide)
  refine E.enter (N := 38) Try.func43 rfl Try.ntmps43 (args := [hv ps qs A B c d, .agg #[.int .i64 q.f0, .int .i64 q.f1, .int .i64 q.f2, .int .i64 q.f3]]) (by simp) ?_
  have L := Below.refl w.heap.size w
  refine E.CG.seq ?_
  refine E.CG.list ?_
  refine E.GL.st rfl rfl rfl (E.ST.box rfl rfl fun g2 w2 e2 b2 l2 => ?_)
  have h2_L : w.heap.size ≤ g2 := by rw [e2]; exact L.size
  replace L := below_step L l2
  refine E.GL.st rfl rfl rfl (E.ST.box rfl rfl fun g3 w3 e3 b3 l3 => ?_)
  have h3_L : w.heap.size ≤ g3 := by rw [e3]; exact L.size
  have n3_b2 : g2 ≠ g3 := by have := blk_lt b2; omega
  replace b2 := blk_below b2 l3
  replace L := below_step L l3
  refine E.GL.run rfl rfl rfl (E.Runs.assign rfl rfl) ?_
  refine E.GL.done ?_
  refine E.QG.code ?_
  refine E.CG.seq ?_
  refine E.CG.list ?_
  refine E.GL.run rfl rfl rfl (E.Runs.fieldAddr rfl rfl hu25 rfl (by assumption) rfl) ?_
  refine E.GL.run rfl rfl rfl (E.Runs.load1 rfl rfl hu22 rfl (by first | assumption | exact E.blkc (by assumption) rfl | exact pw_cell_below L (by assumption))) ?_
  refine E.GL.run rfl rfl rfl (E.Runs.len rfl rfl hu22) ?_
  refine E.GL.run rfl rfl rfl (E.Runs.assign rfl rfl) ?_
  refine E.GL.done ?_
  refine E.QG.code ?_
  refine E.CG.seq ?_
  refine E.CG.list ?_
  refine E.GL.run rfl rfl rfl (E.Runs.fieldAddr rfl rfl hu45 rfl (by assumption) rfl) ?_
  refine E.GL.run rfl rfl rfl (E.Runs.load rfl rfl hu3 (by first | assumption | exact E.blkc (by assumption) rfl | exact pw_cell_below L (by assumption))) ?_
  refine E.GL.run rfl rfl rfl (E.Runs.move rfl rfl) ?_
  refine E.GL.run rfl rfl rfl (E.Runs.sub rfl rfl rfl (IntWalk.i64_in _ (by omega))) ?_
  by_cases h13 : inR q.f0 0 (ps.length - 1)
  · refine E.GL.st rfl rfl rfl (E.ST.call rfl ent38 (E.evc rfl (E.evc rfl (E.evc rfl E.evn))) ((within_o q.f0 0 (ps.length - 1) true (iff_of_true rfl h13) _).mono ?_))
    rintro e w13 ⟨rfl, l13⟩
    refine ⟨_, rfl, ?_⟩
    replace b2 := blk_below b2 l13
    replace b3 := blk_below b3 l13
    replace L := below_step L l13
    refine E.GL.run rfl rfl rfl (E.Runs.move rfl rfl) ?_
    refine E.GL.run rfl rfl rfl (E.Runs.fieldAddr rfl rfl hu45 rfl (by assumption) rfl) ?_
    refine E.GL.run rfl rfl rfl (E.Runs.load rfl rfl hu3 (by first | assumption | exact E.blkc (by assumption) rfl | exact pw_cell_below L (by assumption))) ?_
    refine E.GL.run rfl rfl rfl (E.Runs.move rfl rfl) ?_
    refine E.GL.run rfl rfl rfl (E.Runs.sub rfl rfl rfl (IntWalk.i64_in _ (by omega))) ?_
    by_cases h19 : inR q.f1 (-1) (ps.length - 1)
    · refine E.GL.st rfl rfl rfl (E.ST.call rfl ent38 (E.evc rfl (E.evc rfl (E.evc rfl E.evn))) ((within_o q.f1 (-1) (ps.length - 1) true (iff_of_true rfl h19) _).mono ?_))
      rintro e w19 ⟨rfl, l19⟩
      refine ⟨_, rfl, ?_⟩
      replace b2 := blk_below b2 l19
      replace b3 := blk_below b3 l19
      replace L := below_step L l19
      refine E.GL.run rfl rfl rfl (E.Runs.pick_t rfl rfl rfl) ?_
      refine E.GL.run rfl rfl rfl (E.Runs.move rfl rfl) ?_
      refine E.GL.run rfl rfl rfl (E.Runs.fieldAddr rfl rfl hu45 rfl (by assumption) rfl) ?_
      refine E.GL.run rfl rfl rfl (E.Runs.load rfl rfl hu3 (by first | assumption | exact E.blkc (by assumption) rfl | exact pw_cell_below L (by assumption))) ?_
      refine E.GL.run rfl rfl rfl (E.Runs.fieldAddr rfl rfl hu45 rfl (by assumption) rfl) ?_
      refine E.GL.run rfl rfl rfl (E.Runs.load rfl rfl hu3 (by first | assumption | exact E.blkc (by assumption) rfl | exact pw_cell_below L (by assumption))) ?_
      refine E.GL.cmpn rfl rfl rfl (fun _ h => (E.Runs.neq rfl rfl rfl h)) (fun h26 => ?_) (fun h26 => ?_)
      · refine E.GL.run rfl rfl rfl (E.Runs.pick_t rfl rfl rfl) ?_
        refine E.GL.run rfl rfl rfl (E.Runs.move rfl rfl) ?_
        refine E.GL.run rfl rfl rfl (E.Runs.fieldAddr rfl rfl hu45 rfl (by assumption) rfl) ?_
        refine E.GL.run rfl rfl rfl (E.Runs.load rfl rfl hu3 (by first | assumption | exact E.blkc (by assumption) rfl | exact pw_cell_below L (by assumption))) ?_
        by_cases h31 : inR q.f2 0 20
        · refine E.GL.st rfl rfl rfl (E.ST.call rfl ent38 (E.evc rfl (E.evc rfl (E.evc rfl E.evn))) ((within_o q.f2 0 20 true (iff_of_true rfl h31) _).mono ?_))
          rintro e w31 ⟨rfl, l31⟩
          refine ⟨_, rfl, ?_⟩
          replace b2 := blk_below b2 l31
          replace b3 := blk_below b3 l31
          replace L := below_step L l31
          refine E.GL.run rfl rfl rfl (E.Runs.pick_t rfl rfl rfl) ?_
          refine E.GL.run rfl rfl rfl (E.Runs.move rfl rfl) ?_
          refine E.GL.run rfl rfl rfl (E.Runs.fieldAddr rfl rfl hu45 rfl (by assumption) rfl) ?_
          refine E.GL.run rfl rfl rfl (E.Runs.load rfl rfl hu3 (by first | assumption | exact E.blkc (by assumption) rfl | exact pw_cell_below L (by assumption))) ?_
          by_cases h36 : inR q.f3 1 9
          · refine E.GL.st rfl rfl rfl (E.ST.call rfl ent38 (E.evc rfl (E.evc rfl (E.evc rfl E.evn))) ((within_o q.f3 1 9 true (iff_of_true rfl h36) _).mono ?_))
            rintro e w36 ⟨rfl, l36⟩
            refine ⟨_, rfl, ?_⟩
            replace b2 := blk_below b2 l36
            replace b3 := blk_below b3 l36
            replace L := below_step L l36
            refine E.GL.run rfl rfl rfl (E.Runs.pick_t rfl rfl rfl) ?_
            refine E.GL.run rfl rfl rfl (E.Runs.assign rfl rfl) ?_
            refine E.GL.done ?_
            refine E.QG.code ?_
            refine E.CG.ret ?_
            have hq : QOk ps.length q := by unfold QOk; unfold inR at h13 h19 h31 h36; omega
            exact E.QG.result rfl rfl ⟨by rw [hb.mpr hq], L⟩
          · refine E.GL.st rfl rfl rfl (E.ST.call rfl ent38 (E.evc rfl (E.evc rfl (E.evc rfl E.evn))) ((within_o q.f3 1 9 false (iff_of_false Bool.false_ne_true h36) _).mono ?_))
            rintro e w36 ⟨rfl, l36⟩
            refine ⟨_, rfl, ?_⟩
            replace b2 := blk_below b2 l36
            replace b3 := blk_below b3 l36
            replace L := below_step L l36
            refine E.GL.run rfl rfl rfl (E.Runs.pick_t rfl rfl rfl) ?_
            refine E.GL.run rfl rfl rfl (E.Runs.assign rfl rfl) ?_
            refine E.GL.done ?_
            refine E.QG.code ?_
            refine E.CG.ret ?_
            have hq : ¬ QOk ps.length q := by unfold QOk; unfold inR at *; omega
            exact E.QG.result rfl rfl ⟨by rw [bool_no hb hq], L⟩
        · refine E.GL.st rfl rfl rfl (E.ST.call rfl ent38 (E.evc rfl (E.evc rfl (E.evc rfl E.evn))) ((within_o q.f2 0 20 false (iff_of_false Bool.false_ne_true h31) _).mono ?_))
          rintro e w31 ⟨rfl, l31⟩
          refine ⟨_, rfl, ?_⟩
          replace b2 := blk_below b2 l31
          replace b3 := blk_below b3 l31
          replace L := below_step L l31
          refine E.GL.run rfl rfl rfl (E.Runs.pick_t rfl rfl rfl) ?_
          refine E.GL.run rfl rfl rfl (E.Runs.move rfl rfl) ?_
          refine E.GL.skip rfl rfl rfl ?_
          refine E.GL.skip rfl rfl rfl ?_
          refine E.GL.skip rfl rfl rfl ?_
          refine E.GL.run rfl rfl rfl (E.Runs.pick_f rfl rfl rfl) ?_
          refine E.GL.run rfl rfl rfl (E.Runs.assign rfl rfl) ?_
          refine E.GL.done ?_
          refine E.QG.code ?_
          refine E.CG.ret ?_
          have hq : ¬ QOk ps.length q := by unfold QOk; unfold inR at *; omega
          exact E.QG.result rfl rfl ⟨by rw [bool_no hb hq], L⟩
      · refine E.GL.run rfl rfl rfl (E.Runs.pick_t rfl rfl rfl) ?_
        refine E.GL.run rfl rfl rfl (E.Runs.move rfl rfl) ?_
        refine E.GL.skip rfl rfl rfl ?_
        refine E.GL.skip rfl rfl rfl ?_
        refine E.GL.skip rfl rfl rfl ?_
        refine E.GL.run rfl rfl rfl (E.Runs.pick_f rfl rfl rfl) ?_
        refine E.GL.run rfl rfl rfl (E.Runs.move rfl rfl) ?_
        refine E.GL.skip rfl rfl rfl ?_
        refine E.GL.skip rfl rfl rfl ?_
        refine E.GL.skip rfl rfl rfl ?_
        refine E.GL.run rfl rfl rfl (E.Runs.pick_f rfl rfl rfl) ?_
        refine E.GL.run rfl rfl rfl (E.Runs.assign rfl rfl) ?_
        refine E.GL.done ?_
        refine E.QG.code ?_
        refine E.CG.ret ?_
        have hq : ¬ QOk ps.length q := by unfold QOk; unfold inR at *; omega
        exact E.QG.result rfl rfl ⟨by rw [bool_no hb hq], L⟩
    · refine E.GL.st rfl rfl rfl (E.ST.call rfl ent38 (E.evc rfl (E.evc rfl (E.evc rfl E.evn))) ((within_o q.f1 (-1) (ps.length - 1) false (iff_of_false Bool.false_ne_true h19) _).mono ?_))
      rintro e w19 ⟨rfl, l19⟩
      refine ⟨_, rfl, ?_⟩
      replace b2 := blk_below b2 l19
      replace b3 := blk_below b3 l19
      replace L := below_step L l19
      refine E.GL.run rfl rfl rfl (E.Runs.pick_t rfl rfl rfl) ?_
      refine E.GL.run rfl rfl rfl (E.Runs.move rfl rfl) ?_
      refine E.GL.skip rfl rfl rfl ?_
      refine E.GL.skip rfl rfl rfl ?_
      refine E.GL.skip rfl rfl rfl ?_
      refine E.GL.skip rfl rfl rfl ?_
      refine E.GL.skip rfl rfl rfl ?_
      refine E.GL.run rfl rfl rfl (E.Runs.pick_f rfl rfl rfl) ?_
      refine E.GL.run rfl rfl rfl (E.Runs.move rfl rfl) ?_
      refine E.GL.skip rfl rfl rfl ?_
      refine E.GL.skip rfl rfl rfl ?_
      refine E.GL.skip rfl rfl rfl ?_
      refine E.GL.run rfl rfl rfl (E.Runs.pick_f rfl rfl rfl) ?_
      refine E.GL.run rfl rfl rfl (E.Runs.move rfl rfl) ?_
      refine E.GL.skip rfl rfl rfl ?_
      refine E.GL.skip rfl rfl rfl ?_
      refine E.GL.skip rfl rfl rfl ?_
      refine E.GL.run rfl rfl rfl (E.Runs.pick_f rfl rfl rfl) ?_
      refine E.GL.run rfl rfl rfl (E.Runs.assign rfl rfl) ?_
      refine E.GL.done ?_
      refine E.QG.code ?_
      refine E.CG.ret ?_
      have hq : ¬ QOk ps.length q := by unfold QOk; unfold inR at *; omega
      exact E.QG.result rfl rfl ⟨by rw [bool_no hb hq], L⟩
  · refine E.GL.st rfl rfl rfl (E.ST.call rfl ent38 (E.evc rfl (E.evc rfl (E.evc rfl E.evn))) ((within_o q.f0 0 (ps.length - 1) false (iff_of_false Bool.false_ne_true h13) _).mono ?_))
    rintro e w13 ⟨rfl, l13⟩
    refine ⟨_, rfl, ?_⟩
    replace b2 := blk_below b2 l13
    replace b3 := blk_below b3 l13
    replace L := below_step L l13
    refine E.GL.run rfl rfl rfl (E.Runs.move rfl rfl) ?_
    refine E.GL.skip rfl rfl rfl ?_
    refine E.GL.skip rfl rfl rfl ?_
    refine E.GL.skip rfl rfl rfl ?_
    refine E.GL.skip rfl rfl rfl ?_
    refine E.GL.skip rfl rfl rfl ?_
    refine E.GL.run rfl rfl rfl (E.Runs.pick_f rfl rfl rfl) ?_
    refine E.GL.run rfl rfl rfl (E.Runs.move rfl rfl) ?_
    refine E.GL.skip rfl rfl rfl ?_
    refine E.GL.skip rfl rfl rfl ?_
    refine E.GL.skip rfl rfl rfl ?_
    refine E.GL.skip rfl rfl rfl ?_
    refine E.GL.skip rfl rfl rfl ?_
    refine E.GL.run rfl rfl rfl (E.Runs.pick_f rfl rfl rfl) ?_
    refine E.GL.run rfl rfl rfl (E.Runs.move rfl rfl) ?_
    refine E.GL.skip rfl rfl rfl ?_
    refine E.GL.skip rfl rfl rfl ?_
    refine E.GL.skip rfl rfl rfl ?_
    refine E.GL.run rfl rfl rfl (E.Runs.pick_f rfl rfl rfl) ?_
    refine E.GL.run rfl rfl rfl (E.Runs.move rfl rfl) ?_
    refine E.GL.skip rfl rfl rfl ?_
    refine E.GL.skip rfl rfl rfl ?_
    refine E.GL.skip rfl rfl rfl ?_
    refine E.GL.run rfl rfl rfl (E.Runs.pick_f rfl rfl rfl) ?_
    refine E.GL.run rfl rfl rfl (E.Runs.assign rfl rfl) ?_
    refine E.GL.done ?_
    refine E.QG.code ?_
    refine E.CG.ret ?_
    have hq : ¬ QOk ps.length q := by unfold QOk; unfold inR at *; omega
    exact E.QG.result rfl rfl ⟨by rw [bool_no hb hq], L⟩

set_option maxRecDepth 100000 in
set_option maxHeartbeats 8000000 in

theorem clo40 (x : Int) (r : Bool) (hb : r = true ↔ ¬ inR x 0 99) (w : World) :
    Calls Try.prog 40 #[.int .i64 x] w fun e w' => e = .returned (.bool r) ∧ Below w.heap.size w w' := by
  refine E.enter (N := 6) Try.func40 rfl Try.ntmps40 (args := [.int .i64 x]) (by simp) ?_
  have L := Below.refl w.heap.size w
  refine E.CG.seq ?_
  refine E.CG.list ?_
  refine E.GL.run rfl rfl rfl (E.Runs.assign rfl rfl) ?_
  refine E.GL.done ?_
  refine E.QG.code ?_
  refine E.CG.seq ?_
  refine E.CG.list ?_
  refine E.GL.run rfl rfl rfl (E.Runs.move rfl rfl) ?_
  by_cases h4 : inR x 0 99
  · refine E.GL.st rfl rfl rfl (E.ST.call rfl ent38 (E.evc rfl (E.evc rfl (E.evc rfl E.evn))) ((within_o x 0 99 true (iff_of_true rfl h4) _).mono ?_))
    rintro e w4 ⟨rfl, l4⟩
    refine ⟨_, rfl, ?_⟩
    replace L := below_step L l4
    refine E.GL.run rfl rfl rfl (E.Runs.not rfl rfl) ?_
    refine E.GL.run rfl rfl rfl (E.Runs.assign rfl rfl) ?_
    refine E.GL.done ?_
    refine E.QG.code ?_
    refine E.CG.ret ?_
    exact E.QG.result rfl rfl ⟨by rw [bool_no hb (fun k => k h4)]; rfl, L⟩
  · refine E.GL.st rfl rfl rfl (E.ST.call rfl ent38 (E.evc rfl (E.evc rfl (E.evc rfl E.evn))) ((within_o x 0 99 false (iff_of_false Bool.false_ne_true h4) _).mono ?_))
    rintro e w4 ⟨rfl, l4⟩
    refine ⟨_, rfl, ?_⟩
    replace L := below_step L l4
    refine E.GL.run rfl rfl rfl (E.Runs.not rfl rfl) ?_
    refine E.GL.run rfl rfl rfl (E.Runs.assign rfl rfl) ?_
    refine E.GL.done ?_
    refine E.QG.code ?_
    refine E.CG.ret ?_
    exact E.QG.result rfl rfl ⟨by rw [hb.mpr h4]; rfl, L⟩

set_option maxRecDepth 100000 in
set_option maxHeartbeats 8000000 in

theorem clo42 (ps : List Int) (qs : List S45) (A B : Option Addr) (c d g : Nat) (q : S45) (r : Bool) (hb : r = true ↔ ¬ QOk ps.length q) (hn : ps.length ≤ 1000000) (w : World) (bg : w.heap[g]? = some (.cells #[.slice A ps.length c, .slice B qs.length d] 25 (0, 0))) :
    Calls Try.prog 42 #[.agg #[.int .i64 q.f0, .int .i64 q.f1, .int .i64 q.f2, .int .i64 q.f3], .pointer (some ⟨g, 0, none⟩)] w fun e w' => e = .returned (.bool r) ∧ Below w.heap.size w w' := by
  have hu3 := Try.underlying3
  have hu25 := Try.underlying25
  have hu45 := Try.underlying45
  obtain ⟨z3, o3⟩ := info_some info3s (by decide)
  refine E.enter (N := 8) Try.func42 rfl Try.ntmps42 (args := [.agg #[.int .i64 q.f0, .int .i64 q.f1, .int .i64 q.f2, .int .i64 q.f3], .pointer (some ⟨g, 0, none⟩)]) (by simp) ?_
  have L := Below.refl w.heap.size w
  refine E.CG.seq ?_
  refine E.CG.list ?_
  refine E.GL.st rfl rfl rfl (E.ST.box rfl rfl fun g2 w2 e2 b2 l2 => ?_)
  have h2_L : w.heap.size ≤ g2 := by rw [e2]; exact L.size
  have n2_bg : g ≠ g2 := by have := blk_lt bg; omega
  replace bg := blk_below bg l2
  replace L := below_step L l2
  refine E.GL.run rfl rfl rfl (E.Runs.assign rfl rfl) ?_
  refine E.GL.done ?_
  refine E.QG.code ?_
  refine E.CG.seq ?_
  refine E.CG.list ?_
  refine E.GL.run rfl rfl rfl (E.Runs.loads (cs := [.slice A ps.length c, .slice B qs.length d]) rfl rfl hu25 rfl info25s (blk_cells bg)) ?_
  refine E.GL.run rfl rfl rfl (E.Runs.loads (cs := [.int .i64 q.f0, .int .i64 q.f1, .int .i64 q.f2, .int .i64 q.f3]) rfl rfl hu45 rfl info45s (blk_cells b2)) ?_
  by_cases h6 : QOk ps.length q
  · refine E.GL.st rfl rfl rfl (E.ST.call rfl ent43 (E.evc rfl (E.evc rfl E.evn)) ((isPassage_calls ps qs A B c d q true (iff_of_true rfl h6) hn _).mono ?_))
    rintro e w6 ⟨rfl, l6⟩
    refine ⟨_, rfl, ?_⟩
    replace bg := blk_below bg l6
    replace b2 := blk_below b2 l6
    replace L := below_step L l6
    refine E.GL.run rfl rfl rfl (E.Runs.not rfl rfl) ?_
    refine E.GL.run rfl rfl rfl (E.Runs.assign rfl rfl) ?_
    refine E.GL.done ?_
    refine E.QG.code ?_
    refine E.CG.ret ?_
    exact E.QG.result rfl rfl ⟨by rw [bool_no hb (fun k => k h6)]; rfl, L⟩
  · refine E.GL.st rfl rfl rfl (E.ST.call rfl ent43 (E.evc rfl (E.evc rfl E.evn)) ((isPassage_calls ps qs A B c d q false (iff_of_false Bool.false_ne_true h6) hn _).mono ?_))
    rintro e w6 ⟨rfl, l6⟩
    refine ⟨_, rfl, ?_⟩
    replace bg := blk_below bg l6
    replace b2 := blk_below b2 l6
    replace L := below_step L l6
    refine E.GL.run rfl rfl rfl (E.Runs.not rfl rfl) ?_
    refine E.GL.run rfl rfl rfl (E.Runs.assign rfl rfl) ?_
    refine E.GL.done ?_
    refine E.QG.code ?_
    refine E.CG.ret ?_
    exact E.QG.result rfl rfl ⟨by rw [hb.mpr h6]; rfl, L⟩

set_option maxRecDepth 100000 in
set_option maxHeartbeats 8000000 in

theorem index57 (l : List Int) (A : Option Addr) (c : Nat) (w : World) (hr : Kd.C kI w A l.length l) (hn : l.length ≤ 1000000) :
    Calls Try.prog 57 #[.slice A l.length c, .func (.func 40) #[] #[]] w fun e w' => ∃ r : Int, e = .returned (.int .i64 r) ∧ (0 ≤ r ↔ ¬ PsOk l) ∧ Below w.heap.size w w' := by
  have hu3 := Try.underlying3
  have hu22 := Try.underlying22
  obtain ⟨z3, o3⟩ := info_some info3s (by decide)
  refine E.enter (N := 19) Try.func57 rfl Try.ntmps57 (args := [.slice A l.length c, .func (.func 40) #[] #[]]) (by simp) ?_
  have L := Below.refl w.heap.size w
  refine E.CG.seq ?_
  refine E.CG.list ?_
  refine E.GL.run rfl rfl rfl (E.Runs.assign rfl rfl) ?_
  refine E.GL.done ?_
  refine E.QG.code ?_
  refine E.CG.seq ?_
  refine E.CG.seq ?_
  refine E.CG.list ?_
  refine E.GL.run rfl rfl rfl (E.Runs.move rfl rfl) ?_
  refine E.GL.run rfl rfl rfl (E.Runs.len rfl rfl hu22) ?_
  refine E.GL.run rfl rfl rfl (E.Runs.move rfl rfl) ?_
  refine E.GL.done ?_
  refine E.QG.code ?_
  refine E.CG.block ?_
  have s2_L := L
  refine E.CG.loop (fun (i : Nat) => [(0, .slice A l.length c), (1, .func (.func 40) #[] #[]), (7, .int .i64 l.length), (8, .int .i64 i)]) (fun i w' => i ≤ l.length ∧ Below w.heap.size w w' ∧ ∀ k, k < i → ∀ x, l[k]? = some x → 0 ≤ x ∧ x ≤ 99) (fun i => l.length - i) 0 (E.subc rfl (E.subc rfl (E.subc rfl (E.subc rfl E.subn)))) ⟨Nat.zero_le _, L, fun k hk => by omega⟩ ?_
  rintro i w2 ⟨hi, L, hok⟩
  refine E.CG.seq ?_
  refine E.CG.list ?_
  refine E.GL.cmp rfl rfl rfl (fun _ h => (E.Runs.lss rfl rfl rfl h)) (fun h9 => ?_) (fun h9 => ?_)
  · obtain ⟨x, hx⟩ : ∃ x, l[i]? = some x := ⟨_, List.getElem?_eq_getElem (by omega)⟩
    obtain ⟨ad, eA, X⟩ := int_at hr hx
    refine E.GL.done ?_
    refine E.QG.code ?_
    refine E.CG.seq ?_
    refine E.CG.cond_t rfl ?_
    refine E.CG.skip ?_
    refine E.QG.code ?_
    refine E.CG.seq ?_
    refine E.CG.block ?_
    refine E.CG.seq ?_
    refine E.CG.list ?_
    refine E.GL.run rfl rfl rfl (E.Runs.move rfl rfl) ?_
    refine E.GL.run rfl rfl rfl (E.Runs.assign rfl rfl) ?_
    refine E.GL.done ?_
    refine E.QG.code ?_
    refine E.CG.seq ?_
    refine E.CG.list ?_
    refine E.GL.run rfl rfl rfl (E.Runs.move rfl rfl) ?_
    refine E.GL.run rfl rfl rfl (E.Runs.move rfl rfl) ?_
    refine E.GL.run rfl rfl rfl (E.Runs.move rfl rfl) ?_
    refine E.GL.run rfl rfl rfl (E.Runs.indexAddrA rfl rfl rfl hu22 z3 o3 (by omega) eA rfl) ?_
    refine E.GL.run rfl rfl rfl (E.Runs.load rfl rfl hu3 (pw_cell_below L X)) ?_
    by_cases h16 : ¬ inR x 0 99
    · refine E.GL.st rfl rfl rfl (E.ST.callV (cap := []) rfl ent40 rfl (E.evc rfl E.evn) ((clo40 x true (iff_of_true rfl h16) _).mono ?_))
      rintro e w16 ⟨rfl, l16⟩
      refine ⟨_, rfl, ?_⟩
      replace L := below_step L l16
      refine E.GL.done ?_
      refine E.QG.code ?_
      refine E.CG.cond_t rfl ?_
      refine E.CG.seq ?_
      refine E.CG.list ?_
      refine E.GL.run rfl rfl rfl (E.Runs.move rfl rfl) ?_
      refine E.GL.run rfl rfl rfl (E.Runs.assign rfl rfl) ?_
      refine E.GL.done ?_
      refine E.QG.code ?_
      refine E.CG.ret ?_
      refine E.QG.block_ret ?_
      refine E.QG.pass_ret ?_
      refine E.QG.pass_ret ?_
      refine E.QG.block_ret ?_
      refine E.QG.pass_ret ?_
      exact E.QG.result rfl rfl ⟨_, rfl, iff_of_true (by omega) (fun k => h16 (k x (List.mem_of_getElem? hx))), L⟩
    · refine E.GL.st rfl rfl rfl (E.ST.callV (cap := []) rfl ent40 rfl (E.evc rfl E.evn) ((clo40 x false (iff_of_false Bool.false_ne_true h16) _).mono ?_))
      rintro e w16 ⟨rfl, l16⟩
      refine ⟨_, rfl, ?_⟩
      replace L := below_step L l16
      refine E.GL.done ?_
      refine E.QG.code ?_
      refine E.CG.cond_f rfl ?_
      refine E.CG.skip ?_
      refine E.QG.block_normal ?_
      refine E.QG.code ?_
      refine E.CG.list ?_
      refine E.GL.run rfl rfl rfl (E.Runs.add rfl rfl rfl (IntWalk.i64_in _ (by omega))) ?_
      refine E.GL.run rfl rfl rfl (E.Runs.move rfl rfl) ?_
      refine E.GL.done ?_
      exact E.QG.round (i + 1) (E.subc rfl (E.subc rfl (E.subc rfl (E.subc rfl E.subn)))) ⟨by omega, L, all_more hok hx (Decidable.not_not.mp h16)⟩ (by omega)
  · refine E.GL.done ?_
    refine E.QG.code ?_
    refine E.CG.seq ?_
    refine E.CG.cond_f rfl ?_
    refine E.CG.exit ?_
    refine E.QG.pass_exit ?_
    refine E.QG.pass_exit ?_
    refine E.QG.block_here ?_
    refine E.QG.code ?_
    refine E.CG.seq ?_
    refine E.CG.list ?_
    refine E.GL.run rfl rfl rfl (E.Runs.assign rfl rfl) ?_
    refine E.GL.done ?_
    refine E.QG.code ?_
    refine E.CG.ret ?_
    exact E.QG.result rfl rfl ⟨_, rfl, iff_of_false (by omega) (fun k => k (all_done hok (by omega))), L⟩

set_option maxRecDepth 100000 in
set_option maxHeartbeats 8000000 in

theorem index58 (ps : List Int) (l : List S45) (A B : Option Addr) (c d g : Nat) (w : World) (hr : Kd.C k45 w B l.length l) (hn : l.length ≤ 1000000) (hn2 : ps.length ≤ 1000000) (bg : w.heap[g]? = some (.cells #[.slice A ps.length c, .slice B l.length d] 25 (0, 0))) :
    Calls Try.prog 58 #[.slice B l.length d, .func (.func 42) #[] #[.pointer (some ⟨g, 0, none⟩)]] w fun e w' => ∃ r : Int, e = .returned (.int .i64 r) ∧ (0 ≤ r ↔ ¬ QsOk ps.length l) ∧ Below w.heap.size w w' := by
  have hu3 := Try.underlying3
  have hu23 := Try.underlying23
  have hu45 := Try.underlying45
  obtain ⟨z45, o45⟩ := info_some info45s (by decide)
  refine E.enter (N := 19) Try.func58 rfl Try.ntmps58 (args := [.slice B l.length d, .func (.func 42) #[] #[.pointer (some ⟨g, 0, none⟩)]]) (by simp) ?_
  have L := Below.refl w.heap.size w
  refine E.CG.seq ?_
  refine E.CG.list ?_
  refine E.GL.run rfl rfl rfl (E.Runs.assign rfl rfl) ?_
  refine E.GL.done ?_
  refine E.QG.code ?_
  refine E.CG.seq ?_
  refine E.CG.seq ?_
  refine E.CG.list ?_
  refine E.GL.run rfl rfl rfl (E.Runs.move rfl rfl) ?_
  refine E.GL.run rfl rfl rfl (E.Runs.len rfl rfl hu23) ?_
  refine E.GL.run rfl rfl rfl (E.Runs.move rfl rfl) ?_
  refine E.GL.done ?_
  refine E.QG.code ?_
  refine E.CG.block ?_
  have s2_L := L
  refine E.CG.loop (fun (i : Nat) => [(0, .slice B l.length d), (1, .func (.func 42) #[] #[.pointer (some ⟨g, 0, none⟩)]), (7, .int .i64 l.length), (8, .int .i64 i)]) (fun i w' => i ≤ l.length ∧ Below w.heap.size w w' ∧ ∀ k, k < i → ∀ x, l[k]? = some x → QOk ps.length x) (fun i => l.length - i) 0 (E.subc rfl (E.subc rfl (E.subc rfl (E.subc rfl E.subn)))) ⟨Nat.zero_le _, L, fun k hk => by omega⟩ ?_
  rintro i w2 ⟨hi, L, hok⟩
  refine E.CG.seq ?_
  refine E.CG.list ?_
  refine E.GL.cmp rfl rfl rfl (fun _ h => (E.Runs.lss rfl rfl rfl h)) (fun h9 => ?_) (fun h9 => ?_)
  · obtain ⟨q, hx⟩ : ∃ x, l[i]? = some x := ⟨_, List.getElem?_eq_getElem (by omega)⟩
    obtain ⟨ad, eA, X⟩ := pass_at hr hx
    refine E.GL.done ?_
    refine E.QG.code ?_
    refine E.CG.seq ?_
    refine E.CG.cond_t rfl ?_
    refine E.CG.skip ?_
    refine E.QG.code ?_
    refine E.CG.seq ?_
    refine E.CG.block ?_
    refine E.CG.seq ?_
    refine E.CG.list ?_
    refine E.GL.run rfl rfl rfl (E.Runs.move rfl rfl) ?_
    refine E.GL.run rfl rfl rfl (E.Runs.assign rfl rfl) ?_
    refine E.GL.done ?_
    refine E.QG.code ?_
    refine E.CG.seq ?_
    refine E.CG.list ?_
    refine E.GL.run rfl rfl rfl (E.Runs.move rfl rfl) ?_
    refine E.GL.run rfl rfl rfl (E.Runs.move rfl rfl) ?_
    refine E.GL.run rfl rfl rfl (E.Runs.move rfl rfl) ?_
    refine E.GL.run rfl rfl rfl (E.Runs.indexAddrA rfl rfl rfl hu23 z45 o45 (show (i : Int) < l.length by omega) eA rfl) ?_
    refine E.GL.run rfl rfl rfl (E.Runs.loads (cs := [.int .i64 q.f0, .int .i64 q.f1, .int .i64 q.f2, .int .i64 q.f3]) rfl rfl hu45 rfl info45s (fun j v hv => pw_cell_below L (X j v hv))) ?_
    by_cases h16 : ¬ QOk ps.length q
    · refine E.GL.st rfl rfl rfl (E.ST.callV (cap := [.pointer (some ⟨g, 0, none⟩)]) rfl ent42 rfl (E.evc rfl E.evn) ((clo42 ps l A B c d g q true (iff_of_true rfl h16) hn2 _ (blk_below bg L)).mono ?_))
      rintro e w16 ⟨rfl, l16⟩
      refine ⟨_, rfl, ?_⟩
      replace L := below_step L l16
      refine E.GL.done ?_
      refine E.QG.code ?_
      refine E.CG.cond_t rfl ?_
      refine E.CG.seq ?_
      refine E.CG.list ?_
      refine E.GL.run rfl rfl rfl (E.Runs.move rfl rfl) ?_
      refine E.GL.run rfl rfl rfl (E.Runs.assign rfl rfl) ?_
      refine E.GL.done ?_
      refine E.QG.code ?_
      refine E.CG.ret ?_
      refine E.QG.block_ret ?_
      refine E.QG.pass_ret ?_
      refine E.QG.pass_ret ?_
      refine E.QG.block_ret ?_
      refine E.QG.pass_ret ?_
      exact E.QG.result rfl rfl ⟨_, rfl, iff_of_true (by omega) (fun k => h16 (k q (List.mem_of_getElem? hx))), L⟩
    · refine E.GL.st rfl rfl rfl (E.ST.callV (cap := [.pointer (some ⟨g, 0, none⟩)]) rfl ent42 rfl (E.evc rfl E.evn) ((clo42 ps l A B c d g q false (iff_of_false Bool.false_ne_true h16) hn2 _ (blk_below bg L)).mono ?_))
      rintro e w16 ⟨rfl, l16⟩
      refine ⟨_, rfl, ?_⟩
      replace L := below_step L l16
      refine E.GL.done ?_
      refine E.QG.code ?_
      refine E.CG.cond_f rfl ?_
      refine E.CG.skip ?_
      refine E.QG.block_normal ?_
      refine E.QG.code ?_
      refine E.CG.list ?_
      refine E.GL.run rfl rfl rfl (E.Runs.add rfl rfl rfl (IntWalk.i64_in _ (by omega))) ?_
      refine E.GL.run rfl rfl rfl (E.Runs.move rfl rfl) ?_
      refine E.GL.done ?_
      exact E.QG.round (i + 1) (E.subc rfl (E.subc rfl (E.subc rfl (E.subc rfl E.subn)))) ⟨by omega, L, all_more hok hx (Decidable.not_not.mp h16)⟩ (by omega)
  · refine E.GL.done ?_
    refine E.QG.code ?_
    refine E.CG.seq ?_
    refine E.CG.cond_f rfl ?_
    refine E.CG.exit ?_
    refine E.QG.pass_exit ?_
    refine E.QG.pass_exit ?_
    refine E.QG.block_here ?_
    refine E.QG.code ?_
    refine E.CG.seq ?_
    refine E.CG.list ?_
    refine E.GL.run rfl rfl rfl (E.Runs.assign rfl rfl) ?_
    refine E.GL.done ?_
    refine E.QG.code ?_
    refine E.CG.ret ?_
    exact E.QG.result rfl rfl ⟨_, rfl, iff_of_false (by omega) (fun k => k (all_done hok (by omega))), L⟩

set_option maxRecDepth 100000 in
set_option maxHeartbeats 8000000 in

theorem contains39 (l : List Int) (A : Option Addr) (c : Nat) (w : World) (r : Bool) (hb : r = true ↔ ¬ PsOk l) (hr : Kd.C kI w A l.length l) (hn : l.length ≤ 1000000) :
    Calls Try.prog 39 #[.slice A l.length c, .func (.func 40) #[] #[]] w fun e w' => e = .returned (.bool r) ∧ Below w.heap.size w w' := by
  have hu3 := Try.underlying3
  have hu22 := Try.underlying22
  refine E.enter (N := 9) Try.func39 rfl Try.ntmps39 (args := [.slice A l.length c, .func (.func 40) #[] #[]]) (by simp) ?_
  have L := Below.refl w.heap.size w
  refine E.CG.seq ?_
  refine E.CG.list ?_
  refine E.GL.run rfl rfl rfl (E.Runs.assign rfl rfl) ?_
  refine E.GL.done ?_
  refine E.QG.code ?_
  refine E.CG.seq ?_
  refine E.CG.list ?_
  refine E.GL.run rfl rfl rfl (E.Runs.move rfl rfl) ?_
  refine E.GL.run rfl rfl rfl (E.Runs.move rfl rfl) ?_
  refine E.GL.st rfl rfl rfl (E.ST.call rfl ent57 (E.evc rfl (E.evc rfl E.evn)) ((index57 l A c _ (Kd.C_below hr L) hn).mono ?_))
  rintro e w7 ⟨q, rfl, hq, l7⟩
  refine ⟨_, rfl, ?_⟩
  replace L := below_step L l7
  refine E.GL.cmp rfl rfl rfl (fun _ h => (E.Runs.geq rfl rfl rfl h)) (fun h8 => ?_) (fun h8 => ?_)
  · refine E.GL.run rfl rfl rfl (E.Runs.assign rfl rfl) ?_
    refine E.GL.done ?_
    refine E.QG.code ?_
    refine E.CG.ret ?_
    exact E.QG.result rfl rfl ⟨by rw [hb.mpr (hq.mp h8)], L⟩
  · refine E.GL.run rfl rfl rfl (E.Runs.assign rfl rfl) ?_
    refine E.GL.done ?_
    refine E.QG.code ?_
    refine E.CG.ret ?_
    exact E.QG.result rfl rfl ⟨by rw [bool_no hb (fun k => h8 (hq.mpr k))], L⟩

set_option maxRecDepth 100000 in
set_option maxHeartbeats 8000000 in

theorem contains41 (ps : List Int) (l : List S45) (A B : Option Addr) (c d g : Nat) (w : World) (r : Bool) (hb : r = true ↔ ¬ QsOk ps.length l) (hr : Kd.C k45 w B l.length l) (hn : l.length ≤ 1000000) (hn2 : ps.length ≤ 1000000) (bg : w.heap[g]? = some (.cells #[.slice A ps.length c, .slice B l.length d] 25 (0, 0))) :
    Calls Try.prog 41 #[.slice B l.length d, .func (.func 42) #[] #[.pointer (some ⟨g, 0, none⟩)]] w fun e w' => e = .returned (.bool r) ∧ Below w.heap.size w w' := by
  have hu3 := Try.underlying3
  have hu23 := Try.underlying23
  refine E.enter (N := 9) Try.func41 rfl Try.ntmps41 (args := [.slice B l.length d, .func (.func 42) #[] #[.pointer (some ⟨g, 0, none⟩)]]) (by simp) ?_
  have L := Below.refl w.heap.size w
  refine E.CG.seq ?_
  refine E.CG.list ?_
  refine E.GL.run rfl rfl rfl (E.Runs.assign rfl rfl) ?_
  refine E.GL.done ?_
  refine E.QG.code ?_
  refine E.CG.seq ?_
  refine E.CG.list ?_
  refine E.GL.run rfl rfl rfl (E.Runs.move rfl rfl) ?_
  refine E.GL.run rfl rfl rfl (E.Runs.move rfl rfl) ?_
  refine E.GL.st rfl rfl rfl (E.ST.call rfl ent58 (E.evc rfl (E.evc rfl E.evn)) ((index58 ps l A B c d g _ (Kd.C_below hr L) hn hn2 (blk_below bg L)).mono ?_))
  rintro e w7 ⟨q, rfl, hq, l7⟩
  refine ⟨_, rfl, ?_⟩
  replace L := below_step L l7
  refine E.GL.cmp rfl rfl rfl (fun _ h => (E.Runs.geq rfl rfl rfl h)) (fun h8 => ?_) (fun h8 => ?_)
  · refine E.GL.run rfl rfl rfl (E.Runs.assign rfl rfl) ?_
    refine E.GL.done ?_
    refine E.QG.code ?_
    refine E.CG.ret ?_
    exact E.QG.result rfl rfl ⟨by rw [hb.mpr (hq.mp h8)], L⟩
  · refine E.GL.run rfl rfl rfl (E.Runs.assign rfl rfl) ?_
    refine E.GL.done ?_
    refine E.QG.code ?_
    refine E.CG.ret ?_
    exact E.QG.result rfl rfl ⟨by rw [bool_no hb (fun k => h8 (hq.mpr k))], L⟩

set_option maxRecDepth 100000 in
set_option maxHeartbeats 8000000 in

theorem check14 (ps : List Int) (qs : List S45) (A B : Option Addr) (c d : Nat) (w : World) (hP : Kd.C kI w A ps.length ps) (hQ : Kd.C k45 w B qs.length qs) (hn1 : ps.length ≤ 1000000) (hn2 : qs.length ≤ 1000000) :
    Calls Try.prog 14 #[hv ps qs A B c d] w fun e w' => e = .returned (.int .i64 (checkE ps qs)) ∧ Below w.heap.size w w' := by
  haveI : Decidable (PsOk ps) := by unfold PsOk; infer_instance
  haveI : Decidable (QsOk ps.length qs) := by unfold QsOk; infer_instance
  have hu3 := Try.underlying3
  have hu22 := Try.underlying22
  have hu23 := Try.underlying23
  have hu25 := Try.underlying25
  obtain ⟨z3, o3⟩ := info_some info3s (by decide)
  obtain ⟨z22, o22⟩ := info_some info22s (by decide)
  obtain ⟨z23, o23⟩ := info_some info23s (by decide)
  obtain ⟨z25, o25⟩ := info_some info25s (by decide)
  refine E.enter (N := 23) Try.func14 rfl Try.ntmps14 (args := [hv ps qs A B c d]) (by simp) ?_
  have L := Below.refl w.heap.size w
  refine E.CG.seq ?_
  refine E.CG.list ?_
  refine E.GL.st rfl rfl rfl (E.ST.box rfl rfl fun g1 w1 e1 b1 l1 => ?_)
  have h1_L : w.heap.size ≤ g1 := by rw [e1]; exact L.size
  replace L := below_step L l1
  refine E.GL.run rfl rfl rfl (E.Runs.assign rfl rfl) ?_
  refine E.GL.done ?_
  refine E.QG.code ?_
  refine E.CG.seq ?_
  refine E.CG.seq ?_
  refine E.CG.list ?_
  refine E.GL.run rfl rfl rfl (E.Runs.fieldAddr rfl rfl hu25 rfl (by assumption) rfl) ?_
  refine E.GL.run rfl rfl rfl (E.Runs.load1 rfl rfl hu22 rfl (by first | assumption | exact E.blkc (by assumption) rfl | exact pw_cell_below L (by assumption))) ?_
  refine E.GL.run rfl rfl rfl (E.Runs.len rfl rfl hu22) ?_
  by_cases h6 : inR ps.length 1 6
  · refine E.GL.st rfl rfl rfl (E.ST.call rfl ent38 (E.evc rfl (E.evc rfl (E.evc rfl E.evn))) ((within_o ps.length 1 6 true (iff_of_true rfl h6) _).mono ?_))
    rintro e w6 ⟨rfl, l6⟩
    refine ⟨_, rfl, ?_⟩
    replace b1 := blk_below b1 l6
    replace L := below_step L l6
    refine E.GL.run rfl rfl rfl (E.Runs.not rfl rfl) ?_
    refine E.GL.run rfl rfl rfl (E.Runs.move rfl rfl) ?_
    refine E.GL.run rfl rfl rfl (E.Runs.fieldAddr rfl rfl hu25 rfl (by assumption) rfl) ?_
    refine E.GL.run rfl rfl rfl (E.Runs.load1 rfl rfl hu23 rfl (by first | assumption | exact E.blkc (by assumption) rfl | exact pw_cell_below L (by assumption))) ?_
    refine E.GL.run rfl rfl rfl (E.Runs.len rfl rfl hu23) ?_
    refine E.GL.cmp rfl rfl rfl (fun _ h => (E.Runs.gtr rfl rfl rfl h)) (fun h12 => ?_) (fun h12 => ?_)
    · refine E.GL.run rfl rfl rfl (E.Runs.pick_f rfl rfl rfl) ?_
      refine E.GL.done ?_
      refine E.QG.code ?_
      refine E.CG.cond_t rfl ?_
      refine E.CG.seq ?_
      refine E.CG.list ?_
      refine E.GL.run rfl rfl rfl (E.Runs.assign rfl rfl) ?_
      refine E.GL.done ?_
      refine E.QG.code ?_
      refine E.CG.ret ?_
      refine E.QG.pass_ret ?_
      exact E.QG.result rfl rfl ⟨by rw [checkE_no (fun k => by have := k.q12; omega)], L⟩
    · refine E.GL.run rfl rfl rfl (E.Runs.pick_f rfl rfl rfl) ?_
      refine E.GL.done ?_
      refine E.QG.code ?_
      refine E.CG.cond_f rfl ?_
      refine E.CG.skip ?_
      refine E.QG.code ?_
      refine E.CG.seq ?_
      refine E.CG.seq ?_
      refine E.CG.list ?_
      refine E.GL.run rfl rfl rfl (E.Runs.fieldAddr rfl rfl hu25 rfl (by assumption) rfl) ?_
      refine E.GL.run rfl rfl rfl (E.Runs.load1 rfl rfl hu22 rfl (by first | assumption | exact E.blkc (by assumption) rfl | exact pw_cell_below L (by assumption))) ?_
      by_cases h16 : ¬ PsOk ps
      · refine E.GL.st rfl rfl rfl (E.ST.call rfl ent39 (E.evc rfl (E.evc rfl E.evn)) ((contains39 ps A c _ true (iff_of_true rfl h16) (Kd.C_below hP L) hn1).mono ?_))
        rintro e w16 ⟨rfl, l16⟩
        refine ⟨_, rfl, ?_⟩
        replace b1 := blk_below b1 l16
        replace L := below_step L l16
        refine E.GL.run rfl rfl rfl (E.Runs.move rfl rfl) ?_
        refine E.GL.skip rfl rfl rfl ?_
        refine E.GL.skip rfl rfl rfl ?_
        refine E.GL.skip rfl rfl rfl ?_
        refine E.GL.skip rfl rfl rfl ?_
        refine E.GL.run rfl rfl rfl (E.Runs.pick_t rfl rfl rfl) ?_
        refine E.GL.done ?_
        refine E.QG.code ?_
        refine E.CG.cond_t rfl ?_
        refine E.CG.seq ?_
        refine E.CG.list ?_
        refine E.GL.run rfl rfl rfl (E.Runs.assign rfl rfl) ?_
        refine E.GL.done ?_
        refine E.QG.code ?_
        refine E.CG.ret ?_
        refine E.QG.pass_ret ?_
        exact E.QG.result rfl rfl ⟨by rw [checkE_no (fun k => h16 k.p)], L⟩
      · refine E.GL.st rfl rfl rfl (E.ST.call rfl ent39 (E.evc rfl (E.evc rfl E.evn)) ((contains39 ps A c _ false (iff_of_false Bool.false_ne_true h16) (Kd.C_below hP L) hn1).mono ?_))
        rintro e w16 ⟨rfl, l16⟩
        refine ⟨_, rfl, ?_⟩
        replace b1 := blk_below b1 l16
        replace L := below_step L l16
        refine E.GL.run rfl rfl rfl (E.Runs.move rfl rfl) ?_
        refine E.GL.run rfl rfl rfl (E.Runs.fieldAddr rfl rfl hu25 rfl (by assumption) rfl) ?_
        refine E.GL.run rfl rfl rfl (E.Runs.load1 rfl rfl hu23 rfl (by first | assumption | exact E.blkc (by assumption) rfl | exact pw_cell_below L (by assumption))) ?_
        refine E.GL.run rfl rfl rfl (E.Runs.makeFunc rfl (E.evc rfl E.evn)) ?_
        by_cases h21 : ¬ QsOk ps.length qs
        · refine E.GL.st rfl rfl rfl (E.ST.call rfl ent41 (E.evc rfl (E.evc rfl E.evn)) ((contains41 ps qs A B c d g1 _ true (iff_of_true rfl h21) (Kd.C_below hQ L) hn2 hn1 b1).mono ?_))
          rintro e w21 ⟨rfl, l21⟩
          refine ⟨_, rfl, ?_⟩
          replace b1 := blk_below b1 l21
          replace L := below_step L l21
          refine E.GL.run rfl rfl rfl (E.Runs.pick_f rfl rfl rfl) ?_
          refine E.GL.done ?_
          refine E.QG.code ?_
          refine E.CG.cond_t rfl ?_
          refine E.CG.seq ?_
          refine E.CG.list ?_
          refine E.GL.run rfl rfl rfl (E.Runs.assign rfl rfl) ?_
          refine E.GL.done ?_
          refine E.QG.code ?_
          refine E.CG.ret ?_
          refine E.QG.pass_ret ?_
          exact E.QG.result rfl rfl ⟨by rw [checkE_no (fun k => h21 k.q)], L⟩
        · refine E.GL.st rfl rfl rfl (E.ST.call rfl ent41 (E.evc rfl (E.evc rfl E.evn)) ((contains41 ps qs A B c d g1 _ false (iff_of_false Bool.false_ne_true h21) (Kd.C_below hQ L) hn2 hn1 b1).mono ?_))
          rintro e w21 ⟨rfl, l21⟩
          refine ⟨_, rfl, ?_⟩
          replace b1 := blk_below b1 l21
          replace L := below_step L l21
          refine E.GL.run rfl rfl rfl (E.Runs.pick_f rfl rfl rfl) ?_
          refine E.GL.done ?_
          refine E.QG.code ?_
          refine E.CG.cond_f rfl ?_
          refine E.CG.skip ?_
          refine E.QG.code ?_
          refine E.CG.seq ?_
          refine E.CG.list ?_
          refine E.GL.run rfl rfl rfl (E.Runs.assign rfl rfl) ?_
          refine E.GL.done ?_
          refine E.QG.code ?_
          refine E.CG.ret ?_
          exact E.QG.result rfl rfl ⟨by rw [checkE_yes ⟨by unfold inR at h6; omega, by unfold inR at h6; omega, by omega, Decidable.not_not.mp h16, Decidable.not_not.mp h21⟩], L⟩
  · refine E.GL.st rfl rfl rfl (E.ST.call rfl ent38 (E.evc rfl (E.evc rfl (E.evc rfl E.evn))) ((within_o ps.length 1 6 false (iff_of_false Bool.false_ne_true h6) _).mono ?_))
    rintro e w6 ⟨rfl, l6⟩
    refine ⟨_, rfl, ?_⟩
    replace b1 := blk_below b1 l6
    replace L := below_step L l6
    refine E.GL.run rfl rfl rfl (E.Runs.not rfl rfl) ?_
    refine E.GL.run rfl rfl rfl (E.Runs.move rfl rfl) ?_
    refine E.GL.skip rfl rfl rfl ?_
    refine E.GL.skip rfl rfl rfl ?_
    refine E.GL.skip rfl rfl rfl ?_
    refine E.GL.skip rfl rfl rfl ?_
    refine E.GL.run rfl rfl rfl (E.Runs.pick_t rfl rfl rfl) ?_
    refine E.GL.done ?_
    refine E.QG.code ?_
    refine E.CG.cond_t rfl ?_
    refine E.CG.seq ?_
    refine E.CG.list ?_
    refine E.GL.run rfl rfl rfl (E.Runs.assign rfl rfl) ?_
    refine E.GL.done ?_
    refine E.QG.code ?_
    refine E.CG.ret ?_
    refine E.QG.pass_ret ?_
    exact E.QG.result rfl rfl ⟨by rw [checkE_no (fun k => h6 ⟨by have := k.r1; omega, by have := k.r6; omega⟩)], L⟩

end Go.Proofs.Ytmnjlnkfihklgaa.T
namespace Go.Proofs.Ytmnjlnkfihklgaa.T
open Go.RowKit Go.Proofs.YtmnjlnkfihklgaaW.PrintWords Go.Proofs.YtmnjlnkfihklgaaW.PrintMore
open Go.Proofs.Ytmnjlnkfihklgaa.P
set_option linter.unusedVariables false
set_option linter.unusedSimpArgs false

theorem sumP_b {l : List Int} (h : PsOk l) (hl : l.length ≤ 1000) : ∀ i, i ≤ l.length → 0 ≤ sumN (fun r => l.getD r 0) i ∧ sumN (fun r => l.getD r 0) i ≤ 99 * i
  | 0, _ => by simp [sumN]
  | i + 1, hi => by
    have h1 := sumP_b h hl i (by omega)
    have h2 := h _ (getD_mem (z := 0) (show i < l.length by omega))
    simp only [sumN]
    push_cast
    omega
/-- What Most, Plan and Proof return. -/
def MostR (ps : List Int) (qs : List S45) (m N : Int) : Prop := (chkE ps qs m = 0 → IsMost ps qs m.toNat N) ∧ (¬ chkE ps qs m = 0 → N = 0)
theorem mostR_no {ps : List Int} {qs : List S45} {m : Int} (h : ¬ chkE ps qs m = 0) : MostR ps qs m 0 := ⟨fun k => absurd k h, fun _ => rfl⟩
theorem mostR_yes {ps : List Int} {qs : List S45} {m N : Int} (h : chkE ps qs m = 0) (k : IsMost ps qs m.toNat N) : MostR ps qs m N := ⟨fun _ => k, fun n => absurd h n⟩
set_option maxRecDepth 100000 in
set_option maxHeartbeats 8000000 in

theorem check15 (ps : List Int) (qs : List S45) (A B : Option Addr) (c d : Nat) (w : World) (hP : Kd.C kI w A ps.length ps) (hQ : Kd.C k45 w B qs.length qs) (hn1 : ps.length ≤ 1000000) (hn2 : qs.length ≤ 1000000) :
    Calls Try.prog 15 #[hv ps qs A B c d] w fun e w' => e = .returned (.int .i64 (checkE ps qs)) ∧ Below w.heap.size w w' := by
  have hu3 := Try.underlying3
  have hu22 := Try.underlying22
  have hu23 := Try.underlying23
  have hu25 := Try.underlying25
  have hu45 := Try.underlying45
  obtain ⟨z3, o3⟩ := info_some info3s (by decide)
  obtain ⟨z22, o22⟩ := info_some info22s (by decide)
  obtain ⟨z23, o23⟩ := info_some info23s (by decide)
  obtain ⟨z25, o25⟩ := info_some info25s (by decide)
  obtain ⟨z45, o45⟩ := info_some info45s (by decide)
  refine E.enter (N := 80) Try.func15 rfl Try.ntmps15 (args := [hv ps qs A B c d]) (by simp) ?_
  have L := Below.refl w.heap.size w
  refine E.CG.seq ?_
  refine E.CG.list ?_
  refine E.GL.st rfl rfl rfl (E.ST.box rfl rfl fun g1 w1 e1 b1 l1 => ?_)
  have h1_L : w.heap.size ≤ g1 := by rw [e1]; exact L.size
  replace L := below_step L l1
  refine E.GL.run rfl rfl rfl (E.Runs.assign rfl rfl) ?_
  refine E.GL.done ?_
  refine E.QG.code ?_
  refine E.CG.seq ?_
  refine E.CG.seq ?_
  refine E.CG.list ?_
  refine E.GL.run rfl rfl rfl (E.Runs.fieldAddr rfl rfl hu25 rfl (by assumption) rfl) ?_
  refine E.GL.run rfl rfl rfl (E.Runs.load1 rfl rfl hu22 rfl (by first | assumption | exact E.blkc (by assumption) rfl | exact pw_cell_below L (by assumption))) ?_
  refine E.GL.run rfl rfl rfl (E.Runs.len rfl rfl hu22) ?_
  by_cases h9 : inR ps.length 1 6
  · refine E.GL.st rfl rfl rfl (E.ST.call rfl ent44 (E.evc rfl (E.evc rfl (E.evc rfl E.evn))) ((within_r ps.length 1 6 true (iff_of_true rfl h9) _).mono ?_))
    rintro e w9 ⟨rfl, l9⟩
    refine ⟨_, rfl, ?_⟩
    replace b1 := blk_below b1 l9
    replace L := below_step L l9
    refine E.GL.run rfl rfl rfl (E.Runs.not rfl rfl) ?_
    refine E.GL.run rfl rfl rfl (E.Runs.move rfl rfl) ?_
    refine E.GL.run rfl rfl rfl (E.Runs.fieldAddr rfl rfl hu25 rfl (by assumption) rfl) ?_
    refine E.GL.run rfl rfl rfl (E.Runs.load1 rfl rfl hu23 rfl (by first | assumption | exact E.blkc (by assumption) rfl | exact pw_cell_below L (by assumption))) ?_
    refine E.GL.run rfl rfl rfl (E.Runs.len rfl rfl hu23) ?_
    refine E.GL.cmp rfl rfl rfl (fun _ h => (E.Runs.gtr rfl rfl rfl h)) (fun h15 => ?_) (fun h15 => ?_)
    · refine E.GL.run rfl rfl rfl (E.Runs.pick_f rfl rfl rfl) ?_
      refine E.GL.done ?_
      refine E.QG.code ?_
      refine E.CG.cond_t rfl ?_
      refine E.CG.seq ?_
      refine E.CG.list ?_
      refine E.GL.run rfl rfl rfl (E.Runs.assign rfl rfl) ?_
      refine E.GL.done ?_
      refine E.QG.code ?_
      refine E.CG.ret ?_
      refine E.QG.pass_ret ?_
      exact E.QG.result rfl rfl ⟨by rw [checkE_no (fun k => by have := k.q12; omega)], L⟩
    · refine E.GL.run rfl rfl rfl (E.Runs.pick_f rfl rfl rfl) ?_
      refine E.GL.done ?_
      refine E.QG.code ?_
      refine E.CG.cond_f rfl ?_
      refine E.CG.skip ?_
      refine E.QG.code ?_
      refine E.CG.seq ?_
      refine E.CG.seq ?_
      refine E.CG.list ?_
      refine E.GL.run rfl rfl rfl (E.Runs.assign rfl rfl) ?_
      refine E.GL.done ?_
      refine E.QG.code ?_
      refine E.CG.block ?_
      have s4_b1 := b1
      have s4_L := L
      refine E.CG.loop (fun (i : Nat) => [(1, .pointer (some ⟨g1, 0, none⟩)), (3, .int .i64 i)]) (fun i w' => i ≤ ps.length ∧ w'.heap[g1]? = some (.cells #[.slice A ps.length c, .slice B qs.length d] 25 (0, 0)) ∧ Below w.heap.size w w' ∧ ∀ k, k < i → ∀ x, ps[k]? = some x → 0 ≤ x ∧ x ≤ 99) (fun i => ps.length - i) 0 (E.subc rfl (E.subc rfl E.subn)) ⟨Nat.zero_le _, b1, L, fun k hk => by omega⟩ ?_
      rintro i w4 ⟨hi, b1, L, hok⟩
      refine E.CG.seq ?_
      refine E.CG.seq ?_
      refine E.CG.list ?_
      refine E.GL.run rfl rfl rfl (E.Runs.move rfl rfl) ?_
      refine E.GL.run rfl rfl rfl (E.Runs.fieldAddr rfl rfl hu25 rfl (by assumption) rfl) ?_
      refine E.GL.run rfl rfl rfl (E.Runs.load1 rfl rfl hu22 rfl (by first | assumption | exact E.blkc (by assumption) rfl | exact pw_cell_below L (by assumption))) ?_
      refine E.GL.run rfl rfl rfl (E.Runs.len rfl rfl hu22) ?_
      refine E.GL.cmp rfl rfl rfl (fun _ h => (E.Runs.lss rfl rfl rfl h)) (fun h21 => ?_) (fun h21 => ?_)
      · obtain ⟨x, hx⟩ : ∃ x, ps[i]? = some x := ⟨_, List.getElem?_eq_getElem (by omega)⟩
        obtain ⟨ad, eA, X⟩ := int_at hP hx
        refine E.GL.done ?_
        refine E.QG.code ?_
        refine E.CG.cond_t rfl ?_
        refine E.CG.skip ?_
        refine E.QG.code ?_
        refine E.CG.seq ?_
        refine E.CG.block ?_
        refine E.CG.seq ?_
        refine E.CG.list ?_
        refine E.GL.run rfl rfl rfl (E.Runs.fieldAddr rfl rfl hu25 rfl (by assumption) rfl) ?_
        refine E.GL.run rfl rfl rfl (E.Runs.load1 rfl rfl hu22 rfl (by first | assumption | exact E.blkc (by assumption) rfl | exact pw_cell_below L (by assumption))) ?_
        refine E.GL.run rfl rfl rfl (E.Runs.move rfl rfl) ?_
        refine E.GL.run rfl rfl rfl (E.Runs.indexAddrA rfl rfl rfl hu22 z3 o3 (show (i : Int) < ps.length by omega) eA rfl) ?_
        refine E.GL.run rfl rfl rfl (E.Runs.load rfl rfl hu3 (pw_cell_below L X)) ?_
        by_cases h29 : inR x 0 99
        · refine E.GL.st rfl rfl rfl (E.ST.call rfl ent44 (E.evc rfl (E.evc rfl (E.evc rfl E.evn))) ((within_r x 0 99 true (iff_of_true rfl h29) _).mono ?_))
          rintro e w29 ⟨rfl, l29⟩
          refine ⟨_, rfl, ?_⟩
          replace b1 := blk_below b1 l29
          replace L := below_step L l29
          refine E.GL.run rfl rfl rfl (E.Runs.not rfl rfl) ?_
          refine E.GL.done ?_
          refine E.QG.code ?_
          refine E.CG.cond_f rfl ?_
          refine E.CG.skip ?_
          refine E.QG.block_normal ?_
          refine E.QG.code ?_
          refine E.CG.list ?_
          refine E.GL.run rfl rfl rfl (E.Runs.move rfl rfl) ?_
          refine E.GL.run rfl rfl rfl (E.Runs.add rfl rfl rfl (IntWalk.i64_in _ (by omega))) ?_
          refine E.GL.run rfl rfl rfl (E.Runs.assign rfl rfl) ?_
          refine E.GL.done ?_
          exact E.QG.round (i + 1) (E.subc rfl (E.subc rfl E.subn)) ⟨by omega, b1, L, all_more hok hx h29⟩ (by omega)
        · refine E.GL.st rfl rfl rfl (E.ST.call rfl ent44 (E.evc rfl (E.evc rfl (E.evc rfl E.evn))) ((within_r x 0 99 false (iff_of_false Bool.false_ne_true h29) _).mono ?_))
          rintro e w29 ⟨rfl, l29⟩
          refine ⟨_, rfl, ?_⟩
          replace b1 := blk_below b1 l29
          replace L := below_step L l29
          refine E.GL.run rfl rfl rfl (E.Runs.not rfl rfl) ?_
          refine E.GL.done ?_
          refine E.QG.code ?_
          refine E.CG.cond_t rfl ?_
          refine E.CG.seq ?_
          refine E.CG.list ?_
          refine E.GL.run rfl rfl rfl (E.Runs.assign rfl rfl) ?_
          refine E.GL.done ?_
          refine E.QG.code ?_
          refine E.CG.ret ?_
          refine E.QG.block_ret ?_
          refine E.QG.pass_ret ?_
          refine E.QG.pass_ret ?_
          refine E.QG.block_ret ?_
          refine E.QG.pass_ret ?_
          exact E.QG.result rfl rfl ⟨by rw [checkE_no (fun k => h29 (k.p x (List.mem_of_getElem? hx)))], L⟩
      · have hpo : PsOk ps := all_done hok (by omega)
        refine E.GL.done ?_
        refine E.QG.code ?_
        refine E.CG.cond_f rfl ?_
        refine E.CG.exit ?_
        refine E.QG.pass_exit ?_
        refine E.QG.pass_exit ?_
        refine E.QG.block_here ?_
        refine E.QG.code ?_
        refine E.CG.seq ?_
        refine E.CG.seq ?_
        refine E.CG.list ?_
        refine E.GL.run rfl rfl rfl (E.Runs.assign rfl rfl) ?_
        refine E.GL.done ?_
        refine E.QG.code ?_
        refine E.CG.block ?_
        have s9_b1 := b1
        have s9_L := L
        refine E.CG.loop (fun (i : Nat) => [(1, .pointer (some ⟨g1, 0, none⟩)), (4, .int .i64 i)]) (fun i w' => i ≤ qs.length ∧ w'.heap[g1]? = some (.cells #[.slice A ps.length c, .slice B qs.length d] 25 (0, 0)) ∧ Below w.heap.size w w' ∧ ∀ k, k < i → ∀ x, qs[k]? = some x → QOk ps.length x) (fun i => qs.length - i) 0 (E.subc rfl (E.subc rfl E.subn)) ⟨Nat.zero_le _, b1, L, fun k hk => by omega⟩ ?_
        rintro i w9 ⟨hi2, b1, L, hok2⟩
        refine E.CG.seq ?_
        refine E.CG.seq ?_
        refine E.CG.list ?_
        refine E.GL.run rfl rfl rfl (E.Runs.move rfl rfl) ?_
        refine E.GL.run rfl rfl rfl (E.Runs.fieldAddr rfl rfl hu25 rfl (by assumption) rfl) ?_
        refine E.GL.run rfl rfl rfl (E.Runs.load1 rfl rfl hu23 rfl (by first | assumption | exact E.blkc (by assumption) rfl | exact pw_cell_below L (by assumption))) ?_
        refine E.GL.run rfl rfl rfl (E.Runs.len rfl rfl hu23) ?_
        refine E.GL.cmp rfl rfl rfl (fun _ h => (E.Runs.lss rfl rfl rfl h)) (fun h35 => ?_) (fun h35 => ?_)
        · obtain ⟨q, hx⟩ : ∃ x, qs[i]? = some x := ⟨_, List.getElem?_eq_getElem (by omega)⟩
          obtain ⟨ad, eA, X⟩ := pass_at hQ hx
          refine E.GL.done ?_
          refine E.QG.code ?_
          refine E.CG.cond_t rfl ?_
          refine E.CG.skip ?_
          refine E.QG.code ?_
          refine E.CG.seq ?_
          refine E.CG.block ?_
          refine E.CG.seq ?_
          refine E.CG.list ?_
          refine E.GL.run rfl rfl rfl (E.Runs.fieldAddr rfl rfl hu25 rfl (by assumption) rfl) ?_
          refine E.GL.run rfl rfl rfl (E.Runs.load1 rfl rfl hu23 rfl (by first | assumption | exact E.blkc (by assumption) rfl | exact pw_cell_below L (by assumption))) ?_
          refine E.GL.run rfl rfl rfl (E.Runs.move rfl rfl) ?_
          refine E.GL.run rfl rfl rfl (E.Runs.indexAddrA rfl rfl rfl hu23 z45 o45 (show (i : Int) < qs.length by omega) eA rfl) ?_
          refine E.GL.run rfl rfl rfl (E.Runs.loads (cs := [.int .i64 q.f0, .int .i64 q.f1, .int .i64 q.f2, .int .i64 q.f3]) rfl rfl hu45 rfl info45s (fun j v hv => pw_cell_below L (X j v hv))) ?_
          refine E.GL.st rfl rfl rfl (E.ST.alloc rfl info45z fun g5 w5 e5 b5 l5 => ?_)
          have h5_L : w.heap.size ≤ g5 := by rw [e5]; exact L.size
          have n5_b1 : g1 ≠ g5 := by have := blk_lt b1; omega
          replace b1 := blk_below b1 l5
          replace L := below_step L l5
          refine E.GL.store_whole rfl rfl rfl rfl rfl b5 rfl info45s (four_one _ _ _ _) fun wS11_6 c5 lS11_6 => ?_
          replace b1 := blk_grown b1 lS11_6 (E.nes (by first | assumption | exact Ne.symm (by assumption)))
          replace L := E.below_own L h5_L lS11_6
          replace b5 := c5
          clear c5
          refine E.GL.done ?_
          refine E.QG.code ?_
          refine E.CG.seq ?_
          refine E.CG.list ?_
          refine E.GL.run rfl rfl rfl (E.Runs.fieldAddr rfl rfl hu45 rfl (by assumption) rfl) ?_
          refine E.GL.run rfl rfl rfl (E.Runs.load rfl rfl hu3 (by first | assumption | exact E.blkc (by assumption) rfl | exact pw_cell_below L (by assumption))) ?_
          refine E.GL.run rfl rfl rfl (E.Runs.fieldAddr rfl rfl hu25 rfl (by assumption) rfl) ?_
          refine E.GL.run rfl rfl rfl (E.Runs.load1 rfl rfl hu22 rfl (by first | assumption | exact E.blkc (by assumption) rfl | exact pw_cell_below L (by assumption))) ?_
          refine E.GL.run rfl rfl rfl (E.Runs.len rfl rfl hu22) ?_
          refine E.GL.run rfl rfl rfl (E.Runs.sub rfl rfl rfl (IntWalk.i64_in _ (by omega))) ?_
          by_cases h49 : inR q.f0 0 (ps.length - 1)
          · refine E.GL.st rfl rfl rfl (E.ST.call rfl ent44 (E.evc rfl (E.evc rfl (E.evc rfl E.evn))) ((within_r q.f0 0 (ps.length - 1) true (iff_of_true rfl h49) _).mono ?_))
            rintro e w49 ⟨rfl, l49⟩
            refine ⟨_, rfl, ?_⟩
            replace b1 := blk_below b1 l49
            replace b5 := blk_below b5 l49
            replace L := below_step L l49
            refine E.GL.run rfl rfl rfl (E.Runs.not rfl rfl) ?_
            refine E.GL.run rfl rfl rfl (E.Runs.move rfl rfl) ?_
            refine E.GL.run rfl rfl rfl (E.Runs.fieldAddr rfl rfl hu45 rfl (by assumption) rfl) ?_
            refine E.GL.run rfl rfl rfl (E.Runs.load rfl rfl hu3 (by first | assumption | exact E.blkc (by assumption) rfl | exact pw_cell_below L (by assumption))) ?_
            refine E.GL.run rfl rfl rfl (E.Runs.fieldAddr rfl rfl hu25 rfl (by assumption) rfl) ?_
            refine E.GL.run rfl rfl rfl (E.Runs.load1 rfl rfl hu22 rfl (by first | assumption | exact E.blkc (by assumption) rfl | exact pw_cell_below L (by assumption))) ?_
            refine E.GL.run rfl rfl rfl (E.Runs.len rfl rfl hu22) ?_
            refine E.GL.run rfl rfl rfl (E.Runs.sub rfl rfl rfl (IntWalk.i64_in _ (by omega))) ?_
            by_cases h58 : inR q.f1 (-1) (ps.length - 1)
            · refine E.GL.st rfl rfl rfl (E.ST.call rfl ent44 (E.evc rfl (E.evc rfl (E.evc rfl E.evn))) ((within_r q.f1 (-1) (ps.length - 1) true (iff_of_true rfl h58) _).mono ?_))
              rintro e w58 ⟨rfl, l58⟩
              refine ⟨_, rfl, ?_⟩
              replace b1 := blk_below b1 l58
              replace b5 := blk_below b5 l58
              replace L := below_step L l58
              refine E.GL.run rfl rfl rfl (E.Runs.not rfl rfl) ?_
              refine E.GL.run rfl rfl rfl (E.Runs.pick_f rfl rfl rfl) ?_
              refine E.GL.run rfl rfl rfl (E.Runs.move rfl rfl) ?_
              refine E.GL.run rfl rfl rfl (E.Runs.fieldAddr rfl rfl hu45 rfl (by assumption) rfl) ?_
              refine E.GL.run rfl rfl rfl (E.Runs.load rfl rfl hu3 (by first | assumption | exact E.blkc (by assumption) rfl | exact pw_cell_below L (by assumption))) ?_
              refine E.GL.run rfl rfl rfl (E.Runs.fieldAddr rfl rfl hu45 rfl (by assumption) rfl) ?_
              refine E.GL.run rfl rfl rfl (E.Runs.load rfl rfl hu3 (by first | assumption | exact E.blkc (by assumption) rfl | exact pw_cell_below L (by assumption))) ?_
              refine E.GL.cmp rfl rfl rfl (fun _ h => (E.Runs.eql rfl rfl rfl h)) (fun h66 => ?_) (fun h66 => ?_)
              · refine E.GL.run rfl rfl rfl (E.Runs.pick_f rfl rfl rfl) ?_
                refine E.GL.run rfl rfl rfl (E.Runs.move rfl rfl) ?_
                refine E.GL.skip rfl rfl rfl ?_
                refine E.GL.skip rfl rfl rfl ?_
                refine E.GL.skip rfl rfl rfl ?_
                refine E.GL.skip rfl rfl rfl ?_
                refine E.GL.run rfl rfl rfl (E.Runs.pick_t rfl rfl rfl) ?_
                refine E.GL.run rfl rfl rfl (E.Runs.move rfl rfl) ?_
                refine E.GL.skip rfl rfl rfl ?_
                refine E.GL.skip rfl rfl rfl ?_
                refine E.GL.skip rfl rfl rfl ?_
                refine E.GL.skip rfl rfl rfl ?_
                refine E.GL.run rfl rfl rfl (E.Runs.pick_t rfl rfl rfl) ?_
                refine E.GL.done ?_
                refine E.QG.code ?_
                refine E.CG.cond_t rfl ?_
                refine E.CG.seq ?_
                refine E.CG.list ?_
                refine E.GL.run rfl rfl rfl (E.Runs.assign rfl rfl) ?_
                refine E.GL.done ?_
                refine E.QG.code ?_
                refine E.CG.ret ?_
                refine E.QG.block_ret ?_
                refine E.QG.pass_ret ?_
                refine E.QG.pass_ret ?_
                refine E.QG.block_ret ?_
                refine E.QG.pass_ret ?_
                have hq : ¬ QOk ps.length q := by unfold QOk; unfold inR at *; omega
                exact E.QG.result rfl rfl ⟨by rw [checkE_no (fun k => hq (k.q q (List.mem_of_getElem? hx)))], L⟩
              · refine E.GL.run rfl rfl rfl (E.Runs.pick_f rfl rfl rfl) ?_
                refine E.GL.run rfl rfl rfl (E.Runs.move rfl rfl) ?_
                refine E.GL.run rfl rfl rfl (E.Runs.fieldAddr rfl rfl hu45 rfl (by assumption) rfl) ?_
                refine E.GL.run rfl rfl rfl (E.Runs.load rfl rfl hu3 (by first | assumption | exact E.blkc (by assumption) rfl | exact pw_cell_below L (by assumption))) ?_
                by_cases h71 : inR q.f2 0 20
                · refine E.GL.st rfl rfl rfl (E.ST.call rfl ent44 (E.evc rfl (E.evc rfl (E.evc rfl E.evn))) ((within_r q.f2 0 20 true (iff_of_true rfl h71) _).mono ?_))
                  rintro e w71 ⟨rfl, l71⟩
                  refine ⟨_, rfl, ?_⟩
                  replace b1 := blk_below b1 l71
                  replace b5 := blk_below b5 l71
                  replace L := below_step L l71
                  refine E.GL.run rfl rfl rfl (E.Runs.not rfl rfl) ?_
                  refine E.GL.run rfl rfl rfl (E.Runs.pick_f rfl rfl rfl) ?_
                  refine E.GL.run rfl rfl rfl (E.Runs.move rfl rfl) ?_
                  refine E.GL.run rfl rfl rfl (E.Runs.fieldAddr rfl rfl hu45 rfl (by assumption) rfl) ?_
                  refine E.GL.run rfl rfl rfl (E.Runs.load rfl rfl hu3 (by first | assumption | exact E.blkc (by assumption) rfl | exact pw_cell_below L (by assumption))) ?_
                  by_cases h77 : inR q.f3 1 9
                  · refine E.GL.st rfl rfl rfl (E.ST.call rfl ent44 (E.evc rfl (E.evc rfl (E.evc rfl E.evn))) ((within_r q.f3 1 9 true (iff_of_true rfl h77) _).mono ?_))
                    rintro e w77 ⟨rfl, l77⟩
                    refine ⟨_, rfl, ?_⟩
                    replace b1 := blk_below b1 l77
                    replace b5 := blk_below b5 l77
                    replace L := below_step L l77
                    refine E.GL.run rfl rfl rfl (E.Runs.not rfl rfl) ?_
                    refine E.GL.run rfl rfl rfl (E.Runs.pick_f rfl rfl rfl) ?_
                    refine E.GL.done ?_
                    refine E.QG.code ?_
                    refine E.CG.cond_f rfl ?_
                    refine E.CG.skip ?_
                    refine E.QG.block_normal ?_
                    refine E.QG.code ?_
                    refine E.CG.list ?_
                    refine E.GL.run rfl rfl rfl (E.Runs.move rfl rfl) ?_
                    refine E.GL.run rfl rfl rfl (E.Runs.add rfl rfl rfl (IntWalk.i64_in _ (by omega))) ?_
                    refine E.GL.run rfl rfl rfl (E.Runs.assign rfl rfl) ?_
                    refine E.GL.done ?_
                    exact E.QG.round (i + 1) (E.subc rfl (E.subc rfl E.subn)) ⟨by omega, b1, L, all_more hok2 hx (by unfold QOk; unfold inR at h49 h58 h71 h77; omega)⟩ (by omega)
                  · refine E.GL.st rfl rfl rfl (E.ST.call rfl ent44 (E.evc rfl (E.evc rfl (E.evc rfl E.evn))) ((within_r q.f3 1 9 false (iff_of_false Bool.false_ne_true h77) _).mono ?_))
                    rintro e w77 ⟨rfl, l77⟩
                    refine ⟨_, rfl, ?_⟩
                    replace b1 := blk_below b1 l77
                    replace b5 := blk_below b5 l77
                    replace L := below_step L l77
                    refine E.GL.run rfl rfl rfl (E.Runs.not rfl rfl) ?_
                    refine E.GL.run rfl rfl rfl (E.Runs.pick_f rfl rfl rfl) ?_
                    refine E.GL.done ?_
                    refine E.QG.code ?_
                    refine E.CG.cond_t rfl ?_
                    refine E.CG.seq ?_
                    refine E.CG.list ?_
                    refine E.GL.run rfl rfl rfl (E.Runs.assign rfl rfl) ?_
                    refine E.GL.done ?_
                    refine E.QG.code ?_
                    refine E.CG.ret ?_
                    refine E.QG.block_ret ?_
                    refine E.QG.pass_ret ?_
                    refine E.QG.pass_ret ?_
                    refine E.QG.block_ret ?_
                    refine E.QG.pass_ret ?_
                    have hq : ¬ QOk ps.length q := by unfold QOk; unfold inR at *; omega
                    exact E.QG.result rfl rfl ⟨by rw [checkE_no (fun k => hq (k.q q (List.mem_of_getElem? hx)))], L⟩
                · refine E.GL.st rfl rfl rfl (E.ST.call rfl ent44 (E.evc rfl (E.evc rfl (E.evc rfl E.evn))) ((within_r q.f2 0 20 false (iff_of_false Bool.false_ne_true h71) _).mono ?_))
                  rintro e w71 ⟨rfl, l71⟩
                  refine ⟨_, rfl, ?_⟩
                  replace b1 := blk_below b1 l71
                  replace b5 := blk_below b5 l71
                  replace L := below_step L l71
                  refine E.GL.run rfl rfl rfl (E.Runs.not rfl rfl) ?_
                  refine E.GL.run rfl rfl rfl (E.Runs.pick_f rfl rfl rfl) ?_
                  refine E.GL.run rfl rfl rfl (E.Runs.move rfl rfl) ?_
                  refine E.GL.skip rfl rfl rfl ?_
                  refine E.GL.skip rfl rfl rfl ?_
                  refine E.GL.skip rfl rfl rfl ?_
                  refine E.GL.skip rfl rfl rfl ?_
                  refine E.GL.run rfl rfl rfl (E.Runs.pick_t rfl rfl rfl) ?_
                  refine E.GL.done ?_
                  refine E.QG.code ?_
                  refine E.CG.cond_t rfl ?_
                  refine E.CG.seq ?_
                  refine E.CG.list ?_
                  refine E.GL.run rfl rfl rfl (E.Runs.assign rfl rfl) ?_
                  refine E.GL.done ?_
                  refine E.QG.code ?_
                  refine E.CG.ret ?_
                  refine E.QG.block_ret ?_
                  refine E.QG.pass_ret ?_
                  refine E.QG.pass_ret ?_
                  refine E.QG.block_ret ?_
                  refine E.QG.pass_ret ?_
                  have hq : ¬ QOk ps.length q := by unfold QOk; unfold inR at *; omega
                  exact E.QG.result rfl rfl ⟨by rw [checkE_no (fun k => hq (k.q q (List.mem_of_getElem? hx)))], L⟩
            · refine E.GL.st rfl rfl rfl (E.ST.call rfl ent44 (E.evc rfl (E.evc rfl (E.evc rfl E.evn))) ((within_r q.f1 (-1) (ps.length - 1) false (iff_of_false Bool.false_ne_true h58) _).mono ?_))
              rintro e w58 ⟨rfl, l58⟩
              refine ⟨_, rfl, ?_⟩
              replace b1 := blk_below b1 l58
              replace b5 := blk_below b5 l58
              replace L := below_step L l58
              refine E.GL.run rfl rfl rfl (E.Runs.not rfl rfl) ?_
              refine E.GL.run rfl rfl rfl (E.Runs.pick_f rfl rfl rfl) ?_
              refine E.GL.run rfl rfl rfl (E.Runs.move rfl rfl) ?_
              refine E.GL.skip rfl rfl rfl ?_
              refine E.GL.skip rfl rfl rfl ?_
              refine E.GL.skip rfl rfl rfl ?_
              refine E.GL.skip rfl rfl rfl ?_
              refine E.GL.skip rfl rfl rfl ?_
              refine E.GL.run rfl rfl rfl (E.Runs.pick_t rfl rfl rfl) ?_
              refine E.GL.run rfl rfl rfl (E.Runs.move rfl rfl) ?_
              refine E.GL.skip rfl rfl rfl ?_
              refine E.GL.skip rfl rfl rfl ?_
              refine E.GL.skip rfl rfl rfl ?_
              refine E.GL.skip rfl rfl rfl ?_
              refine E.GL.run rfl rfl rfl (E.Runs.pick_t rfl rfl rfl) ?_
              refine E.GL.run rfl rfl rfl (E.Runs.move rfl rfl) ?_
              refine E.GL.skip rfl rfl rfl ?_
              refine E.GL.skip rfl rfl rfl ?_
              refine E.GL.skip rfl rfl rfl ?_
              refine E.GL.skip rfl rfl rfl ?_
              refine E.GL.run rfl rfl rfl (E.Runs.pick_t rfl rfl rfl) ?_
              refine E.GL.done ?_
              refine E.QG.code ?_
              refine E.CG.cond_t rfl ?_
              refine E.CG.seq ?_
              refine E.CG.list ?_
              refine E.GL.run rfl rfl rfl (E.Runs.assign rfl rfl) ?_
              refine E.GL.done ?_
              refine E.QG.code ?_
              refine E.CG.ret ?_
              refine E.QG.block_ret ?_
              refine E.QG.pass_ret ?_
              refine E.QG.pass_ret ?_
              refine E.QG.block_ret ?_
              refine E.QG.pass_ret ?_
              have hq : ¬ QOk ps.length q := by unfold QOk; unfold inR at *; omega
              exact E.QG.result rfl rfl ⟨by rw [checkE_no (fun k => hq (k.q q (List.mem_of_getElem? hx)))], L⟩
          · refine E.GL.st rfl rfl rfl (E.ST.call rfl ent44 (E.evc rfl (E.evc rfl (E.evc rfl E.evn))) ((within_r q.f0 0 (ps.length - 1) false (iff_of_false Bool.false_ne_true h49) _).mono ?_))
            rintro e w49 ⟨rfl, l49⟩
            refine ⟨_, rfl, ?_⟩
            replace b1 := blk_below b1 l49
            replace b5 := blk_below b5 l49
            replace L := below_step L l49
            refine E.GL.run rfl rfl rfl (E.Runs.not rfl rfl) ?_
            refine E.GL.run rfl rfl rfl (E.Runs.move rfl rfl) ?_
            refine E.GL.skip rfl rfl rfl ?_
            refine E.GL.skip rfl rfl rfl ?_
            refine E.GL.skip rfl rfl rfl ?_
            refine E.GL.skip rfl rfl rfl ?_
            refine E.GL.skip rfl rfl rfl ?_
            refine E.GL.skip rfl rfl rfl ?_
            refine E.GL.skip rfl rfl rfl ?_
            refine E.GL.skip rfl rfl rfl ?_
            refine E.GL.run rfl rfl rfl (E.Runs.pick_t rfl rfl rfl) ?_
            refine E.GL.run rfl rfl rfl (E.Runs.move rfl rfl) ?_
            refine E.GL.skip rfl rfl rfl ?_
            refine E.GL.skip rfl rfl rfl ?_
            refine E.GL.skip rfl rfl rfl ?_
            refine E.GL.skip rfl rfl rfl ?_
            refine E.GL.skip rfl rfl rfl ?_
            refine E.GL.run rfl rfl rfl (E.Runs.pick_t rfl rfl rfl) ?_
            refine E.GL.run rfl rfl rfl (E.Runs.move rfl rfl) ?_
            refine E.GL.skip rfl rfl rfl ?_
            refine E.GL.skip rfl rfl rfl ?_
            refine E.GL.skip rfl rfl rfl ?_
            refine E.GL.skip rfl rfl rfl ?_
            refine E.GL.run rfl rfl rfl (E.Runs.pick_t rfl rfl rfl) ?_
            refine E.GL.run rfl rfl rfl (E.Runs.move rfl rfl) ?_
            refine E.GL.skip rfl rfl rfl ?_
            refine E.GL.skip rfl rfl rfl ?_
            refine E.GL.skip rfl rfl rfl ?_
            refine E.GL.skip rfl rfl rfl ?_
            refine E.GL.run rfl rfl rfl (E.Runs.pick_t rfl rfl rfl) ?_
            refine E.GL.done ?_
            refine E.QG.code ?_
            refine E.CG.cond_t rfl ?_
            refine E.CG.seq ?_
            refine E.CG.list ?_
            refine E.GL.run rfl rfl rfl (E.Runs.assign rfl rfl) ?_
            refine E.GL.done ?_
            refine E.QG.code ?_
            refine E.CG.ret ?_
            refine E.QG.block_ret ?_
            refine E.QG.pass_ret ?_
            refine E.QG.pass_ret ?_
            refine E.QG.block_ret ?_
            refine E.QG.pass_ret ?_
            have hq : ¬ QOk ps.length q := by unfold QOk; unfold inR at *; omega
            exact E.QG.result rfl rfl ⟨by rw [checkE_no (fun k => hq (k.q q (List.mem_of_getElem? hx)))], L⟩
        · refine E.GL.done ?_
          refine E.QG.code ?_
          refine E.CG.cond_f rfl ?_
          refine E.CG.exit ?_
          refine E.QG.pass_exit ?_
          refine E.QG.pass_exit ?_
          refine E.QG.block_here ?_
          refine E.QG.code ?_
          refine E.CG.seq ?_
          refine E.CG.list ?_
          refine E.GL.run rfl rfl rfl (E.Runs.assign rfl rfl) ?_
          refine E.GL.done ?_
          refine E.QG.code ?_
          refine E.CG.ret ?_
          exact E.QG.result rfl rfl ⟨by rw [checkE_yes ⟨by unfold inR at h9; omega, by unfold inR at h9; omega, by omega, hpo, all_done hok2 (by omega)⟩], L⟩
  · refine E.GL.st rfl rfl rfl (E.ST.call rfl ent44 (E.evc rfl (E.evc rfl (E.evc rfl E.evn))) ((within_r ps.length 1 6 false (iff_of_false Bool.false_ne_true h9) _).mono ?_))
    rintro e w9 ⟨rfl, l9⟩
    refine ⟨_, rfl, ?_⟩
    replace b1 := blk_below b1 l9
    replace L := below_step L l9
    refine E.GL.run rfl rfl rfl (E.Runs.not rfl rfl) ?_
    refine E.GL.run rfl rfl rfl (E.Runs.move rfl rfl) ?_
    refine E.GL.skip rfl rfl rfl ?_
    refine E.GL.skip rfl rfl rfl ?_
    refine E.GL.skip rfl rfl rfl ?_
    refine E.GL.skip rfl rfl rfl ?_
    refine E.GL.run rfl rfl rfl (E.Runs.pick_t rfl rfl rfl) ?_
    refine E.GL.done ?_
    refine E.QG.code ?_
    refine E.CG.cond_t rfl ?_
    refine E.CG.seq ?_
    refine E.CG.list ?_
    refine E.GL.run rfl rfl rfl (E.Runs.assign rfl rfl) ?_
    refine E.GL.done ?_
    refine E.QG.code ?_
    refine E.CG.ret ?_
    refine E.QG.pass_ret ?_
    exact E.QG.result rfl rfl ⟨by rw [checkE_no (fun k => h9 ⟨by have := k.r1; omega, by have := k.r6; omega⟩)], L⟩

set_option maxRecDepth 100000 in
set_option maxHeartbeats 8000000 in

theorem chk45 (ps : List Int) (qs : List S45) (A B : Option Addr) (c d : Nat) (w : World) (hP : Kd.C kI w A ps.length ps) (hQ : Kd.C k45 w B qs.length qs) (hn1 : ps.length ≤ 1000000) (hn2 : qs.length ≤ 1000000) (m : Int) :
    Calls Try.prog 45 #[hv ps qs A B c d, .int .i64 m] w fun e w' => e = .returned (.int .i64 (chkE ps qs m)) ∧ Below w.heap.size w w' := by
  have hu3 := Try.underlying3
  have hu25 := Try.underlying25
  obtain ⟨z3, o3⟩ := info_some info3s (by decide)
  obtain ⟨z25, o25⟩ := info_some info25s (by decide)
  refine E.enter (N := 14) Try.func45 rfl Try.ntmps45 (args := [hv ps qs A B c d, .int .i64 m]) (by simp) ?_
  have L := Below.refl w.heap.size w
  refine E.CG.seq ?_
  refine E.CG.list ?_
  refine E.GL.st rfl rfl rfl (E.ST.box rfl rfl fun g2 w2 e2 b2 l2 => ?_)
  have h2_L : w.heap.size ≤ g2 := by rw [e2]; exact L.size
  replace L := below_step L l2
  refine E.GL.run rfl rfl rfl (E.Runs.assign rfl rfl) ?_
  refine E.GL.done ?_
  refine E.QG.code ?_
  refine E.CG.seq ?_
  refine E.CG.seq ?_
  refine E.CG.list ?_
  refine E.GL.run rfl rfl rfl (E.Runs.loads (cs := [.slice A ps.length c, .slice B qs.length d]) rfl rfl hu25 rfl info25s (blk_cells b2)) ?_
  refine E.GL.st rfl rfl rfl (E.ST.call rfl ent14 (E.evc rfl E.evn) ((check14 ps qs A B c d _ (Kd.C_below hP L) (Kd.C_below hQ L) hn1 hn2).mono ?_))
  rintro e w7 ⟨rfl, l7⟩
  refine ⟨_, rfl, ?_⟩
  replace b2 := blk_below b2 l7
  replace L := below_step L l7
  refine E.GL.run rfl rfl rfl (E.Runs.assign rfl rfl) ?_
  refine E.GL.done ?_
  refine E.QG.code ?_
  refine E.CG.seq ?_
  refine E.CG.list ?_
  refine E.GL.run rfl rfl rfl (E.Runs.move rfl rfl) ?_
  refine E.GL.cmpn rfl rfl rfl (fun _ h => (E.Runs.neq rfl rfl rfl h)) (fun h9 => ?_) (fun h9 => ?_)
  · have hH : ¬ HOk ps qs := fun k => h9 (checkE_yes k)
    refine E.GL.done ?_
    refine E.QG.code ?_
    refine E.CG.cond_t rfl ?_
    refine E.CG.seq ?_
    refine E.CG.list ?_
    refine E.GL.run rfl rfl rfl (E.Runs.move rfl rfl) ?_
    refine E.GL.run rfl rfl rfl (E.Runs.assign rfl rfl) ?_
    refine E.GL.done ?_
    refine E.QG.code ?_
    refine E.CG.ret ?_
    refine E.QG.pass_ret ?_
    exact E.QG.result rfl rfl ⟨by rw [checkE_no hH]; unfold chkE; rw [if_neg hH], L⟩
  · have hH : HOk ps qs := checkE_ok.mp h9
    refine E.GL.done ?_
    refine E.QG.code ?_
    refine E.CG.cond_f rfl ?_
    refine E.CG.skip ?_
    refine E.QG.code ?_
    refine E.CG.seq ?_
    refine E.CG.seq ?_
    refine E.CG.list ?_
    refine E.GL.run rfl rfl rfl (E.Runs.move rfl rfl) ?_
    by_cases h12 : inR m 0 60
    · refine E.GL.st rfl rfl rfl (E.ST.call rfl ent38 (E.evc rfl (E.evc rfl (E.evc rfl E.evn))) ((within_o m 0 60 true (iff_of_true rfl h12) _).mono ?_))
      rintro e w12 ⟨rfl, l12⟩
      refine ⟨_, rfl, ?_⟩
      replace b2 := blk_below b2 l12
      replace L := below_step L l12
      refine E.GL.run rfl rfl rfl (E.Runs.not rfl rfl) ?_
      refine E.GL.done ?_
      refine E.QG.code ?_
      refine E.CG.cond_f rfl ?_
      refine E.CG.skip ?_
      refine E.QG.code ?_
      refine E.CG.seq ?_
      refine E.CG.list ?_
      refine E.GL.run rfl rfl rfl (E.Runs.assign rfl rfl) ?_
      refine E.GL.done ?_
      refine E.QG.code ?_
      refine E.CG.ret ?_
      exact E.QG.result rfl rfl ⟨by unfold chkE; rw [if_pos hH, if_pos h12], L⟩
    · refine E.GL.st rfl rfl rfl (E.ST.call rfl ent38 (E.evc rfl (E.evc rfl (E.evc rfl E.evn))) ((within_o m 0 60 false (iff_of_false Bool.false_ne_true h12) _).mono ?_))
      rintro e w12 ⟨rfl, l12⟩
      refine ⟨_, rfl, ?_⟩
      replace b2 := blk_below b2 l12
      replace L := below_step L l12
      refine E.GL.run rfl rfl rfl (E.Runs.not rfl rfl) ?_
      refine E.GL.done ?_
      refine E.QG.code ?_
      refine E.CG.cond_t rfl ?_
      refine E.CG.seq ?_
      refine E.CG.list ?_
      refine E.GL.run rfl rfl rfl (E.Runs.assign rfl rfl) ?_
      refine E.GL.done ?_
      refine E.QG.code ?_
      refine E.CG.ret ?_
      refine E.QG.pass_ret ?_
      exact E.QG.result rfl rfl ⟨by unfold chkE; rw [if_pos hH, if_neg h12], L⟩

set_option maxRecDepth 100000 in
set_option maxHeartbeats 8000000 in

theorem souls_calls (ps : List Int) (qs : List S45) (A B : Option Addr) (c d : Nat) (w : World) (hP : Kd.C kI w A ps.length ps) (hp : PsOk ps) (hn : ps.length ≤ 40) :
    Calls Try.prog 50 #[hv ps qs A B c d] w fun e w' => e = .returned (.int .i64 (allP ps)) ∧ Below w.heap.size w w' := by
  have hu3 := Try.underlying3
  have hu22 := Try.underlying22
  have hu25 := Try.underlying25
  obtain ⟨z3, o3⟩ := info_some info3s (by decide)
  obtain ⟨z22, o22⟩ := info_some info22s (by decide)
  refine E.enter (N := 17) Try.func50 rfl Try.ntmps50 (args := [hv ps qs A B c d]) (by simp) ?_
  have L := Below.refl w.heap.size w
  refine E.CG.seq ?_
  refine E.CG.list ?_
  refine E.GL.st rfl rfl rfl (E.ST.box rfl rfl fun g1 w1 e1 b1 l1 => ?_)
  have h1_L : w.heap.size ≤ g1 := by rw [e1]; exact L.size
  replace L := below_step L l1
  refine E.GL.run rfl rfl rfl (E.Runs.assign rfl rfl) ?_
  refine E.GL.done ?_
  refine E.QG.code ?_
  refine E.CG.seq ?_
  refine E.CG.seq ?_
  refine E.CG.list ?_
  refine E.GL.run rfl rfl rfl (E.Runs.fieldAddr rfl rfl hu25 rfl (by assumption) rfl) ?_
  refine E.GL.run rfl rfl rfl (E.Runs.load1 rfl rfl hu22 rfl (by first | assumption | exact E.blkc (by assumption) rfl | exact pw_cell_below L (by assumption))) ?_
  refine E.GL.run rfl rfl rfl (E.Runs.len rfl rfl hu22) ?_
  refine E.GL.run rfl rfl rfl (E.Runs.move rfl rfl) ?_
  refine E.GL.done ?_
  refine E.QG.code ?_
  refine E.CG.block ?_
  have s2_b1 := b1
  have s2_L := L
  refine E.CG.loop (fun (i : Nat) => [(2, .int .i64 (sumN (fun r => ps.getD r 0) i)), (6, .slice A ps.length c), (7, .int .i64 ps.length), (8, .int .i64 i)]) (fun i w' => i ≤ ps.length ∧ w'.heap[g1]? = some (.cells #[.slice A ps.length c, .slice B qs.length d] 25 (0, 0)) ∧ Below w.heap.size w w') (fun i => ps.length - i) 0 (E.subc rfl (E.subc rfl (E.subc rfl (E.subc rfl E.subn)))) ⟨Nat.zero_le _, b1, L⟩ ?_
  rintro i w2 ⟨hi, b1, L⟩
  refine E.CG.seq ?_
  refine E.CG.list ?_
  refine E.GL.cmp rfl rfl rfl (fun _ h => (E.Runs.lss rfl rfl rfl h)) (fun h9 => ?_) (fun h9 => ?_)
  · have hbs := sumP_b hp (by omega) i (by omega)
    have hxb := hp _ (getD_mem (z := 0) (show i < ps.length by omega))
    obtain ⟨ad, eA, X⟩ := int_at hP (getD_some (show i < ps.length by omega) 0)
    refine E.GL.done ?_
    refine E.QG.code ?_
    refine E.CG.seq ?_
    refine E.CG.cond_t rfl ?_
    refine E.CG.skip ?_
    refine E.QG.code ?_
    refine E.CG.seq ?_
    refine E.CG.block ?_
    refine E.CG.seq ?_
    refine E.CG.list ?_
    refine E.GL.run rfl rfl rfl (E.Runs.indexAddrA rfl rfl rfl hu22 z3 o3 (show (i : Int) < ps.length by omega) eA rfl) ?_
    refine E.GL.run rfl rfl rfl (E.Runs.load rfl rfl hu3 (pw_cell_below L X)) ?_
    refine E.GL.run rfl rfl rfl (E.Runs.assign rfl rfl) ?_
    refine E.GL.done ?_
    refine E.QG.code ?_
    refine E.CG.list ?_
    refine E.GL.run rfl rfl rfl (E.Runs.move rfl rfl) ?_
    refine E.GL.run rfl rfl rfl (E.Runs.move rfl rfl) ?_
    refine E.GL.run rfl rfl rfl (E.Runs.add rfl rfl rfl (IntWalk.i64_in _ (by omega))) ?_
    refine E.GL.run rfl rfl rfl (E.Runs.assign rfl rfl) ?_
    refine E.GL.done ?_
    refine E.QG.block_normal ?_
    refine E.QG.code ?_
    refine E.CG.list ?_
    refine E.GL.run rfl rfl rfl (E.Runs.add rfl rfl rfl (IntWalk.i64_in _ (by omega))) ?_
    refine E.GL.run rfl rfl rfl (E.Runs.move rfl rfl) ?_
    refine E.GL.done ?_
    exact E.QG.round (i + 1) (E.subc rfl (E.subc rfl (E.subc rfl (E.subc rfl E.subn)))) ⟨by omega, b1, L⟩ (by omega)
  · have hie : i = ps.length := by omega
    refine E.GL.done ?_
    refine E.QG.code ?_
    refine E.CG.seq ?_
    refine E.CG.cond_f rfl ?_
    refine E.CG.exit ?_
    refine E.QG.pass_exit ?_
    refine E.QG.pass_exit ?_
    refine E.QG.block_here ?_
    refine E.QG.code ?_
    refine E.CG.seq ?_
    refine E.CG.list ?_
    refine E.GL.run rfl rfl rfl (E.Runs.move rfl rfl) ?_
    refine E.GL.run rfl rfl rfl (E.Runs.assign rfl rfl) ?_
    refine E.GL.done ?_
    refine E.QG.code ?_
    refine E.CG.ret ?_
    exact E.QG.result rfl rfl ⟨by rw [hie]; rfl, L⟩

set_option maxRecDepth 100000 in
set_option maxHeartbeats 8000000 in

theorem all_calls (ps : List Int) (qs : List S45) (A B : Option Addr) (c d : Nat) (w : World) (hP : Kd.C kI w A ps.length ps) (hp : PsOk ps) (hn : ps.length ≤ 40) :
    Calls Try.prog 29 #[hv ps qs A B c d] w fun e w' => e = .returned (.int .i64 (allP ps)) ∧ Below w.heap.size w w' := by
  have hu3 := Try.underlying3
  have hu22 := Try.underlying22
  have hu25 := Try.underlying25
  obtain ⟨z3, o3⟩ := info_some info3s (by decide)
  obtain ⟨z22, o22⟩ := info_some info22s (by decide)
  refine E.enter (N := 20) Try.func29 rfl Try.ntmps29 (args := [hv ps qs A B c d]) (by simp) ?_
  have L := Below.refl w.heap.size w
  refine E.CG.seq ?_
  refine E.CG.list ?_
  refine E.GL.st rfl rfl rfl (E.ST.box rfl rfl fun g1 w1 e1 b1 l1 => ?_)
  have h1_L : w.heap.size ≤ g1 := by rw [e1]; exact L.size
  replace L := below_step L l1
  refine E.GL.run rfl rfl rfl (E.Runs.assign rfl rfl) ?_
  refine E.GL.done ?_
  refine E.QG.code ?_
  refine E.CG.seq ?_
  refine E.CG.list ?_
  refine E.GL.run rfl rfl rfl (E.Runs.assign rfl rfl) ?_
  refine E.GL.done ?_
  refine E.QG.code ?_
  refine E.CG.seq ?_
  refine E.CG.seq ?_
  refine E.CG.list ?_
  refine E.GL.run rfl rfl rfl (E.Runs.assign rfl rfl) ?_
  refine E.GL.done ?_
  refine E.QG.code ?_
  refine E.CG.block ?_
  have s3_b1 := b1
  have s3_L := L
  refine E.CG.loop (fun (i : Nat) => [(1, .pointer (some ⟨g1, 0, none⟩)), (3, .int .i64 (sumN (fun r => ps.getD r 0) i)), (4, .int .i64 i)]) (fun i w' => i ≤ ps.length ∧ w'.heap[g1]? = some (.cells #[.slice A ps.length c, .slice B qs.length d] 25 (0, 0)) ∧ Below w.heap.size w w') (fun i => ps.length - i) 0 (E.subc rfl (E.subc rfl (E.subc rfl E.subn))) ⟨Nat.zero_le _, b1, L⟩ ?_
  rintro i w3 ⟨hi, b1, L⟩
  refine E.CG.seq ?_
  refine E.CG.seq ?_
  refine E.CG.list ?_
  refine E.GL.run rfl rfl rfl (E.Runs.move rfl rfl) ?_
  refine E.GL.run rfl rfl rfl (E.Runs.fieldAddr rfl rfl hu25 rfl (by assumption) rfl) ?_
  refine E.GL.run rfl rfl rfl (E.Runs.load1 rfl rfl hu22 rfl (by first | assumption | exact E.blkc (by assumption) rfl | exact pw_cell_below L (by assumption))) ?_
  refine E.GL.run rfl rfl rfl (E.Runs.len rfl rfl hu22) ?_
  refine E.GL.cmp rfl rfl rfl (fun _ h => (E.Runs.lss rfl rfl rfl h)) (fun h9 => ?_) (fun h9 => ?_)
  · have hbs := sumP_b hp (by omega) i (by omega)
    have hxb := hp _ (getD_mem (z := 0) (show i < ps.length by omega))
    obtain ⟨ad, eA, X⟩ := int_at hP (getD_some (show i < ps.length by omega) 0)
    refine E.GL.done ?_
    refine E.QG.code ?_
    refine E.CG.cond_t rfl ?_
    refine E.CG.skip ?_
    refine E.QG.code ?_
    refine E.CG.seq ?_
    refine E.CG.block ?_
    refine E.CG.list ?_
    refine E.GL.run rfl rfl rfl (E.Runs.move rfl rfl) ?_
    refine E.GL.run rfl rfl rfl (E.Runs.fieldAddr rfl rfl hu25 rfl (by assumption) rfl) ?_
    refine E.GL.run rfl rfl rfl (E.Runs.load1 rfl rfl hu22 rfl (by first | assumption | exact E.blkc (by assumption) rfl | exact pw_cell_below L (by assumption))) ?_
    refine E.GL.run rfl rfl rfl (E.Runs.move rfl rfl) ?_
    refine E.GL.run rfl rfl rfl (E.Runs.indexAddrA rfl rfl rfl hu22 z3 o3 (show (i : Int) < ps.length by omega) eA rfl) ?_
    refine E.GL.run rfl rfl rfl (E.Runs.load rfl rfl hu3 (pw_cell_below L X)) ?_
    refine E.GL.run rfl rfl rfl (E.Runs.add rfl rfl rfl (IntWalk.i64_in _ (by omega))) ?_
    refine E.GL.run rfl rfl rfl (E.Runs.assign rfl rfl) ?_
    refine E.GL.done ?_
    refine E.QG.block_normal ?_
    refine E.QG.code ?_
    refine E.CG.list ?_
    refine E.GL.run rfl rfl rfl (E.Runs.move rfl rfl) ?_
    refine E.GL.run rfl rfl rfl (E.Runs.add rfl rfl rfl (IntWalk.i64_in _ (by omega))) ?_
    refine E.GL.run rfl rfl rfl (E.Runs.assign rfl rfl) ?_
    refine E.GL.done ?_
    exact E.QG.round (i + 1) (E.subc rfl (E.subc rfl (E.subc rfl E.subn))) ⟨by omega, b1, L⟩ (by omega)
  · have hie : i = ps.length := by omega
    refine E.GL.done ?_
    refine E.QG.code ?_
    refine E.CG.cond_f rfl ?_
    refine E.CG.exit ?_
    refine E.QG.pass_exit ?_
    refine E.QG.pass_exit ?_
    refine E.QG.block_here ?_
    refine E.QG.code ?_
    refine E.CG.seq ?_
    refine E.CG.list ?_
    refine E.GL.run rfl rfl rfl (E.Runs.move rfl rfl) ?_
    refine E.GL.run rfl rfl rfl (E.Runs.assign rfl rfl) ?_
    refine E.GL.done ?_
    refine E.QG.code ?_
    refine E.CG.ret ?_
    exact E.QG.result rfl rfl ⟨by rw [hie]; rfl, L⟩

set_option maxRecDepth 100000 in
set_option maxHeartbeats 8000000 in

theorem most_calls (ps : List Int) (qs : List S45) (A B : Option Addr) (c d : Nat) (w : World) (hP : Kd.C kI w A ps.length ps) (hQ : Kd.C k45 w B qs.length qs) (hn1 : ps.length ≤ 1000000) (hn2 : qs.length ≤ 1000000) (m : Int) :
    Calls Try.prog 28 #[hv ps qs A B c d, .int .i64 m] w fun e w' => ∃ N, e = .returned (.tuple #[.int .i64 N, .int .i64 (chkE ps qs m)]) ∧ MostR ps qs m N ∧ Below w.heap.size w w' := by
  have hu3 := Try.underlying3
  have hu25 := Try.underlying25
  have hu76 := Try.underlying76
  obtain ⟨z3, o3⟩ := info_some info3s (by decide)
  obtain ⟨z25, o25⟩ := info_some info25s (by decide)
  refine E.enter (N := 19) Try.func28 rfl Try.ntmps28 (args := [hv ps qs A B c d, .int .i64 m]) (by simp) ?_
  have L := Below.refl w.heap.size w
  refine E.CG.seq ?_
  refine E.CG.list ?_
  refine E.GL.st rfl rfl rfl (E.ST.box rfl rfl fun g2 w2 e2 b2 l2 => ?_)
  have h2_L : w.heap.size ≤ g2 := by rw [e2]; exact L.size
  replace L := below_step L l2
  refine E.GL.run rfl rfl rfl (E.Runs.assign rfl rfl) ?_
  refine E.GL.run rfl rfl rfl (E.Runs.assign rfl rfl) ?_
  refine E.GL.done ?_
  refine E.QG.code ?_
  refine E.CG.seq ?_
  refine E.CG.seq ?_
  refine E.CG.list ?_
  refine E.GL.run rfl rfl rfl (E.Runs.loads (cs := [.slice A ps.length c, .slice B qs.length d]) rfl rfl hu25 rfl info25s (blk_cells b2)) ?_
  refine E.GL.run rfl rfl rfl (E.Runs.move rfl rfl) ?_
  refine E.GL.st rfl rfl rfl (E.ST.call rfl ent45 (E.evc rfl (E.evc rfl E.evn)) ((chk45 ps qs A B c d _ (Kd.C_below hP L) (Kd.C_below hQ L) hn1 hn2 m).mono ?_))
  rintro e w9 ⟨rfl, l9⟩
  refine ⟨_, rfl, ?_⟩
  replace b2 := blk_below b2 l9
  replace L := below_step L l9
  refine E.GL.run rfl rfl rfl (E.Runs.assign rfl rfl) ?_
  refine E.GL.done ?_
  refine E.QG.code ?_
  refine E.CG.seq ?_
  refine E.CG.list ?_
  refine E.GL.run rfl rfl rfl (E.Runs.move rfl rfl) ?_
  refine E.GL.cmpn rfl rfl rfl (fun _ h => (E.Runs.neq rfl rfl rfl h)) (fun h11 => ?_) (fun h11 => ?_)
  · have hE0 : ¬ chkE ps qs m = 0 := h11
    refine E.GL.done ?_
    refine E.QG.code ?_
    refine E.CG.cond_t rfl ?_
    refine E.CG.seq ?_
    refine E.CG.list ?_
    refine E.GL.run rfl rfl rfl (E.Runs.move rfl rfl) ?_
    refine E.GL.run rfl rfl rfl (E.Runs.assign rfl rfl) ?_
    refine E.GL.run rfl rfl rfl (E.Runs.assign rfl rfl) ?_
    refine E.GL.done ?_
    refine E.QG.code ?_
    refine E.CG.ret ?_
    refine E.QG.pass_ret ?_
    exact E.QG.result2 rfl rfl rfl ⟨0, rfl, mostR_no hE0, L⟩
  · have hE0 := h11
    obtain ⟨hH, hm0, hm1⟩ := chkE_ok.mp h11
    obtain ⟨T, rfl⟩ : ∃ T : Nat, m = T := ⟨m.toNat, by omega⟩
    have hT : T ≤ 60 := by omega
    have hLs := L.size
    refine E.GL.done ?_
    refine E.QG.code ?_
    refine E.CG.cond_f rfl ?_
    refine E.CG.skip ?_
    refine E.QG.code ?_
    refine E.CG.seq ?_
    refine E.CG.list ?_
    refine E.GL.run rfl rfl rfl (E.Runs.loads (cs := [.slice A ps.length c, .slice B qs.length d]) rfl rfl hu25 rfl info25s (blk_cells b2)) ?_
    refine E.GL.run rfl rfl rfl (E.Runs.move rfl rfl) ?_
    refine E.GL.st rfl rfl rfl (E.ST.call rfl ent51 (E.evc rfl (E.evc rfl E.evn)) ((flow_calls ps qs T A B c d _ hH hT (Kd.C_below hP L) (Kd.C_below hQ L)).mono ?_))
    rintro e w15 ⟨gN, gE, out, f, rfl, hN, hM, l15⟩
    refine ⟨_, rfl, ?_⟩
    replace b2 := blk_below b2 l15
    replace L := below_step L l15
    have hLs15 := L.size
    refine E.GL.run rfl rfl rfl (E.Runs.nilCheck rfl rfl) ?_
    refine E.GL.run rfl rfl rfl (E.Runs.fieldAddr rfl rfl hu76 rfl (by assumption) rfl) ?_
    refine E.GL.run rfl rfl rfl (E.Runs.load rfl rfl hu3 (E.blkc hN.blk rfl)) ?_
    refine E.GL.run rfl rfl rfl (E.Runs.assign rfl rfl) ?_
    refine E.GL.run rfl rfl rfl (E.Runs.assign rfl rfl) ?_
    refine E.GL.done ?_
    refine E.QG.code ?_
    refine E.CG.ret ?_
    exact E.QG.result2 rfl rfl rfl ⟨out, by rw [hE0], mostR_yes hE0 (hM.most hH), L⟩

end Go.Proofs.Ytmnjlnkfihklgaa.T
namespace Go.Proofs.Ytmnjlnkfihklgaa.T
open Go.RowKit Go.Proofs.YtmnjlnkfihklgaaW.PrintWords Go.Proofs.YtmnjlnkfihklgaaW.PrintMore
open Go.Proofs.Ytmnjlnkfihklgaa.P
set_option linter.unusedVariables false
set_option linter.unusedSimpArgs false

/-- What Empty returns. -/
def EmptyR (ps : List Int) (qs : List S45) (N E : Int) : Prop :=
  (¬ HOk ps qs → N = 0 ∧ E = 110) ∧ (HOk ps qs → (∃ t : Nat, t ≤ 60 ∧ N = t ∧ E = 0 ∧ IsMost ps qs t (allP ps) ∧ ∀ s : Nat, s < t → ¬ IsMost ps qs s (allP ps)) ∨ (N = 0 ∧ E = 3 ∧ ∀ s : Nat, s ≤ 60 → ¬ IsMost ps qs s (allP ps)))
set_option maxRecDepth 100000 in
set_option maxHeartbeats 8000000 in

theorem empty_calls (ps : List Int) (qs : List S45) (A B : Option Addr) (c d : Nat) (w : World) (hP : Kd.C kI w A ps.length ps) (hQ : Kd.C k45 w B qs.length qs) (hn1 : ps.length ≤ 1000000) (hn2 : qs.length ≤ 1000000) :
    Calls Try.prog 21 #[hv ps qs A B c d] w fun e w' => ∃ N E, e = .returned (.tuple #[.int .i64 N, .int .i64 E]) ∧ EmptyR ps qs N E ∧ Below w.heap.size w w' := by
  have hu3 := Try.underlying3
  have hu25 := Try.underlying25
  have hu76 := Try.underlying76
  obtain ⟨z3, o3⟩ := info_some info3s (by decide)
  obtain ⟨z25, o25⟩ := info_some info25s (by decide)
  refine E.enter (N := 27) Try.func21 rfl Try.ntmps21 (args := [hv ps qs A B c d]) (by simp) ?_
  have L := Below.refl w.heap.size w
  refine E.CG.seq ?_
  refine E.CG.list ?_
  refine E.GL.st rfl rfl rfl (E.ST.box rfl rfl fun g1 w1 e1 b1 l1 => ?_)
  have h1_L : w.heap.size ≤ g1 := by rw [e1]; exact L.size
  replace L := below_step L l1
  refine E.GL.run rfl rfl rfl (E.Runs.assign rfl rfl) ?_
  refine E.GL.run rfl rfl rfl (E.Runs.assign rfl rfl) ?_
  refine E.GL.done ?_
  refine E.QG.code ?_
  refine E.CG.seq ?_
  refine E.CG.seq ?_
  refine E.CG.list ?_
  refine E.GL.run rfl rfl rfl (E.Runs.loads (cs := [.slice A ps.length c, .slice B qs.length d]) rfl rfl hu25 rfl info25s (blk_cells b1)) ?_
  refine E.GL.st rfl rfl rfl (E.ST.call rfl ent14 (E.evc rfl E.evn) ((check14 ps qs A B c d _ (Kd.C_below hP L) (Kd.C_below hQ L) hn1 hn2).mono ?_))
  rintro e w8 ⟨rfl, l8⟩
  refine ⟨_, rfl, ?_⟩
  replace b1 := blk_below b1 l8
  replace L := below_step L l8
  refine E.GL.run rfl rfl rfl (E.Runs.assign rfl rfl) ?_
  refine E.GL.done ?_
  refine E.QG.code ?_
  refine E.CG.seq ?_
  refine E.CG.list ?_
  refine E.GL.run rfl rfl rfl (E.Runs.move rfl rfl) ?_
  refine E.GL.cmpn rfl rfl rfl (fun _ h => (E.Runs.neq rfl rfl rfl h)) (fun h10 => ?_) (fun h10 => ?_)
  · have hH : ¬ HOk ps qs := fun k => h10 (checkE_yes k)
    refine E.GL.done ?_
    refine E.QG.code ?_
    refine E.CG.cond_t rfl ?_
    refine E.CG.seq ?_
    refine E.CG.list ?_
    refine E.GL.run rfl rfl rfl (E.Runs.move rfl rfl) ?_
    refine E.GL.run rfl rfl rfl (E.Runs.assign rfl rfl) ?_
    refine E.GL.run rfl rfl rfl (E.Runs.assign rfl rfl) ?_
    refine E.GL.done ?_
    refine E.QG.code ?_
    refine E.CG.ret ?_
    refine E.QG.pass_ret ?_
    exact E.QG.result2 rfl rfl rfl ⟨0, 110, by rw [checkE_no hH], ⟨fun _ => ⟨rfl, rfl⟩, fun k => absurd k hH⟩, L⟩
  · have hH : HOk ps qs := checkE_ok.mp h10
    refine E.GL.done ?_
    refine E.QG.code ?_
    refine E.CG.cond_f rfl ?_
    refine E.CG.skip ?_
    refine E.QG.code ?_
    refine E.CG.seq ?_
    refine E.CG.list ?_
    refine E.GL.run rfl rfl rfl (E.Runs.loads (cs := [.slice A ps.length c, .slice B qs.length d]) rfl rfl hu25 rfl info25s (blk_cells b1)) ?_
    refine E.GL.st rfl rfl rfl (E.ST.call rfl ent50 (E.evc rfl E.evn) ((souls_calls ps qs A B c d _ (Kd.C_below hP L) hH.p (by have := hH.r6; omega)).mono ?_))
    rintro e w13 ⟨rfl, l13⟩
    refine ⟨_, rfl, ?_⟩
    replace b1 := blk_below b1 l13
    replace L := below_step L l13
    refine E.GL.run rfl rfl rfl (E.Runs.assign rfl rfl) ?_
    refine E.GL.done ?_
    refine E.QG.code ?_
    refine E.CG.seq ?_
    refine E.CG.seq ?_
    refine E.CG.list ?_
    refine E.GL.run rfl rfl rfl (E.Runs.move rfl rfl) ?_
    refine E.GL.done ?_
    refine E.QG.code ?_
    refine E.CG.block ?_
    have s6_b1 := b1
    have s6_L := L
    refine E.CG.loop (fun (t : Nat) => [(1, .pointer (some ⟨g1, 0, none⟩)), (5, .int .i64 (allP ps)), (14, .int .i64 t)]) (fun t w' => t ≤ 61 ∧ w'.heap[g1]? = some (.cells #[.slice A ps.length c, .slice B qs.length d] 25 (0, 0)) ∧ Below w.heap.size w w' ∧ ∀ s : Nat, s < t → ¬ IsMost ps qs s (allP ps)) (fun t => 61 - t) 0 (E.subc rfl (E.subc rfl (E.subc rfl E.subn))) ⟨by omega, b1, L, fun s hs => by omega⟩ ?_
    rintro t w6 ⟨ht, b1, L, hno⟩
    refine E.CG.seq ?_
    refine E.CG.list ?_
    refine E.GL.cmp rfl rfl rfl (fun _ h => (E.Runs.lss rfl rfl rfl h)) (fun h15 => ?_) (fun h15 => ?_)
    · have ht60 : t ≤ 60 := by omega
      refine E.GL.done ?_
      refine E.QG.code ?_
      refine E.CG.seq ?_
      refine E.CG.cond_t rfl ?_
      refine E.CG.skip ?_
      refine E.QG.code ?_
      refine E.CG.seq ?_
      refine E.CG.block ?_
      refine E.CG.seq ?_
      refine E.CG.list ?_
      refine E.GL.run rfl rfl rfl (E.Runs.move rfl rfl) ?_
      refine E.GL.run rfl rfl rfl (E.Runs.assign rfl rfl) ?_
      refine E.GL.done ?_
      refine E.QG.code ?_
      refine E.CG.seq ?_
      refine E.CG.list ?_
      refine E.GL.run rfl rfl rfl (E.Runs.loads (cs := [.slice A ps.length c, .slice B qs.length d]) rfl rfl hu25 rfl info25s (blk_cells b1)) ?_
      refine E.GL.run rfl rfl rfl (E.Runs.move rfl rfl) ?_
      refine E.GL.st rfl rfl rfl (E.ST.call rfl ent51 (E.evc rfl (E.evc rfl E.evn)) ((flow_calls ps qs t A B c d _ hH ht60 (Kd.C_below hP L) (Kd.C_below hQ L)).mono ?_))
      rintro e w19 ⟨gN, gE, out, f, rfl, hN, hM, l19⟩
      refine ⟨_, rfl, ?_⟩
      replace b1 := blk_below b1 l19
      replace L := below_step L l19
      refine E.GL.run rfl rfl rfl (E.Runs.nilCheck rfl rfl) ?_
      refine E.GL.run rfl rfl rfl (E.Runs.fieldAddr rfl rfl hu76 rfl (by assumption) rfl) ?_
      refine E.GL.run rfl rfl rfl (E.Runs.load rfl rfl hu3 (E.blkc hN.blk rfl)) ?_
      refine E.GL.run rfl rfl rfl (E.Runs.move rfl rfl) ?_
      refine E.GL.cmp rfl rfl rfl (fun _ h => (E.Runs.eql rfl rfl rfl h)) (fun h24 => ?_) (fun h24 => ?_)
      · have hIs := hM.most hH
        rw [h24] at hIs
        refine E.GL.done ?_
        refine E.QG.code ?_
        refine E.CG.cond_t rfl ?_
        refine E.CG.seq ?_
        refine E.CG.list ?_
        refine E.GL.run rfl rfl rfl (E.Runs.move rfl rfl) ?_
        refine E.GL.run rfl rfl rfl (E.Runs.assign rfl rfl) ?_
        refine E.GL.run rfl rfl rfl (E.Runs.assign rfl rfl) ?_
        refine E.GL.done ?_
        refine E.QG.code ?_
        refine E.CG.ret ?_
        refine E.QG.block_ret ?_
        refine E.QG.pass_ret ?_
        refine E.QG.pass_ret ?_
        refine E.QG.block_ret ?_
        refine E.QG.pass_ret ?_
        exact E.QG.result2 rfl rfl rfl ⟨_, 0, rfl, ⟨fun k => absurd hH k, fun _ => .inl ⟨t, ht60, rfl, rfl, hIs, hno⟩⟩, L⟩
      · have hIs : ¬ IsMost ps qs t (allP ps) := fun k => h24 ((hM.most hH).one hH k)
        refine E.GL.done ?_
        refine E.QG.code ?_
        refine E.CG.cond_f rfl ?_
        refine E.CG.skip ?_
        refine E.QG.block_normal ?_
        refine E.QG.code ?_
        refine E.CG.list ?_
        refine E.GL.run rfl rfl rfl (E.Runs.add rfl rfl rfl (IntWalk.i64_in _ (by omega))) ?_
        refine E.GL.run rfl rfl rfl (E.Runs.move rfl rfl) ?_
        refine E.GL.done ?_
        exact E.QG.round (t + 1) (E.subc rfl (E.subc rfl (E.subc rfl E.subn))) ⟨by omega, b1, L, lt_succ_all hno hIs⟩ (by omega)
    · refine E.GL.done ?_
      refine E.QG.code ?_
      refine E.CG.seq ?_
      refine E.CG.cond_f rfl ?_
      refine E.CG.exit ?_
      refine E.QG.pass_exit ?_
      refine E.QG.pass_exit ?_
      refine E.QG.block_here ?_
      refine E.QG.code ?_
      refine E.CG.seq ?_
      refine E.CG.list ?_
      refine E.GL.run rfl rfl rfl (E.Runs.assign rfl rfl) ?_
      refine E.GL.run rfl rfl rfl (E.Runs.assign rfl rfl) ?_
      refine E.GL.done ?_
      refine E.QG.code ?_
      refine E.CG.ret ?_
      exact E.QG.result2 rfl rfl rfl ⟨0, 3, rfl, ⟨fun k => absurd hH k, fun _ => .inr ⟨rfl, rfl, fun s hs => hno s (by omega)⟩⟩, L⟩

end Go.Proofs.Ytmnjlnkfihklgaa.T
namespace Go.Proofs.Ytmnjlnkfihklgaa.T
open Go.RowKit Go.Proofs.YtmnjlnkfihklgaaW.PrintWords Go.Proofs.YtmnjlnkfihklgaaW.PrintMore
open Go.Proofs.Ytmnjlnkfihklgaa.P
set_option linter.unusedVariables false
set_option linter.unusedSimpArgs false

set_option maxRecDepth 100000 in
theorem eqNil22 (A : Option Addr) (n c : Nat) (W : World) : (Op.equal 22 (.slice A n c) (.slice none 0 0)).run Try.prog W = .ok A.isNone W := by
  have hu22 := Try.underlying22
  unfold Op.equal Op.maxDepth
  rw [show (10000 : Nat) = 9999 + 1 from rfl]
  cases A <;> (unfold Op.equalIn; go_simp)
set_option maxRecDepth 100000 in
theorem eqNil23 (A : Option Addr) (n c : Nat) (W : World) : (Op.equal 23 (.slice A n c) (.slice none 0 0)).run Try.prog W = .ok A.isNone W := by
  have hu23 := Try.underlying23
  unfold Op.equal Op.maxDepth
  rw [show (10000 : Nat) = 9999 + 1 from rfl]
  cases A <;> (unfold Op.equalIn; go_simp)
set_option maxRecDepth 100000 in
theorem lit22n (W : World) : (Instr.buildSlice 22 0 #[]).run Try.prog W = .ok (.slice (some ⟨W.heap.size, 0, none⟩) 0 0) (W.alloc (.cells #[] 3)) := by
  have hu22 := Try.underlying22
  go_simp
set_option maxRecDepth 100000 in
theorem lit23n (W : World) : (Instr.buildSlice 23 0 #[]).run Try.prog W = .ok (.slice (some ⟨W.heap.size, 0, none⟩) 0 0) (W.alloc (.cells #[] 45)) := by
  have hu23 := Try.underlying23
  go_simp
theorem C_none {α : Type} {d : Kd α} {w : World} {xs : List α} (h : Kd.C d w none xs.length xs) : xs = [] := by
  cases xs with
  | nil => rfl
  | cons a l =>
    obtain ⟨ad, c, e, _⟩ := Kd.C_get h a 0 (by omega) (by simp only [List.length_cons]; omega)
    cases e
theorem made22 {W : World} {base : Nat} : ∀ (x : Int) cs, kI.K W x cs → kI.M W base (fun _ => False) x cs := fun x cs h => h
theorem made23 {W : World} {base : Nat} : ∀ (x : S45) cs, k45.K W x cs → k45.M W base (fun _ => False) x cs := fun x cs h => by
  obtain rfl := k45_open h
  exact k45_mkM _ _ _ _
set_option maxRecDepth 100000 in
set_option maxHeartbeats 8000000 in

theorem clone47 (l : List Int) (A : Option Addr) (c : Nat) (w : World) (hr : Kd.C kI w A l.length l) (hn : l.length ≤ 1000000) :
    Calls Try.prog 47 #[.slice A l.length c] w fun e w' => ∃ v, e = .returned v ∧ Kd.R kI 3 w' w.heap.size (fun _ => True) v l ∧ Below w.heap.size w w' := by
  have hu22 := Try.underlying22
  refine E.enter (N := 8) Try.func47 rfl Try.ntmps47 (args := [.slice A l.length c]) (by simp) ?_
  have L := Below.refl w.heap.size w
  refine E.CG.seq ?_
  refine E.CG.list ?_
  refine E.GL.run rfl rfl rfl (E.Runs.assign rfl rfl) ?_
  refine E.GL.done ?_
  refine E.QG.code ?_
  refine E.CG.seq ?_
  refine E.CG.seq ?_
  refine E.CG.list ?_
  refine E.GL.run rfl rfl rfl (E.Runs.move rfl rfl) ?_
  rcases A with _ | ad
  · refine E.GL.run rfl rfl rfl (E.Runs.eqlv rfl rfl rfl rfl (fun _ _ _ => rfl) (eqNil22 _ _ _)) ?_
    refine E.GL.done ?_
    refine E.QG.code ?_
    refine E.CG.cond_t rfl ?_
    refine E.CG.seq ?_
    refine E.CG.list ?_
    refine E.GL.run rfl rfl rfl (E.Runs.assign rfl rfl) ?_
    refine E.GL.done ?_
    refine E.QG.code ?_
    refine E.CG.ret ?_
    refine E.QG.pass_ret ?_
    have hl : l = [] := C_none hr
    subst hl
    exact E.QG.result rfl rfl ⟨_, rfl, Kd.R_nil _ _ _ _ _, L⟩
  · refine E.GL.run rfl rfl rfl (E.Runs.eqlv rfl rfl rfl rfl (fun _ _ _ => rfl) (eqNil22 _ _ _)) ?_
    refine E.GL.done ?_
    refine E.QG.code ?_
    refine E.CG.cond_f rfl ?_
    refine E.CG.skip ?_
    refine E.QG.code ?_
    refine E.CG.seq ?_
    refine E.CG.list ?_
    refine E.GL.st rfl rfl rfl (E.ST.litAt kI w.heap.size (w0 := w) (ys := ([] : List Int)) (inner := []) rfl rfl E.epn lit22n (Reps.none _ _) L L.size (by simp) fun u5 w5 r5 k5 l5 n5 => ?_)
    replace L := k5
    refine E.GL.run rfl rfl rfl (E.Runs.move rfl rfl) ?_
    refine E.GL.st rfl rfl rfl (E.ST.appendRows kI w.heap.size (w0 := w) (s := .tmp 5) (x := .tmp 6) rfl hu22 info3 rfl (by decide) (by decide) rfl rfl r5 (Kd.C_below hr L) made22 L L.size (by simp only [List.length_nil]; omega) fun u7 w7 r7 k7 g7 => ?_)
    replace L := k7
    refine E.GL.run rfl rfl rfl (E.Runs.assign rfl rfl) ?_
    refine E.GL.done ?_
    refine E.QG.code ?_
    refine E.CG.ret ?_
    exact E.QG.result rfl rfl ⟨_, rfl, by simpa using r7, L⟩

set_option maxRecDepth 100000 in
set_option maxHeartbeats 8000000 in

theorem clone53 (l : List S45) (A : Option Addr) (c : Nat) (w : World) (hr : Kd.C k45 w A l.length l) (hn : l.length ≤ 1000000) :
    Calls Try.prog 53 #[.slice A l.length c] w fun e w' => ∃ v, e = .returned v ∧ Kd.R k45 45 w' w.heap.size (fun _ => True) v l ∧ Below w.heap.size w w' := by
  have hu23 := Try.underlying23
  refine E.enter (N := 8) Try.func53 rfl Try.ntmps53 (args := [.slice A l.length c]) (by simp) ?_
  have L := Below.refl w.heap.size w
  refine E.CG.seq ?_
  refine E.CG.list ?_
  refine E.GL.run rfl rfl rfl (E.Runs.assign rfl rfl) ?_
  refine E.GL.done ?_
  refine E.QG.code ?_
  refine E.CG.seq ?_
  refine E.CG.seq ?_
  refine E.CG.list ?_
  refine E.GL.run rfl rfl rfl (E.Runs.move rfl rfl) ?_
  rcases A with _ | ad
  · refine E.GL.run rfl rfl rfl (E.Runs.eqlv rfl rfl rfl rfl (fun _ _ _ => rfl) (eqNil23 _ _ _)) ?_
    refine E.GL.done ?_
    refine E.QG.code ?_
    refine E.CG.cond_t rfl ?_
    refine E.CG.seq ?_
    refine E.CG.list ?_
    refine E.GL.run rfl rfl rfl (E.Runs.assign rfl rfl) ?_
    refine E.GL.done ?_
    refine E.QG.code ?_
    refine E.CG.ret ?_
    refine E.QG.pass_ret ?_
    have hl : l = [] := C_none hr
    subst hl
    exact E.QG.result rfl rfl ⟨_, rfl, Kd.R_nil _ _ _ _ _, L⟩
  · refine E.GL.run rfl rfl rfl (E.Runs.eqlv rfl rfl rfl rfl (fun _ _ _ => rfl) (eqNil23 _ _ _)) ?_
    refine E.GL.done ?_
    refine E.QG.code ?_
    refine E.CG.cond_f rfl ?_
    refine E.CG.skip ?_
    refine E.QG.code ?_
    refine E.CG.seq ?_
    refine E.CG.list ?_
    refine E.GL.st rfl rfl rfl (E.ST.litAt k45 w.heap.size (w0 := w) (ys := ([] : List S45)) (inner := []) rfl rfl E.epn lit23n (Reps.none _ _) L L.size (by simp) fun u5 w5 r5 k5 l5 n5 => ?_)
    replace L := k5
    refine E.GL.run rfl rfl rfl (E.Runs.move rfl rfl) ?_
    refine E.GL.st rfl rfl rfl (E.ST.appendRows k45 w.heap.size (w0 := w) (s := .tmp 5) (x := .tmp 6) rfl hu23 info45 rfl (by decide) (by decide) rfl rfl r5 (Kd.C_below hr L) made23 L L.size (by simp only [List.length_nil]; omega) fun u7 w7 r7 k7 g7 => ?_)
    replace L := k7
    refine E.GL.run rfl rfl rfl (E.Runs.assign rfl rfl) ?_
    refine E.GL.done ?_
    refine E.QG.code ?_
    refine E.CG.ret ?_
    exact E.QG.result rfl rfl ⟨_, rfl, by simpa using r7, L⟩

end Go.Proofs.Ytmnjlnkfihklgaa.T
namespace Go.Proofs.Ytmnjlnkfihklgaa.T
open Go.RowKit Go.Proofs.YtmnjlnkfihklgaaW.PrintWords Go.Proofs.YtmnjlnkfihklgaaW.PrintMore
open Go.Proofs.Ytmnjlnkfihklgaa.P
set_option linter.unusedVariables false
set_option linter.unusedSimpArgs false

/-- What Shut returns. -/
def ShutR (ps : List Int) (qs : List S45) (m : Int) (ps' : List Int) (qs' : List S45) (E : Int) : Prop :=
  (¬ HOk ps qs → ps' = [] ∧ qs' = [] ∧ E = 110) ∧ (HOk ps qs → ¬ inR m 0 (qs.length - 1) → ps' = [] ∧ qs' = [] ∧ E = 1) ∧ (HOk ps qs → inR m 0 (qs.length - 1) → ps' = ps ∧ qs' = qs.set m.toNat { qs.getD m.toNat P.z45 with f2 := 0 } ∧ E = 0)
theorem slices_one (A B : Option Addr) (n c m d : Nat) : (#[.slice A n c, .slice B m d] : Array Value).all (·.oneCell') = true := by simp [Value.oneCell']
/-- A passage of a row: a write of its width. -/
theorem row45_at {W : World} {base : Nat} {A : Option Addr} {n c : Nat} {xs : List S45} {i : Nat} {x : S45} (R : Kd.R k45 45 W base (fun _ => True) (.slice A n c) xs) (hi : xs[i]? = some x) :
    ∃ g, A = some ⟨g, 0, none⟩ ∧ base ≤ g ∧ W.cell? ⟨g, i * 4 + 2, none⟩ = some (.int .i64 x.f2) ∧ W.frozen? ⟨g, i * 4 + 2, none⟩ = false ∧ (∃ cells, W.heap[g]? = some (.cells cells 45 (0, 0))) ∧
      (∀ y : Int, ∃ w', w' = W.setCell ⟨g, i * 4 + 2, none⟩ (.int .i64 y) ∧ Kd.R k45 45 w' base (fun _ => True) (.slice A n c) (xs.set i { x with f2 := y }) ∧ W.grownBy w' (some g)) := by
  have hil := (List.getElem?_eq_some_iff.1 hi).1
  obtain ⟨g, cap, hv, hb, hl, cells, hc⟩ := Kd.R_form R (by omega)
  have hn := (Kd.R_reads' R).1
  injection hv with hA hn' hc'
  subst hA hc'
  obtain ⟨cs, h1, h2, h3, h4⟩ := Kd.R_elem R x (i : Int) (by omega) (by omega)
  have hx : xs.getD i x = x := by simp [List.getD_eq_getElem?_getD, hi]
  rw [Int.toNat_natCast, hx] at h2
  obtain rfl := k45_open (Kd.K_of_M k45 h2)
  rw [Int.toNat_natCast] at h3 h4
  refine ⟨g, rfl, hb, h3 2 _ rfl, h4 2, ⟨cells, hc⟩, fun y => ⟨_, rfl, ?_⟩⟩
  have := Kd.R_seg R (i : Int) (by omega) (by omega) (seg := [.int .i64 y]) (j := 2) h1 (by rw [Int.toNat_natCast]; exact h3) (by show 2 + 1 ≤ 4; decide) (x' := { x with f2 := y }) (okp := fun _ => False) (k45_mkM _ _ _ { x with f2 := y }) (fun _ hk => hk.elim)
  rw [Int.toNat_natCast] at this
  exact this
set_option maxRecDepth 100000 in
theorem build25z (W : World) : (Instr.build 25 #[]).run Try.prog W = .ok (.agg #[.slice none 0 0, .slice none 0 0]) W := by
  have hu22 := Try.underlying22
  have hu23 := Try.underlying23
  have hu25 := Try.underlying25
  go_simp
set_option maxRecDepth 100000 in
set_option maxHeartbeats 8000000 in

theorem shut_calls (ps : List Int) (qs : List S45) (A B : Option Addr) (c d : Nat) (w : World) (hP : Kd.C kI w A ps.length ps) (hQ : Kd.C k45 w B qs.length qs) (hn1 : ps.length ≤ 1000000) (hn2 : qs.length ≤ 1000000) (m : Int) :
    Calls Try.prog 23 #[hv ps qs A B c d, .int .i64 m] w fun e w' => ∃ ps' qs' A' B' c' d' E, e = .returned (.tuple #[hv ps' qs' A' B' c' d', .int .i64 E]) ∧ Kd.R kI 3 w' w.heap.size (fun _ => True) (.slice A' ps'.length c') ps' ∧ Kd.R k45 45 w' w.heap.size (fun _ => True) (.slice B' qs'.length d') qs' ∧ ShutR ps qs m ps' qs' E ∧ Below w.heap.size w w' := by
  have hu3 := Try.underlying3
  have hu22 := Try.underlying22
  have hu23 := Try.underlying23
  have hu25 := Try.underlying25
  have hu45 := Try.underlying45
  obtain ⟨z3, o3⟩ := info_some info3s (by decide)
  obtain ⟨z22, o22⟩ := info_some info22s (by decide)
  obtain ⟨z23, o23⟩ := info_some info23s (by decide)
  obtain ⟨z25, o25⟩ := info_some info25s (by decide)
  obtain ⟨z45, o45⟩ := info_some info45s (by decide)
  refine E.enter (N := 35) Try.func23 rfl Try.ntmps23 (args := [hv ps qs A B c d, .int .i64 m]) (by simp) ?_
  have L := Below.refl w.heap.size w
  refine E.CG.seq ?_
  refine E.CG.list ?_
  refine E.GL.st rfl rfl rfl (E.ST.box rfl rfl fun g2 w2 e2 b2 l2 => ?_)
  have h2_L : w.heap.size ≤ g2 := by rw [e2]; exact L.size
  replace L := below_step L l2
  refine E.GL.st rfl rfl rfl (E.ST.alloc rfl info25z fun g4 w4 e4 b4 l4 => ?_)
  have h4_L : w.heap.size ≤ g4 := by rw [e4]; exact L.size
  have n4_b2 : g2 ≠ g4 := by have := blk_lt b2; omega
  replace b2 := blk_below b2 l4
  replace L := below_step L l4
  refine E.GL.run rfl rfl rfl (E.Runs.assign rfl rfl) ?_
  refine E.GL.done ?_
  refine E.QG.code ?_
  refine E.CG.seq ?_
  refine E.CG.seq ?_
  refine E.CG.list ?_
  refine E.GL.run rfl rfl rfl (E.Runs.loads (cs := [.slice A ps.length c, .slice B qs.length d]) rfl rfl hu25 rfl info25s (blk_cells b2)) ?_
  refine E.GL.st rfl rfl rfl (E.ST.call rfl ent14 (E.evc rfl E.evn) ((check14 ps qs A B c d _ (Kd.C_below hP L) (Kd.C_below hQ L) hn1 hn2).mono ?_))
  rintro e w8 ⟨rfl, l8⟩
  refine ⟨_, rfl, ?_⟩
  replace b2 := blk_below b2 l8
  replace b4 := blk_below b4 l8
  replace L := below_step L l8
  refine E.GL.run rfl rfl rfl (E.Runs.assign rfl rfl) ?_
  refine E.GL.done ?_
  refine E.QG.code ?_
  refine E.CG.seq ?_
  refine E.CG.list ?_
  refine E.GL.run rfl rfl rfl (E.Runs.move rfl rfl) ?_
  refine E.GL.cmpn rfl rfl rfl (fun _ h => (E.Runs.neq rfl rfl rfl h)) (fun h10 => ?_) (fun h10 => ?_)
  · have hH : ¬ HOk ps qs := fun k => h10 (checkE_yes k)
    refine E.GL.done ?_
    refine E.QG.code ?_
    refine E.CG.cond_t rfl ?_
    refine E.CG.seq ?_
    refine E.CG.list ?_
    refine E.GL.run rfl rfl rfl (E.Runs.build rfl E.epn build25z) ?_
    refine E.GL.run rfl rfl rfl (E.Runs.move rfl rfl) ?_
    refine E.GL.store_whole rfl rfl rfl rfl rfl b4 rfl info25s (slices_one _ _ _ _ _ _) fun wS3_2 c4 lS3_2 => ?_
    replace b2 := blk_grown b2 lS3_2 (E.nes (by first | assumption | exact Ne.symm (by assumption)))
    replace L := E.below_own L h4_L lS3_2
    replace b4 := c4
    clear c4
    refine E.GL.run rfl rfl rfl (E.Runs.assign rfl rfl) ?_
    refine E.GL.done ?_
    refine E.QG.code ?_
    refine E.CG.ret ?_
    refine E.QG.pass_ret ?_
    exact E.QG.result_ct rfl rfl b4 hu25 rfl info25s rfl ⟨[], [], none, none, 0, 0, 110, by rw [checkE_no hH]; rfl, Kd.R_nil _ _ _ _ _, Kd.R_nil _ _ _ _ _, ⟨fun _ => ⟨rfl, rfl, rfl⟩, fun k => absurd k hH, fun k => absurd k hH⟩, L⟩
  · have hH : HOk ps qs := checkE_ok.mp h10
    refine E.GL.done ?_
    refine E.QG.code ?_
    refine E.CG.cond_f rfl ?_
    refine E.CG.skip ?_
    refine E.QG.code ?_
    refine E.CG.seq ?_
    refine E.CG.seq ?_
    refine E.CG.list ?_
    refine E.GL.run rfl rfl rfl (E.Runs.move rfl rfl) ?_
    refine E.GL.run rfl rfl rfl (E.Runs.fieldAddr rfl rfl hu25 rfl (by assumption) rfl) ?_
    refine E.GL.run rfl rfl rfl (E.Runs.load1 rfl rfl hu23 rfl (by first | assumption | exact E.blkc (by assumption) rfl | exact pw_cell_below L (by assumption))) ?_
    refine E.GL.run rfl rfl rfl (E.Runs.len rfl rfl hu23) ?_
    refine E.GL.run rfl rfl rfl (E.Runs.sub rfl rfl rfl (IntWalk.i64_in _ (by omega))) ?_
    by_cases h18 : inR m 0 (qs.length - 1)
    · obtain ⟨i, hmi⟩ : ∃ i : Nat, m = i := ⟨m.toNat, by have := h18.1; omega⟩
      have him : i < qs.length := by have := h18.2; omega
      refine E.GL.st rfl rfl rfl (E.ST.call rfl ent38 (E.evc rfl (E.evc rfl (E.evc rfl E.evn))) ((within_o m 0 (qs.length - 1) true (iff_of_true rfl h18) _).mono ?_))
      rintro e w18 ⟨rfl, l18⟩
      refine ⟨_, rfl, ?_⟩
      replace b2 := blk_below b2 l18
      replace b4 := blk_below b4 l18
      replace L := below_step L l18
      refine E.GL.run rfl rfl rfl (E.Runs.not rfl rfl) ?_
      refine E.GL.done ?_
      refine E.QG.code ?_
      refine E.CG.cond_f rfl ?_
      refine E.CG.skip ?_
      refine E.QG.code ?_
      refine E.CG.seq ?_
      refine E.CG.heldJ 7 (fun v W => v.grownBy W (none)) (fun _ _ => True) (by kernel_rfl) (by kernel_rfl) (fun v => World.grownBy.refl _ _) fun v6 lD => ?_
      replace b2 := blk_below b2 lD
      replace b4 := blk_below b4 lD
      replace L := below_step L lD
      have lD6 := lD
      clear lD
      subst hmi
      have s_b2 := b2
      have s_b4 := b4
      have s_L := L
      have hh : v6.grownBy v6 (none) := World.grownBy.refl _ _
      refine E.GJ.take1 (i := 0) rfl (by kernel_rfl) (by kernel_rfl) (by kernel_rfl) (by kernel_rfl) rfl (by kernel_rfl) (by kernel_rfl) (by intro c a d v w h; cases d <;> exact h) rfl rfl rfl (fun w' hS => (E.Runs.fieldAddr rfl rfl hu25 rfl (by assumption) rfl)) ?_
      refine E.GJ.take1 (i := 1) rfl (by kernel_rfl) (by kernel_rfl) (by kernel_rfl) (by kernel_rfl) rfl (by kernel_rfl) (by kernel_rfl) (by intro c a d v w h; cases d <;> exact h) rfl rfl rfl (fun w' hS => (E.Runs.load1 rfl rfl hu22 rfl (by first | exact E.keeps hS (E.blkc (by assumption) rfl) (by first | exact E.nen | exact E.nes (by assumption) | exact E.nes (Ne.symm (by assumption))) | exact pw_cell_below (below_step s_L (E.belowG hS)) (by assumption)))) ?_
      refine E.GJ.take1 (i := 3) rfl (by kernel_rfl) (by kernel_rfl) (by kernel_rfl) (by kernel_rfl) rfl (by kernel_rfl) (by kernel_rfl) (by intro c a d v w h; cases d <;> exact h) rfl rfl rfl (fun w' hS => (E.Runs.fieldAddr rfl rfl hu25 rfl (by assumption) rfl)) ?_
      refine E.GJ.take1 (i := 4) rfl (by kernel_rfl) (by kernel_rfl) (by kernel_rfl) (by kernel_rfl) rfl (by kernel_rfl) (by kernel_rfl) (by intro c a d v w h; cases d <;> exact h) rfl rfl rfl (fun w' hS => (E.Runs.load1 rfl rfl hu23 rfl (by first | exact E.keeps hS (E.blkc (by assumption) rfl) (by first | exact E.nen | exact E.nes (by assumption) | exact E.nes (Ne.symm (by assumption))) | exact pw_cell_below (below_step s_L (E.belowG hS)) (by assumption)))) ?_
      have hs23 := L.size
      refine E.GJ.one (i := 2) (by kernel_rfl) (E.OJ.st rfl rfl rfl rfl (E.ST.call rfl ent47 (E.evc rfl E.evn) ((clone47 ps A c _ (Kd.C_below hP L) hn1).mono ?_)))
      rintro e w23 ⟨v23, rfl, R23, l23⟩
      refine ⟨_, rfl, (E.SJ.before (by kernel_rfl)).mpr (hh.trans (E.gbB l23)), ?_⟩
      replace hh := hh.trans (E.gbB l23)
      replace b2 := blk_below b2 l23
      replace b4 := blk_below b4 l23
      replace L := below_step L l23
      obtain ⟨A3, c3, hv23⟩ := Kd.R_slice R23
      subst hv23
      replace R23 := Kd.R_lower R23 hs23
      refine E.GJ.take1 (i := 6) rfl (by kernel_rfl) (by kernel_rfl) (by kernel_rfl) (by kernel_rfl) rfl (by kernel_rfl) (by kernel_rfl) (by intro c a d v w h; cases d <;> exact h) rfl rfl rfl (fun w' hS => (E.Runs.fieldAddr rfl rfl hu25 rfl (by assumption) rfl)) ?_
      have hs26 := L.size
      refine E.GJ.one (i := 5) (by kernel_rfl) (E.OJ.st rfl rfl rfl rfl (E.ST.call rfl ent53 (E.evc rfl E.evn) ((clone53 qs B d _ (Kd.C_below hQ L) hn2).mono ?_)))
      rintro e w26 ⟨v26, rfl, R26, l26⟩
      refine ⟨_, rfl, (E.SJ.before (by kernel_rfl)).mpr (hh.trans (E.gbB l26)), ?_⟩
      replace hh := hh.trans (E.gbB l26)
      replace b2 := blk_below b2 l26
      replace b4 := blk_below b4 l26
      replace R23 := Kd.R_below R23 l26
      replace L := below_step L l26
      obtain ⟨B3, d3, hv26⟩ := Kd.R_slice R26
      subst hv26
      replace R26 := Kd.R_lower R26 hs26
      refine E.GJ.one (i := 7) (by kernel_rfl) (E.OJ.sn rfl rfl rfl (E.ST.storeSl (cs := [.slice A ps.length c, .slice B qs.length d]) rfl z22 o22 rfl rfl b2 rfl rfl fun wS7 c2 lS7 => ⟨(E.SJ.behind (by kernel_rfl)).mpr trivial, ?_⟩))
      replace b4 := blk_grown b4 lS7 (E.nes (by first | assumption | exact Ne.symm (by assumption)))
      replace R23 := Kd.R_grown1 R23 rfl lS7 (by first | assumption | exact Kd.R_ne R23 b2 (by decide))
      replace R26 := Kd.R_grown1 R26 rfl lS7 (by first | assumption | exact Kd.R_ne R26 b2 (by decide))
      replace L := E.below_own L h2_L lS7
      replace b2 := c2
      clear c2
      refine E.GJ.one (i := 8) (by kernel_rfl) (E.OJ.st rfl rfl rfl rfl (E.ST.reads (E.Runs.fieldAddr rfl rfl hu25 rfl (by assumption) rfl) ⟨(E.SJ.behind (by kernel_rfl)).mpr trivial, ?_⟩))
      refine E.GJ.one (i := 9) (by kernel_rfl) (E.OJ.sn rfl rfl rfl (E.ST.storeSl (cs := [.slice A3 ps.length c3, .slice B qs.length d]) rfl z23 o23 rfl rfl b2 rfl rfl fun wS9 c2 lS9 => ⟨(E.SJ.behind (by kernel_rfl)).mpr trivial, ?_⟩))
      replace b4 := blk_grown b4 lS9 (E.nes (by first | assumption | exact Ne.symm (by assumption)))
      replace R23 := Kd.R_grown1 R23 rfl lS9 (by first | assumption | exact Kd.R_ne R23 b2 (by decide))
      replace R26 := Kd.R_grown1 R26 rfl lS9 (by first | assumption | exact Kd.R_ne R26 b2 (by decide))
      replace L := E.below_own L h2_L lS9
      replace b2 := c2
      clear c2
      refine E.GJ.done (by kernel_rfl) ?_
      refine E.QG.code ?_
      refine E.CG.seq ?_
      obtain ⟨gK, eK, hgK, cK, fK, ⟨_, bK⟩, stK⟩ := row45_at R26 (getD_some him P.z45)
      refine E.CG.list ?_
      refine E.GL.run rfl rfl rfl (E.Runs.fieldAddr rfl rfl hu25 rfl (by assumption) rfl) ?_
      refine E.GL.run rfl rfl rfl (E.Runs.load1 rfl rfl hu23 rfl (by first | assumption | exact E.blkc (by assumption) rfl | exact pw_cell_below L (by assumption))) ?_
      refine E.GL.run rfl rfl rfl (E.Runs.move rfl rfl) ?_
      refine E.GL.run rfl rfl rfl (E.Runs.indexAddrA rfl rfl rfl hu23 z45 o45 (show (i : Int) < qs.length by omega) eK (show _ = (⟨gK, i * 4, none⟩ : Addr) from by rw [Go.Addr.add_mid, Nat.zero_add])) ?_
      refine E.GL.run rfl rfl rfl (E.Runs.fieldAddr rfl rfl hu45 rfl (by assumption) (show _ = (⟨gK, i * 4 + 2, none⟩ : Addr) from rfl)) ?_
      refine E.GL.sn rfl rfl (E.ST.storeN rfl z3 o3 rfl rfl cK fK ?_)
      obtain ⟨wK, hwK, RK, gK⟩ := stK 0
      rw [← hwK]
      replace b2 := blk_grown b2 gK (E.nes (blk_ne b2 bK (by decide)))
      replace b4 := blk_grown b4 gK (E.nes (blk_ne b4 bK (by decide)))
      replace R23 := over_blk R23 bK (by decide) rfl gK
      replace L := E.below_own L hgK gK
      clear R26
      refine E.GL.done ?_
      refine E.QG.code ?_
      refine E.CG.seq ?_
      refine E.CG.list ?_
      refine E.GL.run rfl rfl rfl (E.Runs.loads (cs := [.slice A3 ps.length c3, .slice B3 qs.length d3]) rfl rfl hu25 rfl info25s (blk_cells b2)) ?_
      refine E.GL.store_whole rfl rfl rfl rfl rfl b4 rfl info25s (slices_one _ _ _ _ _ _) fun wS8_1 c4 lS8_1 => ?_
      replace b2 := blk_grown b2 lS8_1 (E.nes (by first | assumption | exact Ne.symm (by assumption)))
      replace R23 := Kd.R_grown1 R23 rfl lS8_1 (by first | assumption | exact Kd.R_ne R23 b4 (by decide))
      replace RK := Kd.R_grown1 RK rfl lS8_1 (by first | assumption | exact Kd.R_ne RK b4 (by decide))
      replace L := E.below_own L h4_L lS8_1
      replace b4 := c4
      clear c4
      refine E.GL.run rfl rfl rfl (E.Runs.assign rfl rfl) ?_
      refine E.GL.done ?_
      refine E.QG.code ?_
      refine E.CG.ret ?_
      exact E.QG.result_ct rfl rfl b4 hu25 rfl info25s rfl ⟨ps, qs.set i { qs.getD i P.z45 with f2 := 0 }, A3, B3, c3, d3, 0, by unfold hv; rw [List.length_set], R23, by rw [List.length_set]; exact RK, ⟨fun k => absurd hH k, fun _ k => absurd h18 k, fun _ _ => ⟨rfl, rfl, rfl⟩⟩, L⟩
    · refine E.GL.st rfl rfl rfl (E.ST.call rfl ent38 (E.evc rfl (E.evc rfl (E.evc rfl E.evn))) ((within_o m 0 (qs.length - 1) false (iff_of_false Bool.false_ne_true h18) _).mono ?_))
      rintro e w18 ⟨rfl, l18⟩
      refine ⟨_, rfl, ?_⟩
      replace b2 := blk_below b2 l18
      replace b4 := blk_below b4 l18
      replace L := below_step L l18
      refine E.GL.run rfl rfl rfl (E.Runs.not rfl rfl) ?_
      refine E.GL.done ?_
      refine E.QG.code ?_
      refine E.CG.cond_t rfl ?_
      refine E.CG.seq ?_
      refine E.CG.list ?_
      refine E.GL.run rfl rfl rfl (E.Runs.build rfl E.epn build25z) ?_
      refine E.GL.store_whole rfl rfl rfl rfl rfl b4 rfl info25s (slices_one _ _ _ _ _ _) fun wS5_1 c4 lS5_1 => ?_
      replace b2 := blk_grown b2 lS5_1 (E.nes (by first | assumption | exact Ne.symm (by assumption)))
      replace L := E.below_own L h4_L lS5_1
      replace b4 := c4
      clear c4
      refine E.GL.run rfl rfl rfl (E.Runs.assign rfl rfl) ?_
      refine E.GL.done ?_
      refine E.QG.code ?_
      refine E.CG.ret ?_
      refine E.QG.pass_ret ?_
      exact E.QG.result_ct rfl rfl b4 hu25 rfl info25s rfl ⟨[], [], none, none, 0, 0, 1, rfl, Kd.R_nil _ _ _ _ _, Kd.R_nil _ _ _ _ _, ⟨fun k => absurd hH k, fun _ _ => ⟨rfl, rfl, rfl⟩, fun _ k => absurd k h18⟩, L⟩

end Go.Proofs.Ytmnjlnkfihklgaa.T
