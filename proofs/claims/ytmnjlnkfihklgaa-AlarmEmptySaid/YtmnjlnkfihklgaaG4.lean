/- Texts of this claim, put together: A23, N14, A24, A25, N15, A26, A27, B3, O1. -/
import Derived.Test.YtmnjlnkfihklgaaG3
import Derived.Test.YtmnjlnkfihklgaaRows
import Derived.ProofKit
import Derived.OpenShut
import Derived.ChangeOld
import Derived.SizedLaws
import Derived.Deep.Slices
namespace Go.Proofs.Ytmnjlnkfihklgaa.T
open Go.RowKit Go.Proofs.YtmnjlnkfihklgaaW.PrintWords Go.Proofs.YtmnjlnkfihklgaaW.PrintMore
open Go.Proofs.Ytmnjlnkfihklgaa.P
set_option linter.unusedVariables false
set_option linter.unusedSimpArgs false

structure Pg where
  V : List Nat
  bl : List Int
  p : Nat
structure Pw where
  at_ : Nat
  P : List Int
abbrev ints (V : List Nat) : List Int := V.map (fun v : Nat => (v : Int))
theorem ints_snoc (V : List Nat) (t : Nat) : ints V ++ [(t : Int)] = ints (V ++ [t]) := by simp [ints]
theorem ints_get {V : List Nat} {j v : Nat} (h : V[j]? = some v) : (ints V)[j]? = some (v : Int) := by simp [ints, h]
set_option maxRecDepth 100000 in
set_option maxHeartbeats 8000000 in

theorem path_calls (ls : List S95) (A : Option Addr) (c last : Nat) (w : World) (hL : Kd.C k95 w A ls.length ls) (hW : WsOk ls (last + 1)) (hl1 : 1 ≤ last) (hl2 : last ≤ 10000) (hlen : ls.length ≤ 100000) :
    Calls Try.prog 63 #[.slice A ls.length c, .int .i64 last] w fun e w' => ∃ v P b, e = .returned (.tuple #[v, .bool b]) ∧ Kd.R kI 3 w' w.heap.size (fun _ => True) v P ∧ PathOk ls last P b ∧ Below w.heap.size w w' := by
  have hu3 := Try.underlying3
  have hu22 := Try.underlying22
  have hu89 := Try.underlying89
  have hu95 := Try.underlying95
  obtain ⟨z3, o3⟩ := info_some info3s (by decide)
  obtain ⟨z22, o22⟩ := info_some info22s (by decide)
  obtain ⟨z95, o95⟩ := info_some info95s (by decide)
  refine E.enter (N := 122) Try.func63 rfl Try.ntmps63 (args := [.slice A ls.length c, .int .i64 last]) (by simp) ?_
  have L := Below.refl w.heap.size w
  refine E.CG.seq ?_
  refine E.CG.list ?_
  refine E.GL.run rfl rfl rfl (E.Runs.assign rfl rfl) ?_
  refine E.GL.run rfl rfl rfl (E.Runs.assign rfl rfl) ?_
  refine E.GL.done ?_
  refine E.QG.code ?_
  refine E.CG.seq ?_
  refine E.CG.list ?_
  refine E.GL.run rfl rfl rfl (E.Runs.move rfl rfl) ?_
  refine E.GL.run rfl rfl rfl (E.Runs.add rfl rfl rfl (IntWalk.i64_in _ (by omega))) ?_
  refine E.GL.st rfl rfl rfl (E.ST.makeR kI w.heap.size 3 rfl rfl (m := last + 1) (by push_cast; rfl) (by push_cast; rfl) hu22 (.int .i64 0) 8 info3 rfl (by decide) (by decide) 0 rfl (by omega) L L.size fun u14 w14 r14 k14 l14 o14 => ?_)
  obtain ⟨gB, cB, hvB, hgB, hgB2, _⟩ := Kd.R_form r14 (by simp)
  rw [List.length_replicate] at hvB
  subst hvB
  have L14 := k14
  have hsz14 := Nat.le_trans L.size l14.size
  refine E.GL.run rfl rfl rfl (E.Runs.assign rfl rfl) ?_
  refine E.GL.done ?_
  refine E.QG.code ?_
  refine E.CG.seq ?_
  refine E.CG.list ?_
  refine E.GL.st rfl rfl rfl (E.ST.litAt kI w.heap.size (w0 := w) (ys := [0]) (inner := [.int .i64 0]) rfl rfl (E.epc rfl E.epn) (lit22 0) (reps_int1 _ _ _) L14 hsz14 (by simp) fun u15 w15 r15 k15 l15 n15 => ?_)
  have hM : Qm w w15 gB cB (last + 1) (List.replicate (last + 1) 0) u15 (ints [0]) := ⟨Kd.R_below r14 l15, r15, fun e => by obtain ⟨b, h1, h2⟩ := n15; rw [h1] at e; injection e with e; omega, k15, Nat.le_trans hsz14 l15.size⟩
  refine E.GL.run rfl rfl rfl (E.Runs.assign rfl rfl) ?_
  refine E.GL.done ?_
  refine E.QG.code ?_
  refine E.CG.seq ?_
  refine E.CG.seq ?_
  refine E.CG.list ?_
  refine E.GL.run rfl rfl rfl (E.Runs.assign rfl rfl) ?_
  refine E.GL.done ?_
  refine E.QG.code ?_
  refine E.CG.block ?_
  refine E.CG.loop2 (fun (s : Pg) (v7 : Value) => [(0, .slice A ls.length c), (1, .int .i64 last), (6, .slice (some ⟨gB, 0, none⟩) (last + 1) cB), (7, v7), (8, .int .i64 s.p)]) (fun s v7 w' => Pb ls (last + 1) s.V s.bl ∧ Dn ls s.V s.p ∧ s.p ≤ s.V.length ∧ Qm w w' gB cB (last + 1) s.bl v7 (ints s.V)) (fun s v7 => last + 2 - s.p) ⟨[0], List.replicate (last + 1) 0, 0⟩ u15 (E.subc rfl (E.subc rfl (E.subc rfl (E.subc rfl (E.subc rfl E.subn))))) ⟨Pb.start (by omega), fun j v hj => absurd hj (Nat.not_lt_zero j), Nat.zero_le _, hM⟩ ?_
  rintro s v7 w4 ⟨hb, hd, hp, hM⟩
  obtain ⟨A7, c7, e7⟩ := Kd.R_slice hM.row
  rw [List.length_map] at e7
  subst e7
  refine E.CG.seq ?_
  refine E.CG.seq ?_
  obtain ⟨yl, hbl⟩ : ∃ y, s.bl[last]? = some y := ⟨_, List.getElem?_eq_getElem (by rw [hb.lb]; omega)⟩
  have hcl := (hM.set hbl).1
  have hpl := hb.few
  refine E.CG.list ?_
  refine E.GL.run rfl rfl rfl (E.Runs.move rfl rfl) ?_
  refine E.GL.run rfl rfl rfl (E.Runs.move rfl rfl) ?_
  refine E.GL.run rfl rfl rfl (E.Runs.len rfl rfl hu22) ?_
  refine E.GL.cmp rfl rfl rfl (fun _ h => (E.Runs.lss rfl rfl rfl h)) (fun h19 => ?_) (fun h19 => ?_)
  · refine E.GL.run rfl rfl rfl (E.Runs.move rfl rfl) ?_
    refine E.GL.run rfl rfl rfl (E.Runs.move rfl rfl) ?_
    refine E.GL.run rfl rfl rfl (E.Runs.move rfl rfl) ?_
    refine E.GL.run rfl rfl rfl (E.Runs.indexAddrA (i := last) rfl rfl rfl hu22 z3 o3 (by omega) rfl (show _ = (⟨gB, last * 1, none⟩ : Addr) from by rw [Go.Addr.add_mid, Nat.zero_add])) ?_
    refine E.GL.run rfl rfl rfl (E.Runs.load rfl rfl hu3 hcl) ?_
    refine E.GL.cmp rfl rfl rfl (fun _ h => (E.Runs.eql rfl rfl rfl h)) (fun h25 => ?_) (fun h25 => ?_)
    · refine E.GL.run rfl rfl rfl (E.Runs.pick_t rfl rfl rfl) ?_
      refine E.GL.done ?_
      refine E.QG.code ?_
      refine E.CG.cond_t rfl ?_
      refine E.CG.skip ?_
      refine E.QG.code ?_
      refine E.CG.seq ?_
      refine E.CG.block ?_
      refine E.CG.seq ?_
      refine E.CG.list ?_
      refine E.GL.run rfl rfl rfl (E.Runs.assign rfl rfl) ?_
      refine E.GL.done ?_
      refine E.QG.code ?_
      refine E.CG.block ?_
      have hps : s.p < s.V.length := by omega
      obtain ⟨u, hu⟩ : ∃ u, s.V[s.p]? = some u := ⟨_, List.getElem?_eq_getElem hps⟩
      refine E.CG.loop2 (fun (s2 : Pg) (v7 : Value) => [(0, .slice A ls.length c), (1, .int .i64 last), (6, .slice (some ⟨gB, 0, none⟩) (last + 1) cB), (7, v7), (8, .int .i64 s.p), (9, .int .i64 s2.p)]) (fun s2 v7 w' => Pb ls (last + 1) s2.V s2.bl ∧ Dn ls s2.V s.p ∧ Dk ls s2.V u s2.p ∧ s2.V[s.p]? = some u ∧ s2.p ≤ ls.length ∧ Qm w w' gB cB (last + 1) s2.bl v7 (ints s2.V)) (fun s2 v7 => ls.length - s2.p) ⟨s.V, s.bl, 0⟩ _ (E.subc rfl (E.subc rfl (E.subc rfl (E.subc rfl (E.subc rfl (E.subc rfl E.subn)))))) ⟨hb, hd, Dk.first u, hu, Nat.zero_le _, hM⟩ ?_
      rintro s2 v7 w7 ⟨hb2, hd2, hk, hu, hk1, hM⟩
      obtain ⟨A7, c7, e7⟩ := Kd.R_slice hM.row
      rw [List.length_map] at e7
      subst e7
      refine E.CG.seq ?_
      refine E.CG.seq ?_
      refine E.CG.list ?_
      refine E.GL.run rfl rfl rfl (E.Runs.move rfl rfl) ?_
      refine E.GL.run rfl rfl rfl (E.Runs.move rfl rfl) ?_
      refine E.GL.run rfl rfl rfl (E.Runs.len rfl rfl hu89) ?_
      refine E.GL.cmp rfl rfl rfl (fun _ h => (E.Runs.lss rfl rfl rfl h)) (fun h32 => ?_) (fun h32 => ?_)
      · obtain ⟨x, hx⟩ : ∃ x, ls[s2.p]? = some x := ⟨_, List.getElem?_eq_getElem (by omega)⟩
        obtain ⟨ad, eA, X⟩ := ways_at hL hx
        obtain ⟨hx0, hx1, hx2, hx3⟩ := hW x (List.mem_of_getElem? hx)
        obtain ⟨t, ht⟩ : ∃ t : Nat, (t : Int) = x.f1 := ⟨x.f1.toNat, by omega⟩
        have htn : t < last + 1 := by omega
        obtain ⟨y, hbt⟩ : ∃ y, s2.bl[t]? = some y := ⟨_, List.getElem?_eq_getElem (by rw [hb2.lb]; exact htn)⟩
        obtain ⟨cB1, fB1, stB⟩ := hM.set hbt
        obtain ⟨g7, eA7, _, cR, _⟩ := rowI_at hM.row (ints_get hu)
        have hpV := (List.getElem?_eq_some_iff.1 hu).1
        refine E.GL.done ?_
        refine E.QG.code ?_
        refine E.CG.cond_t rfl ?_
        refine E.CG.skip ?_
        refine E.QG.code ?_
        refine E.CG.seq ?_
        refine E.CG.block ?_
        refine E.CG.seq ?_
        refine E.CG.quietF (by kernel_rfl) rfl (by kernel_rfl) (by kernel_rfl) ?_
        refine E.GQ.run rfl rfl rfl (E.Runs.move rfl rfl) ?_
        refine E.GQ.run rfl rfl rfl (E.Runs.move rfl rfl) ?_
        refine E.GQ.run rfl rfl rfl (E.Runs.indexAddrA rfl rfl rfl hu89 z95 o95 (show (s2.p : Int) < ls.length by omega) eA rfl) ?_
        refine E.GQ.run rfl rfl rfl (E.Runs.fieldAddr rfl rfl hu95 rfl (by assumption) rfl) ?_
        refine E.GQ.run rfl rfl rfl (E.Runs.load (v := .int .i64 x.f0) rfl rfl hu3 (by rw [← E.add_onA]; exact pw_cell_below hM.bel (X 0 _ rfl))) ?_
        refine E.GQ.run rfl rfl rfl (E.Runs.move rfl rfl) ?_
        refine E.GQ.run rfl rfl rfl (E.Runs.move rfl rfl) ?_
        refine E.GQ.run rfl rfl rfl (E.Runs.indexAddrA (i := s.p) rfl rfl rfl hu22 z3 o3 (by omega) eA7 (show _ = (⟨g7, s.p * 1, none⟩ : Addr) from by rw [Go.Addr.add_mid, Nat.zero_add])) ?_
        refine E.GQ.run rfl rfl rfl (E.Runs.load rfl rfl hu3 cR) ?_
        refine E.GQ.cmp rfl rfl rfl (fun _ h => (E.Runs.eql rfl rfl rfl h)) (fun h44 => ?_) (fun h44 => ?_)
        · refine E.GQ.run rfl rfl rfl (E.Runs.move rfl rfl) ?_
          refine E.GQ.run rfl rfl rfl (E.Runs.move rfl rfl) ?_
          refine E.GQ.run rfl rfl rfl (E.Runs.move rfl rfl) ?_
          refine E.GQ.run rfl rfl rfl (E.Runs.indexAddrA rfl rfl rfl hu89 z95 o95 (show (s2.p : Int) < ls.length by omega) eA rfl) ?_
          refine E.GQ.run rfl rfl rfl (E.Runs.fieldAddr rfl rfl hu95 rfl (by assumption) rfl) ?_
          refine E.GQ.run rfl rfl rfl (E.Runs.load (v := .int .i64 x.f2) rfl rfl hu3 (by rw [← E.add_onA]; exact pw_cell_below hM.bel (X 2 _ rfl))) ?_
          refine E.GQ.cmp rfl rfl rfl (fun _ h => (E.Runs.gtr rfl rfl rfl h)) (fun h51 => ?_) (fun h51 => ?_)
          · refine E.GQ.run rfl rfl rfl (E.Runs.pick_t rfl rfl rfl) ?_
            refine E.GQ.run rfl rfl rfl (E.Runs.move rfl rfl) ?_
            refine E.GQ.run rfl rfl rfl (E.Runs.move rfl rfl) ?_
            refine E.GQ.run rfl rfl rfl (E.Runs.move rfl rfl) ?_
            refine E.GQ.run rfl rfl rfl (E.Runs.indexAddrA rfl rfl rfl hu89 z95 o95 (show (s2.p : Int) < ls.length by omega) eA rfl) ?_
            refine E.GQ.run rfl rfl rfl (E.Runs.fieldAddr rfl rfl hu95 rfl (by assumption) rfl) ?_
            refine E.GQ.run rfl rfl rfl (E.Runs.load (v := .int .i64 x.f1) rfl rfl hu3 (by rw [← E.add_onA]; exact pw_cell_below hM.bel (X 1 _ rfl))) ?_
            refine E.GQ.cmpn rfl rfl rfl (fun _ h => (E.Runs.neq rfl rfl rfl h)) (fun h59 => ?_) (fun h59 => ?_)
            · refine E.GQ.run rfl rfl rfl (E.Runs.pick_t rfl rfl rfl) ?_
              refine E.GQ.run rfl rfl rfl (E.Runs.move rfl rfl) ?_
              refine E.GQ.run rfl rfl rfl (E.Runs.move rfl rfl) ?_
              refine E.GQ.run rfl rfl rfl (E.Runs.move rfl rfl) ?_
              refine E.GQ.run rfl rfl rfl (E.Runs.move rfl rfl) ?_
              refine E.GQ.run rfl rfl rfl (E.Runs.indexAddrA rfl rfl rfl hu89 z95 o95 (show (s2.p : Int) < ls.length by omega) eA rfl) ?_
              refine E.GQ.run rfl rfl rfl (E.Runs.fieldAddr rfl rfl hu95 rfl (by assumption) rfl) ?_
              refine E.GQ.run rfl rfl rfl (E.Runs.load (v := .int .i64 x.f1) rfl rfl hu3 (by rw [← E.add_onA]; exact pw_cell_below hM.bel (X 1 _ rfl))) ?_
              refine E.GQ.run rfl rfl rfl (E.Runs.indexAddrA (i := t) rfl rfl (by rw [ht]; rfl) hu22 z3 o3 (by omega) rfl (show _ = (⟨gB, t * 1, none⟩ : Addr) from by rw [Go.Addr.add_mid, Nat.zero_add])) ?_
              refine E.GQ.run rfl rfl rfl (E.Runs.load rfl rfl hu3 cB1) ?_
              refine E.GQ.cmp rfl rfl rfl (fun _ h => (E.Runs.eql rfl rfl rfl h)) (fun h70 => ?_) (fun h70 => ?_)
              · refine E.GQ.run rfl rfl rfl (E.Runs.pick_t rfl rfl rfl) ?_
                refine E.GQ.doneB fun v9 lD => ?_
                replace hM := hM.below lD
                have lD9 := lD
                clear lD
                refine E.QG.code ?_
                refine E.CG.cond_t rfl ?_
                refine E.CG.seq ?_
                obtain ⟨cB1, fB1, stB⟩ := hM.set hbt
                refine E.CG.list ?_
                refine E.GL.run rfl rfl rfl (E.Runs.move rfl rfl) ?_
                refine E.GL.run rfl rfl rfl (E.Runs.move rfl rfl) ?_
                refine E.GL.run rfl rfl rfl (E.Runs.move rfl rfl) ?_
                refine E.GL.run rfl rfl rfl (E.Runs.indexAddrA rfl rfl rfl hu89 z95 o95 (show (s2.p : Int) < ls.length by omega) eA rfl) ?_
                refine E.GL.run rfl rfl rfl (E.Runs.fieldAddr rfl rfl hu95 rfl (by assumption) rfl) ?_
                refine E.GL.run rfl rfl rfl (E.Runs.load (v := .int .i64 x.f1) rfl rfl hu3 (by rw [← E.add_onA]; exact pw_cell_below hM.bel (X 1 _ rfl))) ?_
                refine E.GL.run rfl rfl rfl (E.Runs.move rfl rfl) ?_
                refine E.GL.run rfl rfl rfl (E.Runs.add rfl rfl rfl (IntWalk.i64_in _ (by omega))) ?_
                refine E.GL.run rfl rfl rfl (E.Runs.indexAddrA (i := t) rfl rfl (by rw [ht]; rfl) hu22 z3 o3 (by omega) rfl (show _ = (⟨gB, t * 1, none⟩ : Addr) from by rw [Go.Addr.add_mid, Nat.zero_add])) ?_
                refine E.GL.sn rfl rfl (E.ST.storeN rfl z3 o3 rfl rfl cB1 fB1 ?_)
                obtain ⟨w10, hw10, hM10⟩ := stB ((s2.p : Int) + 1)
                rw [← hw10]
                clear hM stB cB1 fB1
                have hM := hM10
                clear hM10
                refine E.GL.done ?_
                refine E.QG.code ?_
                refine E.CG.list ?_
                refine E.GL.run rfl rfl rfl (E.Runs.move rfl rfl) ?_
                refine E.GL.run rfl rfl rfl (E.Runs.move rfl rfl) ?_
                refine E.GL.run rfl rfl rfl (E.Runs.move rfl rfl) ?_
                refine E.GL.run rfl rfl rfl (E.Runs.indexAddrA rfl rfl rfl hu89 z95 o95 (show (s2.p : Int) < ls.length by omega) eA rfl) ?_
                refine E.GL.run rfl rfl rfl (E.Runs.fieldAddr rfl rfl hu95 rfl (by assumption) rfl) ?_
                refine E.GL.run rfl rfl rfl (E.Runs.load (v := .int .i64 x.f1) rfl rfl hu3 (by rw [← E.add_onA]; exact pw_cell_below hM.bel (X 1 _ rfl))) ?_
                refine E.GL.st rfl rfl rfl (E.ST.lit rfl (E.epc rfl E.epn) (lit22 x.f1) ?_)
                refine E.GL.st rfl rfl rfl (E.ST.appendW kI w.heap.size (w0 := w) (s := .tmp 81) (x := .tmp 87) rfl hu22 info3 rfl (by decide) (by decide) (x.f1) rfl rfl rfl (fun _ _ => trivial) hM.row hM.bel hM.size (by have := hb2.few; simp only [ints, List.length_map]; omega) fun u88 w88 r88 k88 g88 o88 => ?_)
                have hM88 := hM.app r88 k88 g88 o88
                clear hM r88 k88 g88 o88
                have hM := hM88
                clear hM88
                rw [show x.f1 = (t : Int) from ht.symm, ints_snoc] at hM
                have hb3 := hb2.found hu hx h44 h51 ht.symm htn (by omega) (by rw [hbt, h70])
                refine E.GL.run rfl rfl rfl (E.Runs.assign rfl rfl) ?_
                refine E.GL.done ?_
                refine E.QG.block_normal ?_
                refine E.QG.code ?_
                refine E.CG.list ?_
                refine E.GL.run rfl rfl rfl (E.Runs.move rfl rfl) ?_
                refine E.GL.run rfl rfl rfl (E.Runs.add rfl rfl rfl (IntWalk.i64_in _ (by omega))) ?_
                refine E.GL.run rfl rfl rfl (E.Runs.assign rfl rfl) ?_
                refine E.GL.done ?_
                exact E.QG.round2 (d := .slice none 0 0) ⟨s2.V ++ [t], s2.bl.set t ((s2.p : Int) + 1), s2.p + 1⟩ _ (E.subc rfl (E.subc rfl (E.subc rfl (E.subc rfl (E.subc rfl (E.subc rfl E.subn)))))) (by first | exact ⟨hb3, hd2.more (by omega), hk.found hx ht.symm, by rw [List.getElem?_append_left (by omega)]; exact hu, by simp only; omega, hM⟩ | exact ⟨hb2, hd2, hk.not hx hN, hu, by simp only; omega, hM⟩ | fail) (by simp only; omega)
              · have hN : x.f0 = (u : Int) → 0 < x.f2 → x.f1.toNat ∈ s2.V := fun a b => hb2.why ⟨hx2, by omega⟩ (.inr (fun e => h70 (by rw [← ht, Int.toNat_natCast, hbt] at e; injection e)))
                refine E.GQ.run rfl rfl rfl (E.Runs.pick_t rfl rfl rfl) ?_
                refine E.GQ.doneB fun v9 lD => ?_
                replace hM := hM.below lD
                have lD9 := lD
                clear lD
                refine E.QG.code ?_
                refine E.CG.cond_f rfl ?_
                refine E.CG.skip ?_
                refine E.QG.block_normal ?_
                refine E.QG.code ?_
                refine E.CG.list ?_
                refine E.GL.run rfl rfl rfl (E.Runs.move rfl rfl) ?_
                refine E.GL.run rfl rfl rfl (E.Runs.add rfl rfl rfl (IntWalk.i64_in _ (by omega))) ?_
                refine E.GL.run rfl rfl rfl (E.Runs.assign rfl rfl) ?_
                refine E.GL.done ?_
                exact E.QG.round2 (d := .slice none 0 0) ⟨s2.V, s2.bl, s2.p + 1⟩ _ (E.subc rfl (E.subc rfl (E.subc rfl (E.subc rfl (E.subc rfl (E.subc rfl E.subn)))))) (by first | exact ⟨hb3, hd2.more (by omega), hk.found hx ht.symm, by rw [List.getElem?_append_left (by omega)]; exact hu, by simp only; omega, hM⟩ | exact ⟨hb2, hd2, hk.not hx hN, hu, by simp only; omega, hM⟩ | fail) (by simp only; omega)
            · have hN : x.f0 = (u : Int) → 0 < x.f2 → x.f1.toNat ∈ s2.V := fun a b => hb2.why ⟨hx2, by omega⟩ (.inl h59)
              refine E.GQ.run rfl rfl rfl (E.Runs.pick_t rfl rfl rfl) ?_
              refine E.GQ.run rfl rfl rfl (E.Runs.move rfl rfl) ?_
              refine E.GQ.skip rfl rfl rfl ?_
              refine E.GQ.skip rfl rfl rfl ?_
              refine E.GQ.skip rfl rfl rfl ?_
              refine E.GQ.skip rfl rfl rfl ?_
              refine E.GQ.skip rfl rfl rfl ?_
              refine E.GQ.skip rfl rfl rfl ?_
              refine E.GQ.skip rfl rfl rfl ?_
              refine E.GQ.skip rfl rfl rfl ?_
              refine E.GQ.skip rfl rfl rfl ?_
              refine E.GQ.run rfl rfl rfl (E.Runs.pick_f rfl rfl rfl) ?_
              refine E.GQ.doneB fun v9 lD => ?_
              replace hM := hM.below lD
              have lD9 := lD
              clear lD
              refine E.QG.code ?_
              refine E.CG.cond_f rfl ?_
              refine E.CG.skip ?_
              refine E.QG.block_normal ?_
              refine E.QG.code ?_
              refine E.CG.list ?_
              refine E.GL.run rfl rfl rfl (E.Runs.move rfl rfl) ?_
              refine E.GL.run rfl rfl rfl (E.Runs.add rfl rfl rfl (IntWalk.i64_in _ (by omega))) ?_
              refine E.GL.run rfl rfl rfl (E.Runs.assign rfl rfl) ?_
              refine E.GL.done ?_
              exact E.QG.round2 (d := .slice none 0 0) ⟨s2.V, s2.bl, s2.p + 1⟩ _ (E.subc rfl (E.subc rfl (E.subc rfl (E.subc rfl (E.subc rfl (E.subc rfl E.subn)))))) (by first | exact ⟨hb3, hd2.more (by omega), hk.found hx ht.symm, by rw [List.getElem?_append_left (by omega)]; exact hu, by simp only; omega, hM⟩ | exact ⟨hb2, hd2, hk.not hx hN, hu, by simp only; omega, hM⟩ | fail) (by simp only; omega)
          · have hN : x.f0 = (u : Int) → 0 < x.f2 → x.f1.toNat ∈ s2.V := fun a b => absurd b h51
            refine E.GQ.run rfl rfl rfl (E.Runs.pick_t rfl rfl rfl) ?_
            refine E.GQ.run rfl rfl rfl (E.Runs.move rfl rfl) ?_
            refine E.GQ.skip rfl rfl rfl ?_
            refine E.GQ.skip rfl rfl rfl ?_
            refine E.GQ.skip rfl rfl rfl ?_
            refine E.GQ.skip rfl rfl rfl ?_
            refine E.GQ.skip rfl rfl rfl ?_
            refine E.GQ.skip rfl rfl rfl ?_
            refine E.GQ.run rfl rfl rfl (E.Runs.pick_f rfl rfl rfl) ?_
            refine E.GQ.run rfl rfl rfl (E.Runs.move rfl rfl) ?_
            refine E.GQ.skip rfl rfl rfl ?_
            refine E.GQ.skip rfl rfl rfl ?_
            refine E.GQ.skip rfl rfl rfl ?_
            refine E.GQ.skip rfl rfl rfl ?_
            refine E.GQ.skip rfl rfl rfl ?_
            refine E.GQ.skip rfl rfl rfl ?_
            refine E.GQ.skip rfl rfl rfl ?_
            refine E.GQ.skip rfl rfl rfl ?_
            refine E.GQ.skip rfl rfl rfl ?_
            refine E.GQ.run rfl rfl rfl (E.Runs.pick_f rfl rfl rfl) ?_
            refine E.GQ.doneB fun v9 lD => ?_
            replace hM := hM.below lD
            have lD9 := lD
            clear lD
            refine E.QG.code ?_
            refine E.CG.cond_f rfl ?_
            refine E.CG.skip ?_
            refine E.QG.block_normal ?_
            refine E.QG.code ?_
            refine E.CG.list ?_
            refine E.GL.run rfl rfl rfl (E.Runs.move rfl rfl) ?_
            refine E.GL.run rfl rfl rfl (E.Runs.add rfl rfl rfl (IntWalk.i64_in _ (by omega))) ?_
            refine E.GL.run rfl rfl rfl (E.Runs.assign rfl rfl) ?_
            refine E.GL.done ?_
            exact E.QG.round2 (d := .slice none 0 0) ⟨s2.V, s2.bl, s2.p + 1⟩ _ (E.subc rfl (E.subc rfl (E.subc rfl (E.subc rfl (E.subc rfl (E.subc rfl E.subn)))))) (by first | exact ⟨hb3, hd2.more (by omega), hk.found hx ht.symm, by rw [List.getElem?_append_left (by omega)]; exact hu, by simp only; omega, hM⟩ | exact ⟨hb2, hd2, hk.not hx hN, hu, by simp only; omega, hM⟩ | fail) (by simp only; omega)
        · have hN : x.f0 = (u : Int) → 0 < x.f2 → x.f1.toNat ∈ s2.V := fun a b => absurd a h44
          refine E.GQ.run rfl rfl rfl (E.Runs.move rfl rfl) ?_
          refine E.GQ.skip rfl rfl rfl ?_
          refine E.GQ.skip rfl rfl rfl ?_
          refine E.GQ.skip rfl rfl rfl ?_
          refine E.GQ.skip rfl rfl rfl ?_
          refine E.GQ.skip rfl rfl rfl ?_
          refine E.GQ.skip rfl rfl rfl ?_
          refine E.GQ.run rfl rfl rfl (E.Runs.pick_f rfl rfl rfl) ?_
          refine E.GQ.run rfl rfl rfl (E.Runs.move rfl rfl) ?_
          refine E.GQ.skip rfl rfl rfl ?_
          refine E.GQ.skip rfl rfl rfl ?_
          refine E.GQ.skip rfl rfl rfl ?_
          refine E.GQ.skip rfl rfl rfl ?_
          refine E.GQ.skip rfl rfl rfl ?_
          refine E.GQ.skip rfl rfl rfl ?_
          refine E.GQ.run rfl rfl rfl (E.Runs.pick_f rfl rfl rfl) ?_
          refine E.GQ.run rfl rfl rfl (E.Runs.move rfl rfl) ?_
          refine E.GQ.skip rfl rfl rfl ?_
          refine E.GQ.skip rfl rfl rfl ?_
          refine E.GQ.skip rfl rfl rfl ?_
          refine E.GQ.skip rfl rfl rfl ?_
          refine E.GQ.skip rfl rfl rfl ?_
          refine E.GQ.skip rfl rfl rfl ?_
          refine E.GQ.skip rfl rfl rfl ?_
          refine E.GQ.skip rfl rfl rfl ?_
          refine E.GQ.skip rfl rfl rfl ?_
          refine E.GQ.run rfl rfl rfl (E.Runs.pick_f rfl rfl rfl) ?_
          refine E.GQ.doneB fun v9 lD => ?_
          replace hM := hM.below lD
          have lD9 := lD
          clear lD
          refine E.QG.code ?_
          refine E.CG.cond_f rfl ?_
          refine E.CG.skip ?_
          refine E.QG.block_normal ?_
          refine E.QG.code ?_
          refine E.CG.list ?_
          refine E.GL.run rfl rfl rfl (E.Runs.move rfl rfl) ?_
          refine E.GL.run rfl rfl rfl (E.Runs.add rfl rfl rfl (IntWalk.i64_in _ (by omega))) ?_
          refine E.GL.run rfl rfl rfl (E.Runs.assign rfl rfl) ?_
          refine E.GL.done ?_
          exact E.QG.round2 (d := .slice none 0 0) ⟨s2.V, s2.bl, s2.p + 1⟩ _ (E.subc rfl (E.subc rfl (E.subc rfl (E.subc rfl (E.subc rfl (E.subc rfl E.subn)))))) (by first | exact ⟨hb3, hd2.more (by omega), hk.found hx ht.symm, by rw [List.getElem?_append_left (by omega)]; exact hu, by simp only; omega, hM⟩ | exact ⟨hb2, hd2, hk.not hx hN, hu, by simp only; omega, hM⟩ | fail) (by simp only; omega)
      · refine E.GL.done ?_
        refine E.QG.code ?_
        refine E.CG.cond_f rfl ?_
        refine E.CG.exit ?_
        refine E.QG.pass_exit ?_
        refine E.QG.pass_exit ?_
        refine E.QG.block_here ?_
        refine E.QG.block_normal ?_
        refine E.QG.code ?_
        refine E.CG.list ?_
        refine E.GL.run rfl rfl rfl (E.Runs.move rfl rfl) ?_
        refine E.GL.run rfl rfl rfl (E.Runs.add rfl rfl rfl (IntWalk.i64_in _ (by omega))) ?_
        refine E.GL.run rfl rfl rfl (E.Runs.assign rfl rfl) ?_
        refine E.GL.done ?_
        exact E.QG.round2 (d := .slice none 0 0) ⟨s2.V, s2.bl, s.p + 1⟩ _ (E.subc rfl (E.subc rfl (E.subc rfl (E.subc rfl (E.subc rfl E.subn))))) ⟨hb2, hd2.next hu hk (by omega), by have := (List.getElem?_eq_some_iff.1 hu).1; simp only; omega, hM⟩ (by simp only; omega)
    · have hC : yl = 0 → ∀ P, PathOk ls last P false := fun e => absurd e h25
      refine E.GL.run rfl rfl rfl (E.Runs.pick_t rfl rfl rfl) ?_
      refine E.GL.done ?_
      refine E.QG.code ?_
      refine E.CG.cond_f rfl ?_
      refine E.CG.exit ?_
      refine E.QG.pass_exit ?_
      refine E.QG.pass_exit ?_
      refine E.QG.block_here ?_
      refine E.QG.code ?_
      refine E.CG.seq ?_
      refine E.CG.list ?_
      refine E.GL.run rfl rfl rfl (E.Runs.assign rfl rfl) ?_
      refine E.GL.done ?_
      refine E.QG.code ?_
      refine E.CG.seq ?_
      refine E.CG.seq ?_
      refine E.CG.list ?_
      refine E.GL.run rfl rfl rfl (E.Runs.move rfl rfl) ?_
      refine E.GL.run rfl rfl rfl (E.Runs.assign rfl rfl) ?_
      refine E.GL.done ?_
      refine E.QG.code ?_
      refine E.CG.block ?_
      refine E.CG.loop2 (fun (s3 : Pw) (v10 : Value) => [(0, .slice A ls.length c), (1, .int .i64 last), (6, .slice (some ⟨gB, 0, none⟩) (last + 1) cB), (10, v10), (11, .int .i64 s3.at_)]) (fun s3 v10 w' => s3.at_ < last + 1 ∧ (yl = 0 → s3.at_ = last) ∧ (yl ≠ 0 → s3.at_ ∈ s.V ∧ Wp ls s.V.idxOf last s3.at_ s3.P) ∧ s3.P.length + s.V.idxOf s3.at_ ≤ 20000 ∧ Qm w w' gB cB (last + 1) s.bl v10 s3.P) (fun s3 v10 => s.V.idxOf s3.at_) ⟨last, []⟩ (.slice none 0 0) (E.subc rfl (E.subc rfl (E.subc rfl (E.subc rfl (E.subc rfl E.subn))))) ⟨by simp only; omega, fun _ => rfl, fun e => ⟨((hb.is last (by omega)).mp (fun z => e (by rw [hbl] at z; injection z))).1, Wp.first _ _ _⟩, by have := List.idxOf_le_length (a := last) (l := s.V); simp only [List.length_nil]; omega, ⟨hM.by_, Kd.R_nil _ _ _ _ _, fun e => (by cases e), hM.bel, hM.size⟩⟩ ?_
      rintro s3 v10 w14 ⟨hat1, hw0, hw1, hlP, hM⟩
      refine E.CG.seq ?_
      refine E.CG.seq ?_
      obtain ⟨ya, hba⟩ : ∃ y, s.bl[s3.at_]? = some y := ⟨_, List.getElem?_eq_getElem (by rw [hb.lb]; omega)⟩
      have hca := (hM.set hba).1
      have hyn := hb.nn _ (List.mem_of_getElem? hba)
      refine E.CG.list ?_
      refine E.GL.run rfl rfl rfl (E.Runs.move rfl rfl) ?_
      refine E.GL.cmpn rfl rfl rfl (fun _ h => (E.Runs.neq rfl rfl rfl h)) (fun h91 => ?_) (fun h91 => ?_)
      · refine E.GL.run rfl rfl rfl (E.Runs.move rfl rfl) ?_
        refine E.GL.run rfl rfl rfl (E.Runs.move rfl rfl) ?_
        refine E.GL.run rfl rfl rfl (E.Runs.move rfl rfl) ?_
        refine E.GL.run rfl rfl rfl (E.Runs.indexAddrA (i := s3.at_) rfl rfl rfl hu22 z3 o3 (by omega) rfl (show _ = (⟨gB, s3.at_ * 1, none⟩ : Addr) from by rw [Go.Addr.add_mid, Nat.zero_add])) ?_
        refine E.GL.run rfl rfl rfl (E.Runs.load rfl rfl hu3 hca) ?_
        refine E.GL.cmp rfl rfl rfl (fun _ h => (E.Runs.gtr rfl rfl rfl h)) (fun h97 => ?_) (fun h97 => ?_)
        · have hyl : yl ≠ 0 := fun e => by have := hw0 e; rw [this, hbl] at hba; injection hba with hba; omega
          obtain ⟨hat, hwp⟩ := hw1 hyl
          obtain ⟨k, x, hx, hbk, hx1, hx2, hxV, hxd⟩ := hb.at_ hat (by omega)
          rw [hba] at hbk
          injection hbk with hbk
          have hkl := (List.getElem?_eq_some_iff.1 hx).1
          have hk1 : ya - 1 = (k : Int) := by omega
          have hk2 : IntKind.i64.wrap (ya - 1) = (k : Int) := by rw [hk1]; exact IntWalk.i64_in _ (by omega)
          obtain ⟨ad, eA, X⟩ := ways_at hL hx
          obtain ⟨hx3, hx4, _, _⟩ := hW x (List.mem_of_getElem? hx)
          refine E.GL.run rfl rfl rfl (E.Runs.pick_t rfl rfl rfl) ?_
          refine E.GL.done ?_
          refine E.QG.code ?_
          refine E.CG.cond_t rfl ?_
          refine E.CG.skip ?_
          refine E.QG.code ?_
          refine E.CG.seq ?_
          refine E.CG.block ?_
          refine E.CG.list ?_
          refine E.GL.run rfl rfl rfl (E.Runs.move rfl rfl) ?_
          refine E.GL.run rfl rfl rfl (E.Runs.move rfl rfl) ?_
          refine E.GL.run rfl rfl rfl (E.Runs.move rfl rfl) ?_
          refine E.GL.run rfl rfl rfl (E.Runs.indexAddrA (i := s3.at_) rfl rfl rfl hu22 z3 o3 (by omega) rfl (show _ = (⟨gB, s3.at_ * 1, none⟩ : Addr) from by rw [Go.Addr.add_mid, Nat.zero_add])) ?_
          refine E.GL.run rfl rfl rfl (E.Runs.load rfl rfl hu3 hca) ?_
          refine E.GL.run rfl rfl rfl (E.Runs.sub rfl rfl rfl hk2) ?_
          refine E.GL.st rfl rfl rfl (E.ST.lit rfl (E.epc rfl E.epn) (lit22 (k : Int)) ?_)
          refine E.GL.st rfl rfl rfl (E.ST.appendW kI w.heap.size (w0 := w) (s := .tmp 108) (x := .tmp 114) rfl hu22 info3 rfl (by decide) (by decide) ((k : Int)) rfl rfl rfl (fun _ _ => trivial) hM.row hM.bel hM.size (by have := hlP; skip; omega) fun u115 w115 r115 k115 g115 o115 => ?_)
          have hM115 := hM.app r115 k115 g115 o115
          clear hM r115 k115 g115 o115
          have hM := hM115
          clear hM115
          refine E.GL.run rfl rfl rfl (E.Runs.assign rfl rfl) ?_
          refine E.GL.done ?_
          refine E.QG.block_normal ?_
          refine E.QG.code ?_
          refine E.CG.list ?_
          refine E.GL.run rfl rfl rfl (E.Runs.move rfl rfl) ?_
          refine E.GL.run rfl rfl rfl (E.Runs.move rfl rfl) ?_
          refine E.GL.run rfl rfl rfl (E.Runs.move rfl rfl) ?_
          refine E.GL.run rfl rfl rfl (E.Runs.indexAddrA (i := s3.at_) rfl rfl rfl hu22 z3 o3 (by omega) rfl (show _ = (⟨gB, s3.at_ * 1, none⟩ : Addr) from by rw [Go.Addr.add_mid, Nat.zero_add])) ?_
          refine E.GL.run rfl rfl rfl (E.Runs.load rfl rfl hu3 (hM.set hba).1) ?_
          refine E.GL.run rfl rfl rfl (E.Runs.sub rfl rfl rfl hk2) ?_
          refine E.GL.run rfl rfl rfl (E.Runs.indexAddrA (i := k) rfl rfl (by first | rfl | (rw [hk1]; rfl)) hu89 z95 o95 (by omega) eA rfl) ?_
          refine E.GL.run rfl rfl rfl (E.Runs.fieldAddr rfl rfl hu95 rfl (by assumption) rfl) ?_
          refine E.GL.run rfl rfl rfl (E.Runs.load (v := .int .i64 x.f0) rfl rfl hu3 (by rw [← E.add_onA]; exact pw_cell_below hM.bel (X 0 _ rfl))) ?_
          refine E.GL.run rfl rfl rfl (E.Runs.assign rfl rfl) ?_
          refine E.GL.done ?_
          exact E.QG.round2 (d := .slice none 0 0) ⟨x.f0.toNat, s3.P ++ [(k : Int)]⟩ _ (E.subc rfl (E.subc rfl (E.subc rfl (E.subc rfl (E.subc (by rw [Int.toNat_of_nonneg hx3]; rfl) E.subn))))) ⟨by simp only; omega, fun e => absurd e hyl, fun _ => ⟨hxV, hwp.step (by omega) hx hx1 hx2 hxd⟩, by simp only [List.length_append, List.length_singleton]; omega, hM⟩ (by simp only; omega)
        · have hT : yl ≠ 0 → ∃ d, Wl ls d last s3.P := fun e => absurd (show s.bl[s3.at_]? = some 0 by rw [hba]; congr 1; omega) ((hb.is _ (by omega)).mpr ⟨(hw1 e).1, by omega⟩)
          refine E.GL.run rfl rfl rfl (E.Runs.pick_t rfl rfl rfl) ?_
          refine E.GL.done ?_
          refine E.QG.code ?_
          refine E.CG.cond_f rfl ?_
          refine E.CG.exit ?_
          refine E.QG.pass_exit ?_
          refine E.QG.pass_exit ?_
          refine E.QG.block_here ?_
          refine E.QG.code ?_
          refine E.CG.seq ?_
          have hcl2 := (hM.set hbl).1
          refine E.CG.quietF (by kernel_rfl) rfl (by kernel_rfl) (by kernel_rfl) ?_
          refine E.GQ.run rfl rfl rfl (E.Runs.move rfl rfl) ?_
          refine E.GQ.run rfl rfl rfl (E.Runs.move rfl rfl) ?_
          refine E.GQ.run rfl rfl rfl (E.Runs.move rfl rfl) ?_
          refine E.GQ.run rfl rfl rfl (E.Runs.indexAddrA (i := last) rfl rfl rfl hu22 z3 o3 (by omega) rfl (show _ = (⟨gB, last * 1, none⟩ : Addr) from by rw [Go.Addr.add_mid, Nat.zero_add])) ?_
          refine E.GQ.run rfl rfl rfl (E.Runs.load rfl rfl hu3 hcl2) ?_
          refine E.GQ.cmp rfl rfl rfl (fun _ h => (E.Runs.gtr rfl rfl rfl h)) (fun h121 => ?_) (fun h121 => ?_)
          · refine E.GQ.run rfl rfl rfl (E.Runs.assign rfl rfl) ?_
            refine E.GQ.run rfl rfl rfl (E.Runs.assign rfl rfl) ?_
            refine E.GQ.doneB fun v17 lD => ?_
            replace hM := hM.below lD
            have lD17 := lD
            clear lD
            refine E.QG.code ?_
            refine E.CG.ret ?_
            exact E.QG.result2 rfl rfl rfl ⟨_, s3.P, true, rfl, hM.row, ⟨fun _ => hT (by omega), fun q => by cases q⟩, hM.bel⟩
          · refine E.GQ.run rfl rfl rfl (E.Runs.assign rfl rfl) ?_
            refine E.GQ.run rfl rfl rfl (E.Runs.assign rfl rfl) ?_
            refine E.GQ.doneB fun v17 lD => ?_
            replace hM := hM.below lD
            have lD17 := lD
            clear lD
            refine E.QG.code ?_
            refine E.CG.ret ?_
            exact E.QG.result2 rfl rfl rfl ⟨_, s3.P, false, rfl, hM.row, hC (by have := hb.nn _ (List.mem_of_getElem? hbl); omega) _, hM.bel⟩
      · have hT : yl ≠ 0 → ∃ d, Wl ls d last s3.P := fun e => ⟨_, by have := (hw1 e).2 [] (by show s3.at_ = 0; omega); rw [List.append_nil] at this; exact this⟩
        refine E.GL.run rfl rfl rfl (E.Runs.move rfl rfl) ?_
        refine E.GL.skip rfl rfl rfl ?_
        refine E.GL.skip rfl rfl rfl ?_
        refine E.GL.skip rfl rfl rfl ?_
        refine E.GL.skip rfl rfl rfl ?_
        refine E.GL.skip rfl rfl rfl ?_
        refine E.GL.run rfl rfl rfl (E.Runs.pick_f rfl rfl rfl) ?_
        refine E.GL.done ?_
        refine E.QG.code ?_
        refine E.CG.cond_f rfl ?_
        refine E.CG.exit ?_
        refine E.QG.pass_exit ?_
        refine E.QG.pass_exit ?_
        refine E.QG.block_here ?_
        refine E.QG.code ?_
        refine E.CG.seq ?_
        have hcl2 := (hM.set hbl).1
        refine E.CG.quietF (by kernel_rfl) rfl (by kernel_rfl) (by kernel_rfl) ?_
        refine E.GQ.run rfl rfl rfl (E.Runs.move rfl rfl) ?_
        refine E.GQ.run rfl rfl rfl (E.Runs.move rfl rfl) ?_
        refine E.GQ.run rfl rfl rfl (E.Runs.move rfl rfl) ?_
        refine E.GQ.run rfl rfl rfl (E.Runs.indexAddrA (i := last) rfl rfl rfl hu22 z3 o3 (by omega) rfl (show _ = (⟨gB, last * 1, none⟩ : Addr) from by rw [Go.Addr.add_mid, Nat.zero_add])) ?_
        refine E.GQ.run rfl rfl rfl (E.Runs.load rfl rfl hu3 hcl2) ?_
        refine E.GQ.cmp rfl rfl rfl (fun _ h => (E.Runs.gtr rfl rfl rfl h)) (fun h121 => ?_) (fun h121 => ?_)
        · refine E.GQ.run rfl rfl rfl (E.Runs.assign rfl rfl) ?_
          refine E.GQ.run rfl rfl rfl (E.Runs.assign rfl rfl) ?_
          refine E.GQ.doneB fun v17 lD => ?_
          replace hM := hM.below lD
          have lD17 := lD
          clear lD
          refine E.QG.code ?_
          refine E.CG.ret ?_
          exact E.QG.result2 rfl rfl rfl ⟨_, s3.P, true, rfl, hM.row, ⟨fun _ => hT (by omega), fun q => by cases q⟩, hM.bel⟩
        · refine E.GQ.run rfl rfl rfl (E.Runs.assign rfl rfl) ?_
          refine E.GQ.run rfl rfl rfl (E.Runs.assign rfl rfl) ?_
          refine E.GQ.doneB fun v17 lD => ?_
          replace hM := hM.below lD
          have lD17 := lD
          clear lD
          refine E.QG.code ?_
          refine E.CG.ret ?_
          exact E.QG.result2 rfl rfl rfl ⟨_, s3.P, false, rfl, hM.row, hC (by have := hb.nn _ (List.mem_of_getElem? hbl); omega) _, hM.bel⟩
  · have hC : yl = 0 → ∀ P, PathOk ls last P false := fun e P => by subst e; exact hb.closed hW (fun j v hj => hd j v (by omega)) (by omega) hbl (by omega) P
    refine E.GL.run rfl rfl rfl (E.Runs.move rfl rfl) ?_
    refine E.GL.skip rfl rfl rfl ?_
    refine E.GL.skip rfl rfl rfl ?_
    refine E.GL.skip rfl rfl rfl ?_
    refine E.GL.skip rfl rfl rfl ?_
    refine E.GL.skip rfl rfl rfl ?_
    refine E.GL.run rfl rfl rfl (E.Runs.pick_f rfl rfl rfl) ?_
    refine E.GL.done ?_
    refine E.QG.code ?_
    refine E.CG.cond_f rfl ?_
    refine E.CG.exit ?_
    refine E.QG.pass_exit ?_
    refine E.QG.pass_exit ?_
    refine E.QG.block_here ?_
    refine E.QG.code ?_
    refine E.CG.seq ?_
    refine E.CG.list ?_
    refine E.GL.run rfl rfl rfl (E.Runs.assign rfl rfl) ?_
    refine E.GL.done ?_
    refine E.QG.code ?_
    refine E.CG.seq ?_
    refine E.CG.seq ?_
    refine E.CG.list ?_
    refine E.GL.run rfl rfl rfl (E.Runs.move rfl rfl) ?_
    refine E.GL.run rfl rfl rfl (E.Runs.assign rfl rfl) ?_
    refine E.GL.done ?_
    refine E.QG.code ?_
    refine E.CG.block ?_
    refine E.CG.loop2 (fun (s3 : Pw) (v10 : Value) => [(0, .slice A ls.length c), (1, .int .i64 last), (6, .slice (some ⟨gB, 0, none⟩) (last + 1) cB), (10, v10), (11, .int .i64 s3.at_)]) (fun s3 v10 w' => s3.at_ < last + 1 ∧ (yl = 0 → s3.at_ = last) ∧ (yl ≠ 0 → s3.at_ ∈ s.V ∧ Wp ls s.V.idxOf last s3.at_ s3.P) ∧ s3.P.length + s.V.idxOf s3.at_ ≤ 20000 ∧ Qm w w' gB cB (last + 1) s.bl v10 s3.P) (fun s3 v10 => s.V.idxOf s3.at_) ⟨last, []⟩ (.slice none 0 0) (E.subc rfl (E.subc rfl (E.subc rfl (E.subc rfl (E.subc rfl E.subn))))) ⟨by simp only; omega, fun _ => rfl, fun e => ⟨((hb.is last (by omega)).mp (fun z => e (by rw [hbl] at z; injection z))).1, Wp.first _ _ _⟩, by have := List.idxOf_le_length (a := last) (l := s.V); simp only [List.length_nil]; omega, ⟨hM.by_, Kd.R_nil _ _ _ _ _, fun e => (by cases e), hM.bel, hM.size⟩⟩ ?_
    rintro s3 v10 w14 ⟨hat1, hw0, hw1, hlP, hM⟩
    refine E.CG.seq ?_
    refine E.CG.seq ?_
    obtain ⟨ya, hba⟩ : ∃ y, s.bl[s3.at_]? = some y := ⟨_, List.getElem?_eq_getElem (by rw [hb.lb]; omega)⟩
    have hca := (hM.set hba).1
    have hyn := hb.nn _ (List.mem_of_getElem? hba)
    refine E.CG.list ?_
    refine E.GL.run rfl rfl rfl (E.Runs.move rfl rfl) ?_
    refine E.GL.cmpn rfl rfl rfl (fun _ h => (E.Runs.neq rfl rfl rfl h)) (fun h91 => ?_) (fun h91 => ?_)
    · refine E.GL.run rfl rfl rfl (E.Runs.move rfl rfl) ?_
      refine E.GL.run rfl rfl rfl (E.Runs.move rfl rfl) ?_
      refine E.GL.run rfl rfl rfl (E.Runs.move rfl rfl) ?_
      refine E.GL.run rfl rfl rfl (E.Runs.indexAddrA (i := s3.at_) rfl rfl rfl hu22 z3 o3 (by omega) rfl (show _ = (⟨gB, s3.at_ * 1, none⟩ : Addr) from by rw [Go.Addr.add_mid, Nat.zero_add])) ?_
      refine E.GL.run rfl rfl rfl (E.Runs.load rfl rfl hu3 hca) ?_
      refine E.GL.cmp rfl rfl rfl (fun _ h => (E.Runs.gtr rfl rfl rfl h)) (fun h97 => ?_) (fun h97 => ?_)
      · have hyl : yl ≠ 0 := fun e => by have := hw0 e; rw [this, hbl] at hba; injection hba with hba; omega
        obtain ⟨hat, hwp⟩ := hw1 hyl
        obtain ⟨k, x, hx, hbk, hx1, hx2, hxV, hxd⟩ := hb.at_ hat (by omega)
        rw [hba] at hbk
        injection hbk with hbk
        have hkl := (List.getElem?_eq_some_iff.1 hx).1
        have hk1 : ya - 1 = (k : Int) := by omega
        have hk2 : IntKind.i64.wrap (ya - 1) = (k : Int) := by rw [hk1]; exact IntWalk.i64_in _ (by omega)
        obtain ⟨ad, eA, X⟩ := ways_at hL hx
        obtain ⟨hx3, hx4, _, _⟩ := hW x (List.mem_of_getElem? hx)
        refine E.GL.run rfl rfl rfl (E.Runs.pick_t rfl rfl rfl) ?_
        refine E.GL.done ?_
        refine E.QG.code ?_
        refine E.CG.cond_t rfl ?_
        refine E.CG.skip ?_
        refine E.QG.code ?_
        refine E.CG.seq ?_
        refine E.CG.block ?_
        refine E.CG.list ?_
        refine E.GL.run rfl rfl rfl (E.Runs.move rfl rfl) ?_
        refine E.GL.run rfl rfl rfl (E.Runs.move rfl rfl) ?_
        refine E.GL.run rfl rfl rfl (E.Runs.move rfl rfl) ?_
        refine E.GL.run rfl rfl rfl (E.Runs.indexAddrA (i := s3.at_) rfl rfl rfl hu22 z3 o3 (by omega) rfl (show _ = (⟨gB, s3.at_ * 1, none⟩ : Addr) from by rw [Go.Addr.add_mid, Nat.zero_add])) ?_
        refine E.GL.run rfl rfl rfl (E.Runs.load rfl rfl hu3 hca) ?_
        refine E.GL.run rfl rfl rfl (E.Runs.sub rfl rfl rfl hk2) ?_
        refine E.GL.st rfl rfl rfl (E.ST.lit rfl (E.epc rfl E.epn) (lit22 (k : Int)) ?_)
        refine E.GL.st rfl rfl rfl (E.ST.appendW kI w.heap.size (w0 := w) (s := .tmp 108) (x := .tmp 114) rfl hu22 info3 rfl (by decide) (by decide) ((k : Int)) rfl rfl rfl (fun _ _ => trivial) hM.row hM.bel hM.size (by have := hlP; skip; omega) fun u115 w115 r115 k115 g115 o115 => ?_)
        have hM115 := hM.app r115 k115 g115 o115
        clear hM r115 k115 g115 o115
        have hM := hM115
        clear hM115
        refine E.GL.run rfl rfl rfl (E.Runs.assign rfl rfl) ?_
        refine E.GL.done ?_
        refine E.QG.block_normal ?_
        refine E.QG.code ?_
        refine E.CG.list ?_
        refine E.GL.run rfl rfl rfl (E.Runs.move rfl rfl) ?_
        refine E.GL.run rfl rfl rfl (E.Runs.move rfl rfl) ?_
        refine E.GL.run rfl rfl rfl (E.Runs.move rfl rfl) ?_
        refine E.GL.run rfl rfl rfl (E.Runs.indexAddrA (i := s3.at_) rfl rfl rfl hu22 z3 o3 (by omega) rfl (show _ = (⟨gB, s3.at_ * 1, none⟩ : Addr) from by rw [Go.Addr.add_mid, Nat.zero_add])) ?_
        refine E.GL.run rfl rfl rfl (E.Runs.load rfl rfl hu3 (hM.set hba).1) ?_
        refine E.GL.run rfl rfl rfl (E.Runs.sub rfl rfl rfl hk2) ?_
        refine E.GL.run rfl rfl rfl (E.Runs.indexAddrA (i := k) rfl rfl (by first | rfl | (rw [hk1]; rfl)) hu89 z95 o95 (by omega) eA rfl) ?_
        refine E.GL.run rfl rfl rfl (E.Runs.fieldAddr rfl rfl hu95 rfl (by assumption) rfl) ?_
        refine E.GL.run rfl rfl rfl (E.Runs.load (v := .int .i64 x.f0) rfl rfl hu3 (by rw [← E.add_onA]; exact pw_cell_below hM.bel (X 0 _ rfl))) ?_
        refine E.GL.run rfl rfl rfl (E.Runs.assign rfl rfl) ?_
        refine E.GL.done ?_
        exact E.QG.round2 (d := .slice none 0 0) ⟨x.f0.toNat, s3.P ++ [(k : Int)]⟩ _ (E.subc rfl (E.subc rfl (E.subc rfl (E.subc rfl (E.subc (by rw [Int.toNat_of_nonneg hx3]; rfl) E.subn))))) ⟨by simp only; omega, fun e => absurd e hyl, fun _ => ⟨hxV, hwp.step (by omega) hx hx1 hx2 hxd⟩, by simp only [List.length_append, List.length_singleton]; omega, hM⟩ (by simp only; omega)
      · have hT : yl ≠ 0 → ∃ d, Wl ls d last s3.P := fun e => absurd (show s.bl[s3.at_]? = some 0 by rw [hba]; congr 1; omega) ((hb.is _ (by omega)).mpr ⟨(hw1 e).1, by omega⟩)
        refine E.GL.run rfl rfl rfl (E.Runs.pick_t rfl rfl rfl) ?_
        refine E.GL.done ?_
        refine E.QG.code ?_
        refine E.CG.cond_f rfl ?_
        refine E.CG.exit ?_
        refine E.QG.pass_exit ?_
        refine E.QG.pass_exit ?_
        refine E.QG.block_here ?_
        refine E.QG.code ?_
        refine E.CG.seq ?_
        have hcl2 := (hM.set hbl).1
        refine E.CG.quietF (by kernel_rfl) rfl (by kernel_rfl) (by kernel_rfl) ?_
        refine E.GQ.run rfl rfl rfl (E.Runs.move rfl rfl) ?_
        refine E.GQ.run rfl rfl rfl (E.Runs.move rfl rfl) ?_
        refine E.GQ.run rfl rfl rfl (E.Runs.move rfl rfl) ?_
        refine E.GQ.run rfl rfl rfl (E.Runs.indexAddrA (i := last) rfl rfl rfl hu22 z3 o3 (by omega) rfl (show _ = (⟨gB, last * 1, none⟩ : Addr) from by rw [Go.Addr.add_mid, Nat.zero_add])) ?_
        refine E.GQ.run rfl rfl rfl (E.Runs.load rfl rfl hu3 hcl2) ?_
        refine E.GQ.cmp rfl rfl rfl (fun _ h => (E.Runs.gtr rfl rfl rfl h)) (fun h121 => ?_) (fun h121 => ?_)
        · refine E.GQ.run rfl rfl rfl (E.Runs.assign rfl rfl) ?_
          refine E.GQ.run rfl rfl rfl (E.Runs.assign rfl rfl) ?_
          refine E.GQ.doneB fun v17 lD => ?_
          replace hM := hM.below lD
          have lD17 := lD
          clear lD
          refine E.QG.code ?_
          refine E.CG.ret ?_
          exact E.QG.result2 rfl rfl rfl ⟨_, s3.P, true, rfl, hM.row, ⟨fun _ => hT (by omega), fun q => by cases q⟩, hM.bel⟩
        · refine E.GQ.run rfl rfl rfl (E.Runs.assign rfl rfl) ?_
          refine E.GQ.run rfl rfl rfl (E.Runs.assign rfl rfl) ?_
          refine E.GQ.doneB fun v17 lD => ?_
          replace hM := hM.below lD
          have lD17 := lD
          clear lD
          refine E.QG.code ?_
          refine E.CG.ret ?_
          exact E.QG.result2 rfl rfl rfl ⟨_, s3.P, false, rfl, hM.row, hC (by have := hb.nn _ (List.mem_of_getElem? hbl); omega) _, hM.bel⟩
    · have hT : yl ≠ 0 → ∃ d, Wl ls d last s3.P := fun e => ⟨_, by have := (hw1 e).2 [] (by show s3.at_ = 0; omega); rw [List.append_nil] at this; exact this⟩
      refine E.GL.run rfl rfl rfl (E.Runs.move rfl rfl) ?_
      refine E.GL.skip rfl rfl rfl ?_
      refine E.GL.skip rfl rfl rfl ?_
      refine E.GL.skip rfl rfl rfl ?_
      refine E.GL.skip rfl rfl rfl ?_
      refine E.GL.skip rfl rfl rfl ?_
      refine E.GL.run rfl rfl rfl (E.Runs.pick_f rfl rfl rfl) ?_
      refine E.GL.done ?_
      refine E.QG.code ?_
      refine E.CG.cond_f rfl ?_
      refine E.CG.exit ?_
      refine E.QG.pass_exit ?_
      refine E.QG.pass_exit ?_
      refine E.QG.block_here ?_
      refine E.QG.code ?_
      refine E.CG.seq ?_
      have hcl2 := (hM.set hbl).1
      refine E.CG.quietF (by kernel_rfl) rfl (by kernel_rfl) (by kernel_rfl) ?_
      refine E.GQ.run rfl rfl rfl (E.Runs.move rfl rfl) ?_
      refine E.GQ.run rfl rfl rfl (E.Runs.move rfl rfl) ?_
      refine E.GQ.run rfl rfl rfl (E.Runs.move rfl rfl) ?_
      refine E.GQ.run rfl rfl rfl (E.Runs.indexAddrA (i := last) rfl rfl rfl hu22 z3 o3 (by omega) rfl (show _ = (⟨gB, last * 1, none⟩ : Addr) from by rw [Go.Addr.add_mid, Nat.zero_add])) ?_
      refine E.GQ.run rfl rfl rfl (E.Runs.load rfl rfl hu3 hcl2) ?_
      refine E.GQ.cmp rfl rfl rfl (fun _ h => (E.Runs.gtr rfl rfl rfl h)) (fun h121 => ?_) (fun h121 => ?_)
      · refine E.GQ.run rfl rfl rfl (E.Runs.assign rfl rfl) ?_
        refine E.GQ.run rfl rfl rfl (E.Runs.assign rfl rfl) ?_
        refine E.GQ.doneB fun v17 lD => ?_
        replace hM := hM.below lD
        have lD17 := lD
        clear lD
        refine E.QG.code ?_
        refine E.CG.ret ?_
        exact E.QG.result2 rfl rfl rfl ⟨_, s3.P, true, rfl, hM.row, ⟨fun _ => hT (by omega), fun q => by cases q⟩, hM.bel⟩
      · refine E.GQ.run rfl rfl rfl (E.Runs.assign rfl rfl) ?_
        refine E.GQ.run rfl rfl rfl (E.Runs.assign rfl rfl) ?_
        refine E.GQ.doneB fun v17 lD => ?_
        replace hM := hM.below lD
        have lD17 := lD
        clear lD
        refine E.QG.code ?_
        refine E.CG.ret ?_
        exact E.QG.result2 rfl rfl rfl ⟨_, s3.P, false, rfl, hM.row, hC (by have := hb.nn _ (List.mem_of_getElem? hbl); omega) _, hM.bel⟩

end Go.Proofs.Ytmnjlnkfihklgaa.T
namespace Go.Proofs.Ytmnjlnkfihklgaa.T
open Go.RowKit Go.Proofs.YtmnjlnkfihklgaaW.PrintWords Go.Proofs.YtmnjlnkfihklgaaW.PrintMore
open Go.Proofs.Ytmnjlnkfihklgaa.P
set_option linter.unusedVariables false
/-- The ways, with what flows. -/
def wayF (f : Nat → Int) : List Ed → Nat → List S95
  | [], _ => []
  | e :: r, k => ⟨e.fr, e.td, e.cap - f k⟩ :: ⟨e.td, e.fr, f k⟩ :: wayF f r (k + 1)
def hI (h : Nat × Bool) : Nat := 2 * h.1 + if h.2 then 0 else 1
theorem wayF_len (f : Nat → Int) : ∀ (E : List Ed) (k : Nat), (wayF f E k).length = 2 * E.length
  | [], _ => rfl
  | e :: r, k => by simp only [wayF, List.length_cons, wayF_len f r (k + 1)]; omega
theorem wayF_zero : ∀ (E : List Ed) (k : Nat), wayF (fun _ => 0) E k = way0 E
  | [], _ => rfl
  | e :: r, k => by
    simp only [wayF, wayF_zero r (k + 1)]
    simp [way0, way2]
theorem wayF_at (f : Nat → Int) : ∀ {E : List Ed} {k0 i : Nat} {e : Ed}, E[i]? = some e → (wayF f E k0)[2 * i]? = some ⟨e.fr, e.td, e.cap - f (k0 + i)⟩ ∧ (wayF f E k0)[2 * i + 1]? = some ⟨e.td, e.fr, f (k0 + i)⟩
  | [], _, _, _, h => by simp at h
  | a :: r, k0, 0, e, h => by
    obtain rfl : a = e := by simpa using h
    exact ⟨rfl, rfl⟩
  | a :: r, k0, i + 1, e, h => by
    have ih := wayF_at f (E := r) (k0 := k0 + 1) (i := i) (e := e) (by simpa using h)
    rw [show k0 + 1 + i = k0 + (i + 1) by omega] at ih
    refine ⟨?_, ?_⟩
    · rw [show 2 * (i + 1) = 2 * i + 1 + 1 by omega]
      simpa [wayF] using ih.1
    · rw [show 2 * (i + 1) + 1 = 2 * i + 1 + 1 + 1 by omega]
      simpa [wayF] using ih.2
theorem wayF_half {f : Nat → Int} {E : List Ed} {k : Nat} {e : Ed} (h : E[k]? = some e) (b : Bool) : (wayF f E 0)[hI (k, b)]? = some ⟨near e b, far e b, roomP E f (k, b)⟩ := by
  obtain ⟨h1, h2⟩ := wayF_at f (k0 := 0) h
  rw [Nat.zero_add] at h1 h2
  unfold hI roomP near far
  cases b
  · simp only [Bool.false_eq_true, if_false]
    exact h2
  · simp only [if_true, Nat.add_zero, getD_at h]
    exact h1
theorem wayF_inv {f : Nat → Int} {E : List Ed} {i : Nat} {x : S95} (h : (wayF f E 0)[i]? = some x) : ∃ (k : Nat) (b : Bool) (e : Ed), i = hI (k, b) ∧ E[k]? = some e ∧ x = ⟨near e b, far e b, roomP E f (k, b)⟩ := by
  have hl := (List.getElem?_eq_some_iff.1 h).1
  rw [wayF_len] at hl
  have hk : i / 2 < E.length := by omega
  have he : E[i / 2]? = some (E[i / 2]'hk) := List.getElem?_eq_getElem hk
  refine ⟨i / 2, decide (i % 2 = 0), _, ?_, he, ?_⟩
  · unfold hI
    by_cases q : i % 2 = 0
    · simp only [q, decide_true, if_true]; omega
    · simp only [q, decide_false, Bool.false_eq_true, if_false]; omega
  · have h2 := wayF_half (f := f) he (decide (i % 2 = 0))
    have e1 : hI (i / 2, decide (i % 2 = 0)) = i := by
      unfold hI
      by_cases q : i % 2 = 0
      · simp only [q, decide_true, if_true]; omega
      · simp only [q, decide_false, Bool.false_eq_true, if_false]; omega
    rw [e1, h] at h2
    exact Option.some.inj h2
theorem hI_inj {k j : Nat} {b c : Bool} (h : hI (k, b) = hI (j, c)) : k = j ∧ b = c := by
  unfold hI at h
  cases b <;> cases c <;> simp at h ⊢ <;> omega
theorem hI_xor (k : Nat) (b : Bool) : hI (k, b) ^^^ 1 = hI (k, !b) := by
  have h1 := Nat.xor_div_two (a := hI (k, b)) (b := 1)
  have h2 := Nat.xor_mod_two_pow (a := hI (k, b)) (b := 1) (n := 1)
  simp only [Nat.reduceDiv, Nat.xor_zero, Nat.pow_one] at h1 h2
  unfold hI at h1 h2 ⊢
  cases b
  · simp only [Bool.not_false, Bool.false_eq_true, if_true, if_false] at h1 h2 ⊢
    rw [show (2 * k + 1) % 2 = 1 by omega] at h2
    simp at h2
    omega
  · simp only [Bool.not_true, Bool.false_eq_true, if_true, if_false, Nat.add_zero] at h1 h2 ⊢
    rw [show (2 * k) % 2 = 0 by omega, show (0 : Nat) ^^^ 1 % 2 = 1 from rfl] at h2
    omega
/-- A push by one. -/
theorem wayF_push {f : Nat → Int} {E : List Ed} {k : Nat} {e : Ed} (h : E[k]? = some e) (b : Bool) :
    ((wayF f E 0).set (hI (k, b)) ⟨near e b, far e b, roomP E f (k, b) - 1⟩).set (hI (k, !b)) ⟨near e (!b), far e (!b), roomP E f (k, !b) + 1⟩ = wayF (upd f k (sgn b 1)) E 0 := by
  have hk := (List.getElem?_eq_some_iff.1 h).1
  have hlt : ∀ c, hI (k, c) < 2 * E.length := fun c => by unfold hI; cases c <;> simp <;> omega
  apply List.ext_getElem?
  intro i
  by_cases hi : i < 2 * E.length
  · obtain ⟨x, hx⟩ : ∃ x, (wayF f E 0)[i]? = some x := ⟨_, List.getElem?_eq_getElem (by rw [wayF_len]; exact hi)⟩
    obtain ⟨j, c, a, rfl, ha, rfl⟩ := wayF_inv hx
    rw [wayF_half ha c]
    by_cases hj : j = k
    · subst hj
      rw [h] at ha
      cases ha
      by_cases hc : c = b
      · subst hc
        rw [List.getElem?_set_ne (fun q => by have := (hI_inj q).2; cases c <;> cases this), List.getElem?_set_self (by rw [wayF_len]; exact hlt c), room_upd_same]
      · obtain rfl : c = !b := by cases b <;> cases c <;> simp at hc ⊢
        rw [List.getElem?_set_self (by rw [List.length_set, wayF_len]; exact hlt _), room_upd_back]
    · rw [List.getElem?_set_ne (fun q => hj (hI_inj q).1.symm), List.getElem?_set_ne (fun q => hj (hI_inj q).1.symm), hx, room_upd_other c _ hj]
  · rw [List.getElem?_eq_none (by rw [List.length_set, List.length_set, wayF_len]; omega), List.getElem?_eq_none (by rw [wayF_len]; omega)]
/-- A way, by the halves of its edges. -/
def Wh (E : List Ed) (f : Nat → Int) : Nat → List (Nat × Bool) → Prop
  | v, [] => v = 0
  | v, (k, b) :: r => v ≠ 0 ∧ ∃ e, E[k]? = some e ∧ far e b = v ∧ 0 < roomP E f (k, b) ∧ Wh E f (near e b) r
theorem wh_of {E : List Ed} {f : Nat → Int} {d : Nat → Nat} : ∀ {P : List Int} {v : Nat}, Wl (wayF f E 0) d v P → ∃ H : List (Nat × Bool), P = H.map (fun h => (hI h : Int)) ∧ Wh E f v H ∧ (H.map Prod.fst).Nodup ∧ ∀ k b e, (k, b) ∈ H → E[k]? = some e → d (far e b) ≤ d v ∧ d (near e b) < d (far e b)
  | [], v, h => ⟨[], rfl, h, by simp, fun k b e hk => by cases hk⟩
  | i :: r, v, ⟨h0, k0, x, hik, hx, h1, h2, h3, h4⟩ => by
    subst hik
    obtain ⟨k, b, e, rfl, he, rfl⟩ := wayF_inv hx
    simp only [Int.toNat_natCast] at h1 h2 h3 h4
    have hf : far e b = v := by omega
    obtain ⟨H, q1, q2, q3, q4⟩ := wh_of h4
    refine ⟨(k, b) :: H, by rw [q1]; rfl, ⟨h0, e, he, hf, h2, q2⟩, ?_, ?_⟩
    · rw [List.map_cons, List.nodup_cons]
      refine ⟨fun hm => ?_, q3⟩
      obtain ⟨⟨k', b'⟩, m1, m2⟩ := List.mem_map.mp hm
      obtain rfl : k' = k := m2
      obtain ⟨t1, t2⟩ := q4 k' b' e m1 he
      by_cases hb : b' = b
      · subst hb
        rw [hf] at t1
        omega
      · obtain rfl : b' = !b := by cases b <;> cases b' <;> simp at hb ⊢
        rw [near_not, hf] at t2
        rw [far_not] at t1 t2
        omega
    · intro k' b' e' hm' he'
      rcases List.mem_cons.mp hm' with q | q
      · injection q with p1 p2
        subst p1 p2
        rw [he] at he'
        cases he'
        rw [hf]
        exact ⟨Nat.le_refl _, h3⟩
      · obtain ⟨t1, t2⟩ := q4 k' b' e' q he'
        exact ⟨by omega, t2⟩
theorem wh_congr {E : List Ed} {f g : Nat → Int} : ∀ {H : List (Nat × Bool)} {v : Nat}, (∀ h ∈ H, roomP E g h = roomP E f h) → Wh E f v H → Wh E g v H
  | [], _, _, h => h
  | (k, b) :: r, v, hr, ⟨h1, e, h3, h4, h7, h8⟩ => ⟨h1, e, h3, h4, by rw [hr _ List.mem_cons_self]; exact h7, wh_congr (fun h hm => hr h (List.mem_cons_of_mem _ hm)) h8⟩
theorem wh_step {E : List Ed} {f : Nat → Int} {k : Nat} {b : Bool} {r : List (Nat × Bool)} {v : Nat} {e : Ed} (he : E[k]? = some e) (hf : far e b = v) (h0 : 0 < roomP E f (k, b)) (hw : Wh E f (near e b) r) (hnd : (((k, b) :: r).map Prod.fst).Nodup) (ho : FlowOk E f) :
    Wh E (upd f k (sgn b 1)) (near e b) r ∧ (r.map Prod.fst).Nodup ∧ FlowOk E (upd f k (sgn b 1)) ∧ ∀ u, exc (upd f k (sgn b 1)) u E 0 = exc f u E 0 + (if v = u then 1 else 0) - (if near e b = u then 1 else 0) := by
  rw [List.map_cons, List.nodup_cons] at hnd
  have hr : ∀ h ∈ r, roomP E (upd f k (sgn b 1)) h = roomP E f h := fun h hm => by
    obtain ⟨j, c⟩ := h
    exact room_upd_other c _ (fun q => hnd.1 (by subst q; exact List.mem_map.mpr ⟨_, hm, rfl⟩))
  refine ⟨wh_congr hr hw, hnd.2, fun j a ha => ?_, fun u => ?_⟩
  · by_cases q : j = k
    · subst q
      rw [he] at ha
      cases ha
      have h2 := ho j e he
      rw [upd_same]
      unfold roomP at h0
      rw [getD_at he] at h0
      cases b
      · simp only [sgn, Bool.false_eq_true, if_false] at h0 ⊢
        omega
      · simp only [sgn, if_true] at h0 ⊢
        omega
    · rw [upd_other f _ q]
      exact ho j a ha
  · have := exc_upd f u (sgn b 1) E 0 k e he
    rw [Nat.zero_add] at this
    rw [this]
    subst hf
    cases b
    · simp only [near, far, sgn, Bool.false_eq_true, if_false]
      split <;> split <;> omega
    · simp only [near, far, sgn, if_true]
/-! ### The two numberings of the nodes -/
theorem rN_lt {R T r m : Nat} (hr : r < R) (hm : m ≤ T) : 0 < rN R r m ∧ rN R r m < lastN R T := by
  have h1 := Nat.mul_le_mul_right R hm
  unfold rN lastN
  rw [Nat.mul_add, Nat.mul_one, Nat.mul_comm R T]
  omega
theorem rN_inj {R r m s k : Nat} (hr : r < R) (hs : s < R) (h : rN R r m = rN R s k) : r = s ∧ m = k := by
  unfold rN at h
  have h1 : (m * R + r) % R = (k * R + s) % R := by congr 1; omega
  have h2 : (m * R + r) / R = (k * R + s) / R := by congr 1; omega
  rw [Nat.mul_comm m R, Nat.mul_comm k R] at h1 h2
  rw [Nat.mul_add_mod, Nat.mul_add_mod, Nat.mod_eq_of_lt hr, Nat.mod_eq_of_lt hs] at h1
  rw [Nat.mul_add_div (by omega), Nat.mul_add_div (by omega), Nat.div_eq_of_lt hr, Nat.div_eq_of_lt hs] at h2
  exact ⟨h1, by omega⟩
theorem lastN_pos (R T : Nat) : 0 < lastN R T := by unfold lastN; omega
theorem xN_lt {R T v : Nat} (hv : v < nodeN T R 0) : xN R T v < lastN R T + 1 := by
  by_cases e0 : v = 0
  · subst e0
    rw [xN_zero]
    omega
  · by_cases e1 : v = 1
    · subst e1
      rw [xN_one]
      omega
    · obtain ⟨r, m, q1, q2, rfl⟩ := node_of (by omega) hv
      rw [xN_node q2]
      have := rN_lt q1 q2
      omega
theorem xN_inj {R T v u : Nat} (hv : v < nodeN T R 0) (hu : u < nodeN T R 0) (h : xN R T v = xN R T u) : v = u := by
  have kind : ∀ v, v < nodeN T R 0 → v = 0 ∨ v = 1 ∨ ∃ r m, r < R ∧ m ≤ T ∧ v = nodeN T r m := fun v hv => by
    by_cases e0 : v = 0
    · exact .inl e0
    · by_cases e1 : v = 1
      · exact .inr (.inl e1)
      · exact .inr (.inr (node_of (by omega) hv))
  have lp := lastN_pos R T
  rcases kind v hv with rfl | rfl | ⟨r, m, hr, hm, rfl⟩
  · rcases kind u hu with rfl | rfl | ⟨s, k, hs, hk, rfl⟩
    · rfl
    · rw [xN_zero, xN_one] at h; omega
    · rw [xN_zero, xN_node hk] at h; have := rN_lt hs hk; omega
  · rcases kind u hu with rfl | rfl | ⟨s, k, hs, hk, rfl⟩
    · rw [xN_zero, xN_one] at h; omega
    · rfl
    · rw [xN_one, xN_node hk] at h; have := rN_lt hs hk; omega
  · rcases kind u hu with rfl | rfl | ⟨s, k, hs, hk, rfl⟩
    · rw [xN_zero, xN_node hm] at h; have := rN_lt hr hm; omega
    · rw [xN_one, xN_node hm] at h; have := rN_lt hr hm; omega
    · rw [xN_node hm, xN_node hk] at h
      obtain ⟨rfl, rfl⟩ := rN_inj hr hs h
      rfl
theorem exc_map {f : Nat → Int} {F : Ed → Ed} {g : Nat → Nat} {v : Nat} : ∀ {E : List Ed} {k : Nat}, (∀ e ∈ E, ((F e).fr = g v ↔ e.fr = v) ∧ ((F e).td = g v ↔ e.td = v)) → exc f (g v) (E.map F) k = exc f v E k
  | [], _, _ => rfl
  | e :: r, k, h => by
    have h1 := h e List.mem_cons_self
    simp only [List.map_cons, exc, exc_map (E := r) (k := k + 1) (fun x hx => h x (List.mem_cons_of_mem _ hx)), h1.1, h1.2]
section
variable {ps : List Int} {qs : List S45} {T : Nat} {f : Nat → Int}
theorem edX_at {k : Nat} {e : Ed} (h : (edH ps qs T)[k]? = some e) : (edX ps qs T)[k]? = some (xE ps T e) := by
  unfold edX
  rw [List.getElem?_map, h]
  rfl
theorem edX_exc (h : HOk ps qs) {v : Nat} (hv : v < nodeN T ps.length 0) : exc f (xN ps.length T v) (edX ps qs T) 0 = exc f v (edH ps qs T) 0 := by
  unfold edX
  refine exc_map (g := xN ps.length T) fun e he => ?_
  obtain ⟨h1, h2, _⟩ := edH_ok (T := T) h e he
  exact ⟨⟨fun q => xN_inj h1 hv q, fun q => by rw [← q]; rfl⟩, ⟨fun q => xN_inj h2 hv q, fun q => by rw [← q]; rfl⟩⟩
theorem edX_ok (h : HOk ps qs) : ∀ e ∈ edX ps qs T, e.fr < lastN ps.length T + 1 ∧ e.td < lastN ps.length T + 1 := by
  intro e he
  obtain ⟨a, ha, rfl⟩ := List.mem_map.mp he
  obtain ⟨h1, h2, _⟩ := edH_ok (T := T) h a ha
  exact ⟨xN_lt h1, xN_lt h2⟩
theorem wsX (h : HOk ps qs) (f : Nat → Int) : WsOk (wayF f (edX ps qs T) 0) (lastN ps.length T + 1) := by
  intro x hx
  obtain ⟨i, hi⟩ := List.mem_iff_getElem?.mp hx
  obtain ⟨k, b, e, _, he, rfl⟩ := wayF_inv hi
  have := edX_ok h e (List.mem_of_getElem? he)
  cases b <;> simp only [near, far, Bool.false_eq_true, if_true, if_false] <;> omega
theorem allP_nonneg (h : HOk ps qs) : 0 ≤ allP ps := by
  unfold allP
  exact sumN_nonneg fun r hr => (h.p _ (getD_mem (z := 0) hr)).1
theorem edX_cap (h : HOk ps qs) : ∀ e ∈ edX ps qs T, 0 ≤ e.cap ∧ e.cap ≤ 1073741824 := by
  intro e he
  obtain ⟨a, ha, rfl⟩ := List.mem_map.mp he
  have h1 := edH_cap h a ha
  have h2 := allP_le h
  have h3 := allP_nonneg h
  unfold xE
  simp only
  split <;> omega
/-- Where the reference stands: so many are out. -/
structure Xf (ps : List Int) (qs : List S45) (T : Nat) (f : Nat → Int) (n : Int) : Prop where
  ok : FlowOk (edX ps qs T) f
  calm : ∀ v, v ≠ 0 → v ≠ lastN ps.length T → exc f v (edX ps qs T) 0 = 0
  out : exc f (lastN ps.length T) (edX ps qs T) 0 = n
theorem Xf.first (h : HOk ps qs) : Xf ps qs T (fun _ => 0) 0 := ⟨fun k e he => ⟨Int.le_refl _, (edX_cap h e (List.mem_of_getElem? he)).1⟩, fun v _ _ => exc_zero v _ 0, exc_zero _ _ 0⟩
theorem Xf.hflow {n : Int} (X : Xf ps qs T f n) (h : HOk ps qs) : HFlow ps qs T f n := by
  refine ⟨fun k e he => (X.ok k _ (edX_at he)).1, fun k e he hc => ?_, fun v hv h0 h1 => ?_, ?_⟩
  · have := (X.ok k _ (edX_at he)).2
    unfold xE at this
    simp only at this
    rw [if_neg (fun z => by rcases hc with q | q; exact z.1 q; exact q z.2)] at this
    exact this
  · rw [← edX_exc h hv]
    have lp := lastN_pos ps.length T
    refine X.calm _ (fun e => h0 ?_) (fun e => h1 ?_)
    · exact xN_inj hv (by have := one_lt ps T; omega) (e.trans (xN_zero _ _).symm)
    · exact xN_inj hv (one_lt ps T) (e.trans (xN_one _ _).symm)
  · rw [← edX_exc h (one_lt ps T), xN_one]
    exact X.out
theorem Xf.le {n : Int} (X : Xf ps qs T f n) (h : HOk ps qs) : n ≤ allP ps := (X.hflow h).out_le h
theorem bound_all (h : HOk ps qs) : boundU ps qs T (fun _ => T + 1) = allP ps := by
  unfold boundU allP
  rw [sumQ_congr (b := fun _ _ => 0), sumQ_zero, Int.add_zero]
  · exact sumN_congr fun r _ => if_pos (Nat.succ_pos T)
  · intro i k _ hk
    exact if_neg (fun z => by have h1 : T + 1 ≤ k := z.1; omega)
theorem Xf.most {n : Int} (X : Xf ps qs T f n) (h : HOk ps qs) (S : Nat → Prop) (h0 : S 0) (h1 : ¬ S (lastN ps.length T)) (hc : ∀ x ∈ wayF f (edX ps qs T) 0, S x.f0.toNat → 0 < x.f2 → S x.f1.toNat) : IsMost ps qs T n := by
  have F := X.hflow h
  have half : ∀ (k : Nat) (e : Ed), (edX ps qs T)[k]? = some e → ∀ b, S (near e b) → ¬ S (far e b) → roomP (edX ps qs T) f (k, b) ≤ 0 := by
    intro k e he b hs ht
    have := hc _ (List.mem_of_getElem? (wayF_half (f := f) he b))
    simp only [Int.toNat_natCast] at this
    by_cases q : 0 < roomP (edX ps qs T) f (k, b)
    · exact absurd (this hs q) ht
    · omega
  have cut : ∀ (k : Nat) (e : Ed), (edH ps qs T)[k]? = some e → (S (xN ps.length T e.fr) → ¬ S (xN ps.length T e.td) → f k = (xE ps T e).cap) ∧ (¬ S (xN ps.length T e.fr) → S (xN ps.length T e.td) → f k = 0) := by
    intro k e he
    have hx := edX_at he
    have hok := X.ok k _ hx
    refine ⟨fun a b => ?_, fun a b => ?_⟩
    · have := half k _ hx true a b
      unfold roomP at this
      rw [getD_at hx] at this
      simp only [if_true] at this
      omega
    · have := half k _ hx false b a
      unfold roomP at this
      simp only [Bool.false_eq_true, if_false] at this
      omega
  by_cases sat : ∃ r m k, r < ps.length ∧ m < T ∧ (edH ps qs T)[k]? = some (holdE T r m) ∧ f k = allP ps
  · obtain ⟨r, m, k, hr, hm, hk, e⟩ := sat
    have a1 := F.hold_le h hm hk
    have a2 := F.out_le h
    obtain rfl : n = allP ps := by omega
    exact ⟨⟨_, F.use h⟩, fun _ => T + 1, fun _ _ => Nat.le_refl _, bound_all h⟩
  · have up : ∀ r m, r < ps.length → m < T → S (rN ps.length r m) → S (rN ps.length r (m + 1)) := by
      intro r m hr hm hs
      refine Classical.byContradiction fun q => ?_
      obtain ⟨k, hk⟩ := hold_mem (qs := qs) hr hm
      have c1 := (cut k _ hk).1
      have hn := nodeN_two T r m
      unfold holdE at c1
      simp only [xN_node (show m ≤ T by omega), xN_node (show m + 1 ≤ T by omega)] at c1
      have := c1 hs q
      unfold xE at this
      simp only at this
      rw [if_pos ⟨by omega, trivial⟩] at this
      exact sat ⟨r, m, k, hr, hm, hk, this⟩
    have ups : ∀ r m, r < ps.length → S (rN ps.length r m) → ∀ j, m + j ≤ T → S (rN ps.length r (m + j)) := by
      intro r m hr hi j
      induction j with
      | zero => intro _; exact hi
      | succ j ih =>
        intro hj
        exact up r (m + j) hr (by omega) (ih (by omega))
    have hx : ∀ r, ∃ h, h ≤ T + 1 ∧ (∀ m, m < h → ¬ S (rN ps.length r m)) ∧ (h ≤ T → S (rN ps.length r h)) := fun r => first_of (fun m => S (rN ps.length r m)) T
    have hsp := fun r => Classical.choose_spec (hx r)
    refine ⟨⟨_, F.use h⟩, fun r => Classical.choose (hx r), fun r _ => (hsp r).1, ?_⟩
    refine F.most h (fun v => S (xN ps.length T v)) (by rw [xN_zero]; exact h0) (by rw [xN_one]; exact h1) _ (fun r m hr hm => ?_) (fun k e he => ?_)
    · rw [xN_node hm]
      obtain ⟨q1, q2, q3⟩ := hsp r
      constructor
      · intro q
        have := ups r _ hr (q3 (by omega)) (m - Classical.choose (hx r)) (by omega)
        rw [show Classical.choose (hx r) + (m - Classical.choose (hx r)) = m by omega] at this
        exact this
      · intro q
        by_cases z : Classical.choose (hx r) ≤ m
        · exact z
        · exact absurd q (q2 m (by omega))
    · refine ⟨fun a b => ?_, (cut k e he).2⟩
      have c1 := (cut k e he).1 a b
      rw [c1]
      unfold xE
      simp only
      by_cases z : e.fr ≠ 0 ∧ e.up = -1
      · refine absurd ?_ sat
        rcases List.mem_append.mp (List.mem_of_getElem? he) with hm | hm
        · obtain ⟨r, hr, rfl | ⟨m, hm', rfl⟩⟩ := edRs_mem hm
          · exact absurd rfl z.1
          · refine ⟨r, m, k, hr, hm', he, ?_⟩
            rw [c1]
            unfold xE
            simp only
            exact if_pos ⟨z.1, trivial⟩
        · obtain ⟨i, m, hi, hm', rfl⟩ := edQs_mem hm
          have := z.2
          simp only at this
          omega
      · rw [if_neg z]
end
end Go.Proofs.Ytmnjlnkfihklgaa.T
namespace Go.Proofs.Ytmnjlnkfihklgaa.T
open Go.RowKit Go.Proofs.YtmnjlnkfihklgaaW.PrintWords Go.Proofs.YtmnjlnkfihklgaaW.PrintMore
open Go.Proofs.Ytmnjlnkfihklgaa.P
set_option linter.unusedVariables false
set_option linter.unusedSimpArgs false

theorem bits_xor1 {i : Nat} (hi : i < 4611686018427387904) : bits .xor .i64 (i : Int) (1 : Int) = ((i ^^^ 1 : Nat) : Int) := by
  have hx : i ^^^ 1 < 2 ^ 62 := Nat.xor_lt_two_pow (by omega) (by omega)
  have h1 : (BitVec.ofInt 64 (i : Int)).toNat = i := by
    rw [BitVec.ofInt_natCast, BitVec.toNat_ofNat]; exact Nat.mod_eq_of_lt (by omega)
  have h2 : (BitVec.ofInt 64 (1 : Int)).toNat = 1 := rfl
  show IntKind.i64.wrap ((BitVec.ofInt 64 (i : Int) ^^^ BitVec.ofInt 64 (1 : Int)).toNat : Int) = _
  rw [BitVec.toNat_xor, h1, h2]
  exact IntWalk.i64_in _ (by omega)
theorem runs_xor1 {N : Nat} {env : E.Env} {o : Oper} {w : World} {t u : TypeId} {x y : Operand} {i j : Nat} (hi : i < 4611686018427387904) (hj : i ^^^ 1 = j) (ho : o.op = .binOp .xor t x y u) (hx : E.Ev env x (.int .i64 (i : Int))) (hy : E.Ev env y (.int .i64 1)) : E.Runs Try.prog N env o w (.int .i64 (j : Int)) := fun a w' ha hw => by
  have e1 := ha.eval hx
  have e2 := ha.eval hy
  have e3 := bits_xor1 hi
  generalize a.eval = ρ at e1 e2 ⊢
  unfold execOp; rw [ho]; simp only []; rw [e1, e2]
  subst hj
  simp [go_sem, e3]
theorem path_callsN (ls : List S95) (n : Nat) (hn : n = ls.length) (A : Option Addr) (c last : Nat) (w : World) (hL : Kd.C k95 w A ls.length ls) (hW : WsOk ls (last + 1)) (hl1 : 1 ≤ last) (hl2 : last ≤ 10000) (hlen : ls.length ≤ 100000) :
    Calls Try.prog 63 #[.slice A n c, .int .i64 last] w fun e w' => ∃ v P b, e = .returned (.tuple #[v, .bool b]) ∧ Kd.R kI 3 w' w.heap.size (fun _ => True) v P ∧ PathOk ls last P b ∧ Below w.heap.size w w' := by
  subst hn
  exact path_calls ls A c last w hL hW hl1 hl2 hlen
/-- A way of a row: a write of how many are left. -/
theorem row95_at {W : World} {base : Nat} {A : Option Addr} {n c : Nat} {xs : List S95} {i : Nat} {x : S95} (R : Kd.R k95 95 W base (fun _ => True) (.slice A n c) xs) (hi : xs[i]? = some x) :
    ∃ g, A = some ⟨g, 0, none⟩ ∧ base ≤ g ∧ W.cell? ⟨g, i * 3 + 2, none⟩ = some (.int .i64 x.f2) ∧ W.frozen? ⟨g, i * 3 + 2, none⟩ = false ∧ (∃ cells, W.heap[g]? = some (.cells cells 95 (0, 0))) ∧
      (∀ y : Int, ∃ w', w' = W.setCell ⟨g, i * 3 + 2, none⟩ (.int .i64 y) ∧ Kd.R k95 95 w' base (fun _ => True) (.slice A n c) (xs.set i { x with f2 := y }) ∧ W.grownBy w' (some g)) := by
  have hil := (List.getElem?_eq_some_iff.1 hi).1
  obtain ⟨g, cap, hv, hb, hl, cells, hc⟩ := Kd.R_form R (by omega)
  have hn := (Kd.R_reads' R).1
  injection hv with hA hn' hc'
  subst hA hc'
  obtain ⟨cs, h1, h2, h3, h4⟩ := Kd.R_elem R x (i : Int) (by omega) (by omega)
  have hx : xs.getD i x = x := by simp [List.getD_eq_getElem?_getD, hi]
  rw [Int.toNat_natCast, hx] at h2
  obtain rfl := k95_open (Kd.K_of_M k95 h2)
  rw [Int.toNat_natCast] at h3 h4
  refine ⟨g, rfl, hb, h3 2 _ rfl, h4 2, ⟨cells, hc⟩, fun y => ⟨_, rfl, ?_⟩⟩
  have := Kd.R_seg R (i : Int) (by omega) (by omega) (seg := [.int .i64 y]) (j := 2) h1 (by rw [Int.toNat_natCast]; exact h3) (by show 2 + 1 ≤ 3; decide) (x' := { x with f2 := y }) (okp := fun _ => False) (k95_mkM _ _ _ { x with f2 := y }) (fun _ hk => hk.elim)
  rw [Int.toNat_natCast] at this
  exact this
structure Px where
  f : Nat → Int
  n : Int
structure Py where
  g : Nat → Int
  v : Nat
  H : List (Nat × Bool)
  j : Nat
abbrev ints2 (H : List (Nat × Bool)) : List Int := H.map (fun h => (hI h : Int))
/-- A flow, and one more who is on the way to a node. -/
structure Xg (E : List Ed) (last : Nat) (f g : Nat → Int) (v : Nat) (H : List (Nat × Bool)) : Prop where
  wh : Wh E g v H
  nd : (H.map Prod.fst).Nodup
  ok : FlowOk E g
  exc : ∀ u, exc g u E 0 = T.exc f u E 0 + (if last = u then 1 else 0) - (if v = u then 1 else 0)
theorem Xg.step {E : List Ed} {last : Nat} {f g : Nat → Int} {k : Nat} {b : Bool} {r : List (Nat × Bool)} {v : Nat} {e : Ed} (X : Xg E last f g v ((k, b) :: r)) (he : E[k]? = some e) : Xg E last f (upd g k (sgn b 1)) (near e b) r := by
  obtain ⟨_, e', he', hf, h0, hw⟩ := X.wh
  rw [he] at he'
  cases he'
  obtain ⟨q1, q2, q3, q4⟩ := wh_step he hf h0 hw X.nd X.ok
  refine ⟨q1, q2, q3, fun u => ?_⟩
  rw [q4, X.exc]
  omega
theorem Xg.last {ps : List Int} {qs : List S45} {T v : Nat} {f g : Nat → Int} {n : Int} (X : Xg (edX ps qs T) (lastN ps.length T) f g v []) (F : Xf ps qs T f n) : Xf ps qs T g (n + 1) := by
  have h0 : v = 0 := X.wh
  subst h0
  have lp := lastN_pos ps.length T
  refine ⟨X.ok, fun u h1 h2 => ?_, ?_⟩
  · rw [X.exc, F.calm u h1 h2, if_neg (fun e => h2 e.symm), if_neg (fun e => h1 e.symm)]
    rfl
  · rw [X.exc, F.out, if_pos rfl, if_neg (by omega)]
    omega
theorem wh_in {E : List Ed} {f : Nat → Int} : ∀ {H : List (Nat × Bool)} {v : Nat}, Wh E f v H → ∀ h ∈ H, h.1 < E.length
  | [], _, _, h, hm => by cases hm
  | (k, b) :: r, v, ⟨_, e, he, _, _, hw⟩, h, hm => by
    rcases List.mem_cons.mp hm with rfl | hm
    · exact (List.getElem?_eq_some_iff.1 he).1
    · exact wh_in hw h hm
theorem wh_few {E : List Ed} {f : Nat → Int} {H : List (Nat × Bool)} {v : Nat} (h : Wh E f v H) (hn : (H.map Prod.fst).Nodup) : H.length ≤ E.length := by
  have := nodup_len (k := List.range E.length) hn (fun x hx => by
    obtain ⟨y, hy, rfl⟩ := List.mem_map.mp hx
    exact List.mem_range.mpr (wh_in h y hy))
  simpa using this
theorem lastN_small {R T : Nat} (hR : R ≤ 6) (hT : T ≤ 60) : lastN R T ≤ 400 := by
  have := Nat.mul_le_mul hR (show T + 1 ≤ 61 by omega)
  unfold lastN
  omega
theorem edX_few {ps : List Int} {qs : List S45} {T : Nat} (h : HOk ps qs) (hT : T ≤ 60) : (edX ps qs T).length ≤ 2000 := by
  unfold edX
  rw [List.length_map]
  have := edH_len h hT
  omega
theorem hI_lt {E : List Ed} {k : Nat} {b : Bool} (h : k < E.length) : hI (k, b) < 2 * E.length := by unfold hI; cases b <;> simp <;> omega
set_option maxRecDepth 100000 in
set_option maxHeartbeats 8000000 in

theorem mostR_calls (ps : List Int) (qs : List S45) (A B : Option Addr) (c d T : Nat) (w : World) (hok : HOk ps qs) (hT : T ≤ 60) (hP : Kd.C kI w A ps.length ps) (hQ : Kd.C k45 w B qs.length qs) :
    Calls Try.prog 52 #[hv ps qs A B c d, .int .i64 (T : Int)] w fun e w' => ∃ N, e = .returned (.int .i64 N) ∧ IsMost ps qs T N ∧ Below w.heap.size w w' := by
  have hu3 := Try.underlying3
  have hu22 := Try.underlying22
  have hu25 := Try.underlying25
  have hu89 := Try.underlying89
  have hu95 := Try.underlying95
  obtain ⟨z3, o3⟩ := info_some info3s (by decide)
  obtain ⟨z22, o22⟩ := info_some info22s (by decide)
  obtain ⟨z25, o25⟩ := info_some info25s (by decide)
  obtain ⟨z89, o89⟩ := info_some info89s (by decide)
  obtain ⟨z95, o95⟩ := info_some info95s (by decide)
  have hr6 := hok.r6
  have hla := lastN_small hr6 hT
  have hlp := lastN_pos ps.length T
  have hfew := edX_few hok hT
  refine E.enter (N := 57) Try.func52 rfl Try.ntmps52 (args := [hv ps qs A B c d, .int .i64 (T : Int)]) (by simp) ?_
  have L := Below.refl w.heap.size w
  refine E.CG.seq ?_
  refine E.CG.list ?_
  refine E.GL.st rfl rfl rfl (E.ST.box rfl rfl fun g2 w2 e2 b2 l2 => ?_)
  have h2_L : w.heap.size ≤ g2 := by rw [e2]; exact L.size
  replace L := below_step L l2
  refine E.GL.run rfl rfl rfl (E.Runs.assign rfl rfl) ?_
  refine E.GL.done ?_
  refine E.QG.code ?_
  refine E.CG.seq ?_
  refine E.CG.list ?_
  refine E.GL.run rfl rfl rfl (E.Runs.loads (cs := [.slice A ps.length c, .slice B qs.length d]) rfl rfl hu25 rfl info25s (blk_cells b2)) ?_
  refine E.GL.run rfl rfl rfl (E.Runs.move rfl rfl) ?_
  have hs14 := L.size
  refine E.GL.st rfl rfl rfl (E.ST.call rfl ent62 (E.evc rfl (E.evc rfl E.evn)) ((ways_calls ps qs A B c d T _ hok hT (Kd.C_below hP L) (Kd.C_below hQ L)).mono ?_))
  rintro e w14 ⟨v14, rfl, R14, l14⟩
  refine ⟨_, rfl, ?_⟩
  replace b2 := blk_below b2 l14
  replace L := below_step L l14
  obtain ⟨A5, c5, hv14⟩ := Kd.R_slice R14
  subst hv14
  rw [way0_len]
  rw [way0_len, ← wayF_zero (edX ps qs T) 0] at R14
  have R5 := Kd.R_lower R14 hs14
  clear R14
  have hXf := Xf.first (T := T) hok
  refine E.GL.run rfl rfl rfl (E.Runs.move rfl rfl) ?_
  refine E.GL.run rfl rfl rfl (E.Runs.extract rfl rfl rfl) ?_
  refine E.GL.run rfl rfl rfl (E.Runs.extract rfl rfl rfl) ?_
  refine E.GL.run rfl rfl rfl (E.Runs.assign rfl rfl) ?_
  refine E.GL.run rfl rfl rfl (E.Runs.assign rfl rfl) ?_
  refine E.GL.done ?_
  refine E.QG.code ?_
  refine E.CG.seq ?_
  refine E.CG.list ?_
  refine E.GL.run rfl rfl rfl (E.Runs.assign rfl rfl) ?_
  refine E.GL.done ?_
  refine E.QG.code ?_
  refine E.CG.block ?_
  have s4_b2 := b2
  have s4_L := L
  refine E.CG.loop (fun (s : Px) => [(5, .slice A5 (2 * (edX ps qs T).length) c5), (6, .int .i64 ((lastN ps.length T : Nat) : Int)), (7, .int .i64 s.n)]) (fun s w' => Xf ps qs T s.f s.n ∧ 0 ≤ s.n ∧ Kd.R k95 95 w' w.heap.size (fun _ => True) (.slice A5 (2 * (edX ps qs T).length) c5) (wayF s.f (edX ps qs T) 0) ∧ Below w.heap.size w w') (fun s => (allP ps - s.n).toNat) ⟨fun _ => 0, 0⟩ (E.subc rfl (E.subc rfl (E.subc rfl E.subn))) ⟨hXf, (by show (0 : Int) ≤ 0; omega), R5, L⟩ ?_
  rintro s w4 ⟨hXf, hn0, R5, L⟩
  have hXle := hXf.le hok
  have hall := allP_le hok
  refine E.CG.seq ?_
  refine E.CG.block ?_
  refine E.CG.seq ?_
  refine E.CG.list ?_
  refine E.GL.run rfl rfl rfl (E.Runs.move rfl rfl) ?_
  refine E.GL.run rfl rfl rfl (E.Runs.move rfl rfl) ?_
  have hs22 := L.size
  refine E.GL.st rfl rfl rfl (E.ST.call rfl ent63 (E.evc rfl (E.evc rfl E.evn)) ((path_callsN (wayF s.f (edX ps qs T) 0) (2 * (edX ps qs T).length) (wayF_len _ _ _).symm A5 c5 (lastN ps.length T) _ (Kd.R_reads' R5).2.2 (wsX hok s.f) (by omega) (by omega) (by rw [wayF_len]; omega)).mono ?_))
  rintro e w22 ⟨v22, P, b22, rfl, R22, hK, l22⟩
  refine ⟨_, rfl, ?_⟩
  replace R5 := Kd.R_below R5 l22
  replace L := below_step L l22
  obtain ⟨A8, c8, hv22⟩ := Kd.R_slice R22
  subst hv22
  have R8 := Kd.R_lower R22 hs22
  clear R22
  refine E.GL.run rfl rfl rfl (E.Runs.move rfl rfl) ?_
  refine E.GL.run rfl rfl rfl (E.Runs.extract rfl rfl rfl) ?_
  refine E.GL.run rfl rfl rfl (E.Runs.extract rfl rfl rfl) ?_
  refine E.GL.run rfl rfl rfl (E.Runs.assign rfl rfl) ?_
  refine E.GL.run rfl rfl rfl (E.Runs.assign rfl rfl) ?_
  refine E.GL.done ?_
  refine E.QG.code ?_
  refine E.CG.seq ?_
  refine E.CG.seq ?_
  refine E.CG.list ?_
  rcases b22 with _ | _
  · refine E.GL.run rfl rfl rfl (E.Runs.move rfl rfl) ?_
    refine E.GL.run rfl rfl rfl (E.Runs.not rfl rfl) ?_
    refine E.GL.done ?_
    refine E.QG.code ?_
    refine E.CG.cond_t rfl ?_
    refine E.CG.seq ?_
    refine E.CG.list ?_
    refine E.GL.run rfl rfl rfl (E.Runs.move rfl rfl) ?_
    refine E.GL.run rfl rfl rfl (E.Runs.assign rfl rfl) ?_
    refine E.GL.done ?_
    refine E.QG.code ?_
    refine E.CG.ret ?_
    refine E.QG.pass_ret ?_
    refine E.QG.block_ret ?_
    refine E.QG.pass_ret ?_
    refine E.QG.pass_ret ?_
    refine E.QG.block_ret ?_
    obtain ⟨S, hS0, hS1, hS2⟩ := hK.2 rfl
    exact E.QG.result rfl rfl ⟨s.n, rfl, hXf.most hok S hS0 hS1 hS2, L⟩
  · refine E.GL.run rfl rfl rfl (E.Runs.move rfl rfl) ?_
    refine E.GL.run rfl rfl rfl (E.Runs.not rfl rfl) ?_
    refine E.GL.done ?_
    refine E.QG.code ?_
    refine E.CG.cond_f rfl ?_
    refine E.CG.skip ?_
    refine E.QG.code ?_
    refine E.CG.seq ?_
    refine E.CG.list ?_
    refine E.GL.run rfl rfl rfl (E.Runs.assign rfl rfl) ?_
    refine E.GL.done ?_
    refine E.QG.code ?_
    refine E.CG.block ?_
    obtain ⟨dd, hdd⟩ := hK.1 rfl
    obtain ⟨H0, hH1, hH2, hH3, _⟩ := wh_of hdd
    have hPl : P.length ≤ 2000 := by rw [hH1, List.length_map]; have := wh_few hH2 hH3; omega
    have s8_L := L
    refine E.CG.loop (fun (s2 : Py) => [(5, .slice A5 (2 * (edX ps qs T).length) c5), (6, .int .i64 ((lastN ps.length T : Nat) : Int)), (7, .int .i64 s.n), (8, .slice A8 P.length c8), (10, .int .i64 s2.j)]) (fun s2 w' => Xg (edX ps qs T) (lastN ps.length T) s.f s2.g s2.v s2.H ∧ P.drop s2.j = ints2 s2.H ∧ s2.j ≤ P.length ∧ Kd.R kI 3 w' w.heap.size (fun _ => True) (.slice A8 P.length c8) P ∧ Kd.R k95 95 w' w.heap.size (fun _ => True) (.slice A5 (2 * (edX ps qs T).length) c5) (wayF s2.g (edX ps qs T) 0) ∧ Below w.heap.size w w') (fun s2 => P.length - s2.j) ⟨s.f, lastN ps.length T, H0, 0⟩ (E.subc rfl (E.subc rfl (E.subc rfl (E.subc rfl (E.subc rfl E.subn))))) ⟨⟨hH2, hH3, hXf.ok, fun u => by simp only; omega⟩, hH1, Nat.zero_le _, R8, R5, L⟩ ?_
    rintro s2 w8 ⟨hX, hdr, hj, R8, R5, L⟩
    refine E.CG.seq ?_
    refine E.CG.seq ?_
    refine E.CG.list ?_
    refine E.GL.run rfl rfl rfl (E.Runs.move rfl rfl) ?_
    refine E.GL.run rfl rfl rfl (E.Runs.move rfl rfl) ?_
    refine E.GL.run rfl rfl rfl (E.Runs.len rfl rfl hu22) ?_
    refine E.GL.cmp rfl rfl rfl (fun _ h => (E.Runs.lss rfl rfl rfl h)) (fun h31 => ?_) (fun h31 => ?_)
    · obtain ⟨⟨k, b⟩, r, hP0⟩ : ∃ h r, s2.H = h :: r := by
        cases hq : s2.H with
        | nil =>
          rw [hq] at hdr
          have := congrArg List.length hdr
          rw [List.length_drop] at this
          simp only [ints2, List.map_nil, List.length_nil] at this
          omega
        | cons a r => exact ⟨a, r, rfl⟩
      rw [hP0] at hX hdr
      obtain ⟨hv0, e, he, hfar, hroom, _⟩ := id hX.wh
      have hkl := (List.getElem?_eq_some_iff.1 he).1
      have hPj : P[s2.j]? = some ((hI (k, b) : Nat) : Int) := by
        have := congrArg (fun l : List Int => l[0]?) hdr
        simp only [List.getElem?_drop, Nat.add_zero] at this
        rw [this]
        rfl
      have hPr : P.drop (s2.j + 1) = ints2 r := by
        have := congrArg List.tail hdr
        rw [List.tail_drop] at this
        rw [this]
        rfl
      have hX2 := hX.step he
      obtain ⟨g8, eA8, _, c8b, _⟩ := rowI_at R8 hPj
      obtain ⟨g5, e5, h5b, c5b, f5b, ⟨_, b5⟩, st5⟩ := row95_at R5 (wayF_half he b)
      replace c5b : World.cell? _ ⟨g5, hI (k, b) * 3 + 2, none⟩ = some (.int .i64 (roomP (edX ps qs T) s2.g (k, b))) := c5b
      have hro1 := room_le (b := b) hX.ok (fun e he => (edX_cap hok e he).2) he
      have hro2 := room_le (b := !b) hX.ok (fun e he => (edX_cap hok e he).2) he
      have hro3 := room_ge (b := !b) hX.ok he
      refine E.GL.done ?_
      refine E.QG.code ?_
      refine E.CG.cond_t rfl ?_
      refine E.CG.skip ?_
      refine E.QG.code ?_
      refine E.CG.seq ?_
      refine E.CG.block ?_
      refine E.CG.seq ?_
      refine E.CG.list ?_
      refine E.GL.run rfl rfl rfl (E.Runs.move rfl rfl) ?_
      refine E.GL.run rfl rfl rfl (E.Runs.move rfl rfl) ?_
      refine E.GL.run rfl rfl rfl (E.Runs.move rfl rfl) ?_
      refine E.GL.run rfl rfl rfl (E.Runs.indexAddrA (i := s2.j) rfl rfl rfl hu22 z3 o3 (by omega) eA8 (show _ = (⟨g8, s2.j * 1, none⟩ : Addr) from by rw [Go.Addr.add_mid, Nat.zero_add])) ?_
      refine E.GL.run rfl rfl rfl (E.Runs.load rfl rfl hu3 c8b) ?_
      refine E.GL.run rfl rfl rfl (E.Runs.indexAddrA (i := hI (k, b)) rfl rfl rfl hu89 z95 o95 (by have := hI_lt (b := b) hkl; omega) e5 (show _ = (⟨g5, hI (k, b) * 3, none⟩ : Addr) from by rw [Go.Addr.add_mid, Nat.zero_add])) ?_
      refine E.GL.run rfl rfl rfl (E.Runs.fieldAddr rfl rfl hu95 rfl (by assumption) (show _ = (⟨g5, hI (k, b) * 3 + 2, none⟩ : Addr) from rfl)) ?_
      refine E.GL.run rfl rfl rfl (E.Runs.load rfl rfl hu3 c5b) ?_
      refine E.GL.run rfl rfl rfl (E.Runs.sub rfl rfl rfl (IntWalk.i64_in _ (by omega))) ?_
      refine E.GL.run rfl rfl rfl (E.Runs.indexAddrA (i := hI (k, b)) rfl rfl rfl hu89 z95 o95 (by have := hI_lt (b := b) hkl; omega) e5 (show _ = (⟨g5, hI (k, b) * 3, none⟩ : Addr) from by rw [Go.Addr.add_mid, Nat.zero_add])) ?_
      refine E.GL.run rfl rfl rfl (E.Runs.fieldAddr rfl rfl hu95 rfl (by assumption) (show _ = (⟨g5, hI (k, b) * 3 + 2, none⟩ : Addr) from rfl)) ?_
      refine E.GL.sn rfl rfl (E.ST.storeN rfl z3 o3 rfl rfl c5b f5b ?_)
      obtain ⟨w10, hw10, R10, gr10⟩ := st5 (roomP (edX ps qs T) s2.g (k, b) - 1)
      rw [← hw10]
      replace R8 := over_blk R8 b5 (by decide) rfl gr10
      replace L := E.below_own L h5b gr10
      clear R5 st5 c5b f5b b5 gr10 c8b
      refine E.GL.done ?_
      refine E.QG.code ?_
      have hx6 : ((wayF s2.g (edX ps qs T) 0).set (hI (k, b)) ⟨near e b, far e b, roomP (edX ps qs T) s2.g (k, b) - 1⟩)[hI (k, !b)]? = some ⟨near e (!b), far e (!b), roomP (edX ps qs T) s2.g (k, !b)⟩ := by
        have hne : hI (k, b) ≠ hI (k, !b) := fun q => by
          have := (hI_inj q).2
          cases b <;> simp at this
        rw [List.getElem?_set_ne hne]
        exact wayF_half he (!b)
      obtain ⟨g6, e6, _, c6b, f6b, ⟨_, b6⟩, st6⟩ := row95_at R10 hx6
      replace c6b : World.cell? _ ⟨g6, hI (k, !b) * 3 + 2, none⟩ = some (.int .i64 (roomP (edX ps qs T) s2.g (k, !b))) := c6b
      obtain rfl : g5 = g6 := by
        have := e5.symm.trans e6
        injection this with this
        injection this
      obtain ⟨g9, e9, _, c9b, _⟩ := rowI_at R8 hPj
      obtain rfl : g8 = g9 := by
        have := eA8.symm.trans e9
        injection this with this
        injection this
      refine E.CG.list ?_
      refine E.GL.run rfl rfl rfl (E.Runs.move rfl rfl) ?_
      refine E.GL.run rfl rfl rfl (E.Runs.move rfl rfl) ?_
      refine E.GL.run rfl rfl rfl (E.Runs.move rfl rfl) ?_
      refine E.GL.run rfl rfl rfl (E.Runs.indexAddrA (i := s2.j) rfl rfl rfl hu22 z3 o3 (by omega) eA8 (show _ = (⟨g8, s2.j * 1, none⟩ : Addr) from by rw [Go.Addr.add_mid, Nat.zero_add])) ?_
      refine E.GL.run rfl rfl rfl (E.Runs.load rfl rfl hu3 c9b) ?_
      refine E.GL.run rfl rfl rfl (runs_xor1 (i := hI (k, b)) (by have := hI_lt (b := b) hkl; omega) (hI_xor k b) rfl rfl rfl) ?_
      refine E.GL.run rfl rfl rfl (E.Runs.indexAddrA (i := hI (k, !b)) rfl rfl rfl hu89 z95 o95 (by have := hI_lt (b := !b) hkl; omega) e5 (show _ = (⟨g5, hI (k, !b) * 3, none⟩ : Addr) from by rw [Go.Addr.add_mid, Nat.zero_add])) ?_
      refine E.GL.run rfl rfl rfl (E.Runs.fieldAddr rfl rfl hu95 rfl (by assumption) (show _ = (⟨g5, hI (k, !b) * 3 + 2, none⟩ : Addr) from rfl)) ?_
      refine E.GL.run rfl rfl rfl (E.Runs.load rfl rfl hu3 c6b) ?_
      refine E.GL.run rfl rfl rfl (E.Runs.add rfl rfl rfl (IntWalk.i64_in _ (by omega))) ?_
      refine E.GL.run rfl rfl rfl (E.Runs.indexAddrA (i := hI (k, !b)) rfl rfl rfl hu89 z95 o95 (by have := hI_lt (b := !b) hkl; omega) e5 (show _ = (⟨g5, hI (k, !b) * 3, none⟩ : Addr) from by rw [Go.Addr.add_mid, Nat.zero_add])) ?_
      refine E.GL.run rfl rfl rfl (E.Runs.fieldAddr rfl rfl hu95 rfl (by assumption) (show _ = (⟨g5, hI (k, !b) * 3 + 2, none⟩ : Addr) from rfl)) ?_
      refine E.GL.sn rfl rfl (E.ST.storeN rfl z3 o3 rfl rfl c6b f6b ?_)
      obtain ⟨w11, hw11, R11, gr11⟩ := st6 (roomP (edX ps qs T) s2.g (k, !b) + 1)
      rw [← hw11]
      replace R8 := over_blk R8 b6 (by decide) rfl gr11
      replace L := E.below_own L h5b gr11
      rw [wayF_push he b] at R11
      clear R10 st6 b6 gr11
      have R5 := R11
      clear R11
      refine E.GL.done ?_
      refine E.QG.block_normal ?_
      refine E.QG.code ?_
      refine E.CG.list ?_
      refine E.GL.run rfl rfl rfl (E.Runs.move rfl rfl) ?_
      refine E.GL.run rfl rfl rfl (E.Runs.add rfl rfl rfl (IntWalk.i64_in _ (by omega))) ?_
      refine E.GL.run rfl rfl rfl (E.Runs.assign rfl rfl) ?_
      refine E.GL.done ?_
      exact E.QG.round ⟨upd s2.g k (sgn b 1), near e b, r, s2.j + 1⟩ (E.subc rfl (E.subc rfl (E.subc rfl (E.subc rfl (E.subc rfl E.subn))))) ⟨hX2, hPr, by simp only; omega, R8, R5, L⟩ (by simp only; omega)
    · have hH0 : s2.H = [] := by
        have := congrArg List.length hdr
        rw [List.length_drop] at this
        simp only [ints2, List.length_map] at this
        exact List.eq_nil_of_length_eq_zero (by omega)
      rw [hH0] at hX
      have hXn := hX.last hXf
      have hXl := hXn.le hok
      refine E.GL.done ?_
      refine E.QG.code ?_
      refine E.CG.cond_f rfl ?_
      refine E.CG.exit ?_
      refine E.QG.pass_exit ?_
      refine E.QG.pass_exit ?_
      refine E.QG.block_here ?_
      refine E.QG.block_normal ?_
      refine E.QG.code ?_
      refine E.CG.list ?_
      refine E.GL.run rfl rfl rfl (E.Runs.move rfl rfl) ?_
      refine E.GL.run rfl rfl rfl (E.Runs.add rfl rfl rfl (IntWalk.i64_in _ (by omega))) ?_
      refine E.GL.run rfl rfl rfl (E.Runs.assign rfl rfl) ?_
      refine E.GL.done ?_
      exact E.QG.round ⟨s2.g, s.n + 1⟩ (E.subc rfl (E.subc rfl (E.subc rfl E.subn))) ⟨hXn, (by show (0 : Int) ≤ s.n + 1; omega), R5, L⟩ (by simp only; omega)

end Go.Proofs.Ytmnjlnkfihklgaa.T
namespace Go.Proofs.Ytmnjlnkfihklgaa.T
open Go.RowKit Go.Proofs.YtmnjlnkfihklgaaW.PrintWords Go.Proofs.YtmnjlnkfihklgaaW.PrintMore
open Go.Proofs.Ytmnjlnkfihklgaa.P
set_option linter.unusedVariables false
set_option linter.unusedSimpArgs false

/-- Up to a later minute there are no fewer. -/
theorem sumN_more {a : Nat → Int} (h : ∀ k, 0 ≤ a k) {n : Nat} : ∀ {m}, n ≤ m → sumN a n ≤ sumN a m
  | 0, hm => by rw [show n = 0 by omega]; exact Int.le_refl _
  | m + 1, hm => by
    by_cases e : n = m + 1
    · rw [e]; exact Int.le_refl _
    · have h1 := sumN_more h (n := n) (m := m) (by omega)
      have h2 := h m
      simp only [sumN]
      omega
theorem bound_later {ps : List Int} {qs : List S45} (h : HOk ps qs) {T V : Nat} (hTV : T ≤ V) (hr : Nat → Nat) : boundU ps qs T hr ≤ boundU ps qs V hr := by
  unfold boundU
  refine Int.add_le_add_left ?_ _
  unfold sumQ
  refine sumN_le fun i hi => sumN_more (fun k => ?_) (by omega)
  have := (h.q _ (getD_mem (z := z45) hi)).2.2.2.2.2.1
  dsimp only
  split
  · exact this
  · exact Int.le_refl _
theorem most_later {ps : List Int} {qs : List S45} (h : HOk ps qs) {T V : Nat} {N M : Int} (hTV : T ≤ V) (a : IsMost ps qs T N) (b : IsMost ps qs V M) : N ≤ M := by
  obtain ⟨⟨u, hu, eu⟩, _⟩ := a
  obtain ⟨_, hr, _, er⟩ := b
  have h1 := use_le h hu hr
  have h2 := bound_later h hTV hr
  omega
theorem most_all {ps : List Int} {qs : List S45} (h : HOk ps qs) {T : Nat} {N : Int} (a : IsMost ps qs T N) : N ≤ allP ps := by
  obtain ⟨⟨u, hu, eu⟩, _⟩ := a
  have h1 := use_le h hu (fun _ => T + 1)
  rw [bound_all h] at h1
  omega
set_option maxRecDepth 100000 in
set_option maxHeartbeats 8000000 in

theorem without_calls (ps : List Int) (qs : List S45) (A B : Option Addr) (c d : Nat) (w : World) (hP : Kd.C kI w A ps.length ps) (hQ : Kd.C k45 w B qs.length qs) (hn1 : ps.length ≤ 1000000) (hn2 : qs.length ≤ 1000000) (i : Nat) (hi : i < qs.length) :
    Calls Try.prog 54 #[hv ps qs A B c d, .int .i64 (i : Int)] w fun e w' => ∃ A' B' c' d', e = .returned (hv ps (shutQ qs i) A' B' c' d') ∧ Kd.R kI 3 w' w.heap.size (fun _ => True) (.slice A' ps.length c') ps ∧ Kd.R k45 45 w' w.heap.size (fun _ => True) (.slice B' qs.length d') (shutQ qs i) ∧ Below w.heap.size w w' := by
  have hu3 := Try.underlying3
  have hu22 := Try.underlying22
  have hu23 := Try.underlying23
  have hu25 := Try.underlying25
  have hu45 := Try.underlying45
  obtain ⟨z3, o3⟩ := info_some info3s (by decide)
  obtain ⟨z22, o22⟩ := info_some info22s (by decide)
  obtain ⟨z23, o23⟩ := info_some info23s (by decide)
  obtain ⟨z25, o25⟩ := info_some info25s (by decide)
  obtain ⟨z45, o45⟩ := info_some info45s (by decide)
  refine E.enter (N := 14) Try.func54 rfl Try.ntmps54 (args := [hv ps qs A B c d, .int .i64 (i : Int)]) (by simp) ?_
  have L := Below.refl w.heap.size w
  refine E.CG.seq ?_
  refine E.CG.list ?_
  refine E.GL.st rfl rfl rfl (E.ST.box rfl rfl fun g2 w2 e2 b2 l2 => ?_)
  have h2_L : w.heap.size ≤ g2 := by rw [e2]; exact L.size
  replace L := below_step L l2
  refine E.GL.st rfl rfl rfl (E.ST.alloc rfl info25z fun g4 w4 e4 b4 l4 => ?_)
  have h4_L : w.heap.size ≤ g4 := by rw [e4]; exact L.size
  have n4_b2 : g2 ≠ g4 := by have := blk_lt b2; omega
  replace b2 := blk_below b2 l4
  replace L := below_step L l4
  refine E.GL.done ?_
  refine E.QG.code ?_
  refine E.CG.seq ?_
  refine E.CG.list ?_
  refine E.GL.run rfl rfl rfl (E.Runs.loads (cs := [.slice A ps.length c, .slice B qs.length d]) rfl rfl hu25 rfl info25s (blk_cells b2)) ?_
  have hs7 := L.size
  refine E.GL.st rfl rfl rfl (E.ST.call rfl ent13 (E.evc rfl E.evn) ((copy_calls ps qs A B c d _ (Kd.C_below hP L) (Kd.C_below hQ L) hn1 hn2).mono ?_))
  rintro e w7 ⟨A3, B3, c3, d3, rfl, RP, RQ, l7⟩
  refine ⟨_, rfl, ?_⟩
  replace b2 := blk_below b2 l7
  replace b4 := blk_below b4 l7
  replace L := below_step L l7
  replace RP := Kd.R_lower RP hs7
  replace RQ := Kd.R_lower RQ hs7
  refine E.GL.st rfl rfl rfl (E.ST.alloc rfl info25z fun g5 w5 e5 b5 l5 => ?_)
  have h5_L : w.heap.size ≤ g5 := by rw [e5]; exact L.size
  have n5_b2 : g2 ≠ g5 := by have := blk_lt b2; omega
  have n5_b4 : g4 ≠ g5 := by have := blk_lt b4; omega
  have n5_RP : some g5 ≠ ((Value.slice A3 ps.length c3)).ownBlock := fun h => by have := Kd.R_lt RP _ h.symm; omega
  have n5_RQ : some g5 ≠ ((Value.slice B3 qs.length d3)).ownBlock := fun h => by have := Kd.R_lt RQ _ h.symm; omega
  replace b2 := blk_below b2 l5
  replace b4 := blk_below b4 l5
  replace RP := Kd.R_below RP l5
  replace RQ := Kd.R_below RQ l5
  replace L := below_step L l5
  refine E.GL.store_whole rfl rfl rfl rfl rfl b5 rfl info25s (slices_one _ _ _ _ _ _) fun wS1_3 c5 lS1_3 => ?_
  replace b2 := blk_grown b2 lS1_3 (E.nes (by first | assumption | exact Ne.symm (by assumption)))
  replace b4 := blk_grown b4 lS1_3 (E.nes (by first | assumption | exact Ne.symm (by assumption)))
  replace RP := Kd.R_grown1 RP rfl lS1_3 (by first | assumption | exact Kd.R_ne RP b5 (by decide))
  replace RQ := Kd.R_grown1 RQ rfl lS1_3 (by first | assumption | exact Kd.R_ne RQ b5 (by decide))
  replace L := E.below_own L h5_L lS1_3
  replace b5 := c5
  clear c5
  refine E.GL.done ?_
  refine E.QG.code ?_
  refine E.CG.seq ?_
  obtain ⟨gK, eK, hgK, cK, fK, ⟨_, bK⟩, stK⟩ := row45_at RQ (getD_some hi P.z45)
  refine E.CG.list ?_
  refine E.GL.run rfl rfl rfl (E.Runs.fieldAddr rfl rfl hu25 rfl (by assumption) rfl) ?_
  refine E.GL.run rfl rfl rfl (E.Runs.load1 rfl rfl hu23 rfl (by first | assumption | exact E.blkc (by assumption) rfl | exact pw_cell_below L (by assumption))) ?_
  refine E.GL.run rfl rfl rfl (E.Runs.move rfl rfl) ?_
  refine E.GL.run rfl rfl rfl (E.Runs.indexAddrA rfl rfl rfl hu23 z45 o45 (show (i : Int) < qs.length by omega) eK (show _ = (⟨gK, i * 4, none⟩ : Addr) from by rw [Go.Addr.add_mid, Nat.zero_add])) ?_
  refine E.GL.run rfl rfl rfl (E.Runs.fieldAddr rfl rfl hu45 rfl (by assumption) (show _ = (⟨gK, i * 4 + 2, none⟩ : Addr) from rfl)) ?_
  refine E.GL.sn rfl rfl (E.ST.storeN rfl z3 o3 rfl rfl cK fK ?_)
  obtain ⟨wK, hwK, RK, gK⟩ := stK 0
  rw [← hwK]
  replace b2 := blk_grown b2 gK (E.nes (blk_ne b2 bK (by decide)))
  replace b4 := blk_grown b4 gK (E.nes (blk_ne b4 bK (by decide)))
  replace b5 := blk_grown b5 gK (E.nes (blk_ne b5 bK (by decide)))
  replace RP := over_blk RP bK (by decide) rfl gK
  replace L := E.below_own L hgK gK
  clear RQ
  refine E.GL.done ?_
  refine E.QG.code ?_
  refine E.CG.seq ?_
  refine E.CG.list ?_
  refine E.GL.run rfl rfl rfl (E.Runs.loads (cs := [.slice A3 ps.length c3, .slice B3 qs.length d3]) rfl rfl hu25 rfl info25s (blk_cells b5)) ?_
  refine E.GL.store_whole rfl rfl rfl rfl rfl b4 rfl info25s (slices_one _ _ _ _ _ _) fun wS3_1 c4 lS3_1 => ?_
  replace b2 := blk_grown b2 lS3_1 (E.nes (by first | assumption | exact Ne.symm (by assumption)))
  replace b5 := blk_grown b5 lS3_1 (E.nes (by first | assumption | exact Ne.symm (by assumption)))
  replace RP := Kd.R_grown1 RP rfl lS3_1 (by first | assumption | exact Kd.R_ne RP b4 (by decide))
  replace RK := Kd.R_grown1 RK rfl lS3_1 (by first | assumption | exact Kd.R_ne RK b4 (by decide))
  replace L := E.below_own L h4_L lS3_1
  replace b4 := c4
  clear c4
  refine E.GL.done ?_
  refine E.QG.code ?_
  refine E.CG.ret ?_
  exact E.QG.result_c rfl rfl b4 hu25 rfl info25s ⟨A3, B3, c3, d3, by unfold hv; rw [shutQ_len], RP, RK, L⟩

set_option maxRecDepth 100000 in
set_option maxHeartbeats 8000000 in

theorem shutF_calls (ps : List Int) (qs : List S45) (A B : Option Addr) (c d : Nat) (w : World) (hP : Kd.C kI w A ps.length ps) (hQ : Kd.C k45 w B qs.length qs) (hn1 : ps.length ≤ 1000000) (hn2 : qs.length ≤ 1000000) (m : Int) :
    Calls Try.prog 24 #[hv ps qs A B c d, .int .i64 m] w fun e w' => ∃ ps' qs' A' B' c' d' E, e = .returned (.tuple #[hv ps' qs' A' B' c' d', .int .i64 E]) ∧ Kd.R kI 3 w' w.heap.size (fun _ => True) (.slice A' ps'.length c') ps' ∧ Kd.R k45 45 w' w.heap.size (fun _ => True) (.slice B' qs'.length d') qs' ∧ ShutR ps qs m ps' qs' E ∧ Below w.heap.size w w' := by
  have hu3 := Try.underlying3
  have hu22 := Try.underlying22
  have hu23 := Try.underlying23
  have hu25 := Try.underlying25
  have hu45 := Try.underlying45
  obtain ⟨z3, o3⟩ := info_some info3s (by decide)
  obtain ⟨z22, o22⟩ := info_some info22s (by decide)
  obtain ⟨z23, o23⟩ := info_some info23s (by decide)
  obtain ⟨z25, o25⟩ := info_some info25s (by decide)
  obtain ⟨z45, o45⟩ := info_some info45s (by decide)
  refine E.enter (N := 21) Try.func24 rfl Try.ntmps24 (args := [hv ps qs A B c d, .int .i64 m]) (by simp) ?_
  have L := Below.refl w.heap.size w
  refine E.CG.seq ?_
  refine E.CG.list ?_
  refine E.GL.st rfl rfl rfl (E.ST.box rfl rfl fun g2 w2 e2 b2 l2 => ?_)
  have h2_L : w.heap.size ≤ g2 := by rw [e2]; exact L.size
  replace L := below_step L l2
  refine E.GL.st rfl rfl rfl (E.ST.alloc rfl info25z fun g4 w4 e4 b4 l4 => ?_)
  have h4_L : w.heap.size ≤ g4 := by rw [e4]; exact L.size
  have n4_b2 : g2 ≠ g4 := by have := blk_lt b2; omega
  replace b2 := blk_below b2 l4
  replace L := below_step L l4
  refine E.GL.run rfl rfl rfl (E.Runs.assign rfl rfl) ?_
  refine E.GL.done ?_
  refine E.QG.code ?_
  refine E.CG.seq ?_
  refine E.CG.seq ?_
  refine E.CG.list ?_
  refine E.GL.run rfl rfl rfl (E.Runs.loads (cs := [.slice A ps.length c, .slice B qs.length d]) rfl rfl hu25 rfl info25s (blk_cells b2)) ?_
  refine E.GL.st rfl rfl rfl (E.ST.call rfl ent15 (E.evc rfl E.evn) ((check15 ps qs A B c d _ (Kd.C_below hP L) (Kd.C_below hQ L) hn1 hn2).mono ?_))
  rintro e w7 ⟨rfl, l7⟩
  refine ⟨_, rfl, ?_⟩
  replace b2 := blk_below b2 l7
  replace b4 := blk_below b4 l7
  replace L := below_step L l7
  refine E.GL.cmpn rfl rfl rfl (fun _ h => (E.Runs.neq rfl rfl rfl h)) (fun h8 => ?_) (fun h8 => ?_)
  · have hH : ¬ HOk ps qs := fun k => h8 (checkE_yes k)
    refine E.GL.done ?_
    refine E.QG.code ?_
    refine E.CG.cond_t rfl ?_
    refine E.CG.seq ?_
    refine E.CG.list ?_
    refine E.GL.run rfl rfl rfl (E.Runs.build rfl E.epn build25z) ?_
    refine E.GL.store_whole rfl rfl rfl rfl rfl b4 rfl info25s (slices_one _ _ _ _ _ _) fun wS2_1 c4 lS2_1 => ?_
    replace b2 := blk_grown b2 lS2_1 (E.nes (by first | assumption | exact Ne.symm (by assumption)))
    replace L := E.below_own L h4_L lS2_1
    replace b4 := c4
    clear c4
    refine E.GL.run rfl rfl rfl (E.Runs.assign rfl rfl) ?_
    refine E.GL.done ?_
    refine E.QG.code ?_
    refine E.CG.ret ?_
    refine E.QG.pass_ret ?_
    exact E.QG.result_ct rfl rfl b4 hu25 rfl info25s rfl ⟨[], [], none, none, 0, 0, 110, rfl, Kd.R_nil _ _ _ _ _, Kd.R_nil _ _ _ _ _, ⟨fun _ => ⟨rfl, rfl, rfl⟩, fun k => absurd k hH, fun k => absurd k hH⟩, L⟩
  · have hH : HOk ps qs := checkE_ok.mp h8
    refine E.GL.done ?_
    refine E.QG.code ?_
    refine E.CG.cond_f rfl ?_
    refine E.CG.skip ?_
    refine E.QG.code ?_
    refine E.CG.seq ?_
    refine E.CG.seq ?_
    refine E.CG.list ?_
    refine E.GL.run rfl rfl rfl (E.Runs.move rfl rfl) ?_
    refine E.GL.run rfl rfl rfl (E.Runs.fieldAddr rfl rfl hu25 rfl (by assumption) rfl) ?_
    refine E.GL.run rfl rfl rfl (E.Runs.load1 rfl rfl hu23 rfl (by first | assumption | exact E.blkc (by assumption) rfl | exact pw_cell_below L (by assumption))) ?_
    refine E.GL.run rfl rfl rfl (E.Runs.len rfl rfl hu23) ?_
    refine E.GL.run rfl rfl rfl (E.Runs.sub rfl rfl rfl (IntWalk.i64_in _ (by omega))) ?_
    by_cases h15 : inR m 0 (qs.length - 1)
    · obtain ⟨i, hmi⟩ : ∃ i : Nat, m = i := ⟨m.toNat, by have := h15.1; omega⟩
      have him : i < qs.length := by have := h15.2; omega
      refine E.GL.st rfl rfl rfl (E.ST.call rfl ent44 (E.evc rfl (E.evc rfl (E.evc rfl E.evn))) ((within_r m 0 (qs.length - 1) true (iff_of_true rfl h15) _).mono ?_))
      rintro e w15 ⟨rfl, l15⟩
      refine ⟨_, rfl, ?_⟩
      replace b2 := blk_below b2 l15
      replace b4 := blk_below b4 l15
      replace L := below_step L l15
      refine E.GL.run rfl rfl rfl (E.Runs.not rfl rfl) ?_
      refine E.GL.done ?_
      refine E.QG.code ?_
      refine E.CG.cond_f rfl ?_
      refine E.CG.skip ?_
      refine E.QG.code ?_
      refine E.CG.seq ?_
      subst hmi
      refine E.CG.list ?_
      refine E.GL.run rfl rfl rfl (E.Runs.loads (cs := [.slice A ps.length c, .slice B qs.length d]) rfl rfl hu25 rfl info25s (blk_cells b2)) ?_
      refine E.GL.run rfl rfl rfl (E.Runs.move rfl rfl) ?_
      have hs20 := L.size
      refine E.GL.st rfl rfl rfl (E.ST.call rfl ent54 (E.evc rfl (E.evc rfl E.evn)) ((without_calls ps qs A B c d _ (Kd.C_below hP L) (Kd.C_below hQ L) hn1 hn2 i him).mono ?_))
      rintro e w20 ⟨A3, B3, c3, d3, rfl, RP, RQ, l20⟩
      refine ⟨_, rfl, ?_⟩
      replace b2 := blk_below b2 l20
      replace b4 := blk_below b4 l20
      replace L := below_step L l20
      replace RP := Kd.R_lower RP hs20
      replace RQ := Kd.R_lower RQ hs20
      refine E.GL.store_whole rfl rfl rfl rfl rfl b4 rfl info25s (slices_one _ _ _ _ _ _) fun wS5_3 c4 lS5_3 => ?_
      replace b2 := blk_grown b2 lS5_3 (E.nes (by first | assumption | exact Ne.symm (by assumption)))
      replace RP := Kd.R_grown1 RP rfl lS5_3 (by first | assumption | exact Kd.R_ne RP b4 (by decide))
      replace RQ := Kd.R_grown1 RQ rfl lS5_3 (by first | assumption | exact Kd.R_ne RQ b4 (by decide))
      replace L := E.below_own L h4_L lS5_3
      replace b4 := c4
      clear c4
      refine E.GL.run rfl rfl rfl (E.Runs.assign rfl rfl) ?_
      refine E.GL.done ?_
      refine E.QG.code ?_
      refine E.CG.ret ?_
      exact E.QG.result_ct rfl rfl b4 hu25 rfl info25s rfl ⟨ps, shutQ qs i, A3, B3, c3, d3, 0, rfl, RP, by rw [shutQ_len]; exact RQ, ⟨fun k => absurd hH k, fun _ k => absurd h15 k, fun _ _ => ⟨rfl, rfl, rfl⟩⟩, L⟩
    · refine E.GL.st rfl rfl rfl (E.ST.call rfl ent44 (E.evc rfl (E.evc rfl (E.evc rfl E.evn))) ((within_r m 0 (qs.length - 1) false (iff_of_false Bool.false_ne_true h15) _).mono ?_))
      rintro e w15 ⟨rfl, l15⟩
      refine ⟨_, rfl, ?_⟩
      replace b2 := blk_below b2 l15
      replace b4 := blk_below b4 l15
      replace L := below_step L l15
      refine E.GL.run rfl rfl rfl (E.Runs.not rfl rfl) ?_
      refine E.GL.done ?_
      refine E.QG.code ?_
      refine E.CG.cond_t rfl ?_
      refine E.CG.seq ?_
      refine E.CG.list ?_
      refine E.GL.run rfl rfl rfl (E.Runs.build rfl E.epn build25z) ?_
      refine E.GL.store_whole rfl rfl rfl rfl rfl b4 rfl info25s (slices_one _ _ _ _ _ _) fun wS4_1 c4 lS4_1 => ?_
      replace b2 := blk_grown b2 lS4_1 (E.nes (by first | assumption | exact Ne.symm (by assumption)))
      replace L := E.below_own L h4_L lS4_1
      replace b4 := c4
      clear c4
      refine E.GL.run rfl rfl rfl (E.Runs.assign rfl rfl) ?_
      refine E.GL.done ?_
      refine E.QG.code ?_
      refine E.CG.ret ?_
      refine E.QG.pass_ret ?_
      exact E.QG.result_ct rfl rfl b4 hu25 rfl info25s rfl ⟨[], [], none, none, 0, 0, 1, rfl, Kd.R_nil _ _ _ _ _, Kd.R_nil _ _ _ _ _, ⟨fun k => absurd hH k, fun _ _ => ⟨rfl, rfl, rfl⟩, fun _ k => absurd k h15⟩, L⟩

set_option maxRecDepth 100000 in
set_option maxHeartbeats 8000000 in

theorem neededF_calls (ps : List Int) (qs : List S45) (A B : Option Addr) (c d : Nat) (w : World) (hP : Kd.C kI w A ps.length ps) (hQ : Kd.C k45 w B qs.length qs) (hn1 : ps.length ≤ 1000000) (hn2 : qs.length ≤ 1000000) (m : Int) :
    Calls Try.prog 26 #[hv ps qs A B c d, .int .i64 m] w fun e w' => ∃ v l, e = .returned (.tuple #[v, .int .i64 (chkE ps qs m)]) ∧ Kd.R kI 3 w' w.heap.size (fun _ => True) v l ∧ NeedR ps qs m l ∧ Below w.heap.size w w' := by
  have hu3 := Try.underlying3
  have hu22 := Try.underlying22
  have hu23 := Try.underlying23
  have hu25 := Try.underlying25
  obtain ⟨z3, o3⟩ := info_some info3s (by decide)
  obtain ⟨z23, o23⟩ := info_some info23s (by decide)
  obtain ⟨z25, o25⟩ := info_some info25s (by decide)
  refine E.enter (N := 35) Try.func26 rfl Try.ntmps26 (args := [hv ps qs A B c d, .int .i64 m]) (by simp) ?_
  have L := Below.refl w.heap.size w
  refine E.CG.seq ?_
  refine E.CG.list ?_
  refine E.GL.st rfl rfl rfl (E.ST.box rfl rfl fun g2 w2 e2 b2 l2 => ?_)
  have h2_L : w.heap.size ≤ g2 := by rw [e2]; exact L.size
  replace L := below_step L l2
  refine E.GL.run rfl rfl rfl (E.Runs.assign rfl rfl) ?_
  refine E.GL.run rfl rfl rfl (E.Runs.assign rfl rfl) ?_
  refine E.GL.done ?_
  refine E.QG.code ?_
  refine E.CG.seq ?_
  refine E.CG.seq ?_
  refine E.CG.list ?_
  refine E.GL.run rfl rfl rfl (E.Runs.loads (cs := [.slice A ps.length c, .slice B qs.length d]) rfl rfl hu25 rfl info25s (blk_cells b2)) ?_
  refine E.GL.run rfl rfl rfl (E.Runs.move rfl rfl) ?_
  refine E.GL.st rfl rfl rfl (E.ST.call rfl ent48 (E.evc rfl (E.evc rfl E.evn)) ((chk48 ps qs A B c d _ (Kd.C_below hP L) (Kd.C_below hQ L) hn1 hn2 m).mono ?_))
  rintro e w11 ⟨rfl, l11⟩
  refine ⟨_, rfl, ?_⟩
  replace b2 := blk_below b2 l11
  replace L := below_step L l11
  refine E.GL.run rfl rfl rfl (E.Runs.assign rfl rfl) ?_
  refine E.GL.done ?_
  refine E.QG.code ?_
  refine E.CG.seq ?_
  refine E.CG.list ?_
  refine E.GL.run rfl rfl rfl (E.Runs.move rfl rfl) ?_
  refine E.GL.cmpn rfl rfl rfl (fun _ h => (E.Runs.neq rfl rfl rfl h)) (fun h13 => ?_) (fun h13 => ?_)
  · refine E.GL.done ?_
    refine E.QG.code ?_
    refine E.CG.cond_t rfl ?_
    refine E.CG.seq ?_
    refine E.CG.list ?_
    refine E.GL.run rfl rfl rfl (E.Runs.move rfl rfl) ?_
    refine E.GL.run rfl rfl rfl (E.Runs.assign rfl rfl) ?_
    refine E.GL.run rfl rfl rfl (E.Runs.assign rfl rfl) ?_
    refine E.GL.done ?_
    refine E.QG.code ?_
    refine E.CG.ret ?_
    refine E.QG.pass_ret ?_
    exact E.QG.result2 rfl rfl rfl ⟨_, [], rfl, Kd.R_nil _ _ _ _ _, ⟨fun k => absurd k h13, fun _ => rfl⟩, L⟩
  · have hE0 := h13
    obtain ⟨hH, hm0, hm1⟩ := chkE_ok.mp h13
    obtain ⟨T, rfl⟩ : ∃ T : Nat, m = T := ⟨m.toNat, by omega⟩
    have hT : T ≤ 60 := by omega
    have hq12 := hH.q12
    refine E.GL.done ?_
    refine E.QG.code ?_
    refine E.CG.cond_f rfl ?_
    refine E.CG.skip ?_
    refine E.QG.code ?_
    refine E.CG.seq ?_
    refine E.CG.list ?_
    refine E.GL.run rfl rfl rfl (E.Runs.assign rfl rfl) ?_
    refine E.GL.done ?_
    refine E.QG.code ?_
    refine E.CG.seq ?_
    refine E.CG.seq ?_
    refine E.CG.list ?_
    refine E.GL.run rfl rfl rfl (E.Runs.assign rfl rfl) ?_
    refine E.GL.done ?_
    refine E.QG.code ?_
    refine E.CG.block ?_
    have s6_b2 := b2
    have s6_L := L
    refine E.CG.loop2 (fun (i : Nat) (v7 : Value) => [(1, .int .i64 (T : Int)), (2, .pointer (some ⟨g2, 0, none⟩)), (7, v7), (8, .int .i64 i)]) (fun i v7 w' => i ≤ qs.length ∧ w'.heap[g2]? = some (.cells #[.slice A ps.length c, .slice B qs.length d] 25 (0, 0)) ∧ Kd.R kI 3 w' w.heap.size (fun _ => True) v7 (needL ps qs T i) ∧ Below w.heap.size w w') (fun i v7 => qs.length - i) 0 (.slice none 0 0) (E.subc rfl (E.subc rfl (E.subc rfl (E.subc rfl E.subn)))) ⟨Nat.zero_le _, b2, Kd.R_nil _ _ _ _ _, L⟩ ?_
    rintro i v7 w6 ⟨hi, b2, R7, L⟩
    refine E.CG.seq ?_
    refine E.CG.seq ?_
    refine E.CG.list ?_
    refine E.GL.run rfl rfl rfl (E.Runs.move rfl rfl) ?_
    refine E.GL.run rfl rfl rfl (E.Runs.fieldAddr rfl rfl hu25 rfl (by assumption) rfl) ?_
    refine E.GL.run rfl rfl rfl (E.Runs.load1 rfl rfl hu23 rfl (by first | assumption | exact E.blkc (by assumption) rfl | exact pw_cell_below L (by assumption))) ?_
    refine E.GL.run rfl rfl rfl (E.Runs.len rfl rfl hu23) ?_
    refine E.GL.cmp rfl rfl rfl (fun _ h => (E.Runs.lss rfl rfl rfl h)) (fun h19 => ?_) (fun h19 => ?_)
    · have hil : i < qs.length := by omega
      refine E.GL.done ?_
      refine E.QG.code ?_
      refine E.CG.cond_t rfl ?_
      refine E.CG.skip ?_
      refine E.QG.code ?_
      refine E.CG.seq ?_
      refine E.CG.block ?_
      refine E.CG.seq ?_
      refine E.CG.heldH (none) (by kernel_rfl) fun v8 lD hh => ?_
      replace b2 := blk_below b2 lD
      replace R7 := Kd.R_below R7 lD
      replace L := below_step L lD
      clear lD
      have s_b2 := b2
      have s_L := L
      refine E.GH.take (i := 0) rfl (by kernel_rfl) (by kernel_rfl) (by kernel_rfl) (by intro c a d v w h; cases d <;> exact h) rfl rfl rfl (fun w' hS => (E.Runs.loads (cs := [.slice A ps.length c, .slice B qs.length d]) rfl rfl hu25 rfl info25s (blk_cells (blk_grown s_b2 hS E.nen)))) ?_
      refine E.GH.take (i := 1) rfl (by kernel_rfl) (by kernel_rfl) (by kernel_rfl) (by intro c a d v w h; cases d <;> exact h) rfl rfl rfl (fun w' hS => (E.Runs.move rfl rfl)) ?_
      refine E.GH.take (i := 3) rfl (by kernel_rfl) (by kernel_rfl) (by kernel_rfl) (by intro c a d v w h; cases d <;> exact h) rfl rfl rfl (fun w' hS => (E.Runs.move rfl rfl)) ?_
      refine E.GH.take (i := 5) rfl (by kernel_rfl) (by kernel_rfl) (by kernel_rfl) (by intro c a d v w h; cases d <;> exact h) rfl rfl rfl (fun w' hS => (E.Runs.loads (cs := [.slice A ps.length c, .slice B qs.length d]) rfl rfl hu25 rfl info25s (blk_cells (blk_grown s_b2 hS E.nen)))) ?_
      refine E.GH.one (i := 2) (by kernel_rfl) rfl ?_
      refine E.GO.st rfl rfl rfl (E.ST.call rfl ent54 (E.evc rfl (E.evc rfl E.evn)) ((without_calls ps qs A B c d _ (Kd.C_below hP L) (Kd.C_below hQ L) hn1 hn2 i hil).mono ?_))
      rintro e w24 ⟨A', B', c', d', rfl, RP, RQ, l24⟩
      refine ⟨_, rfl, hh.trans (E.gbB l24), ?_⟩
      replace hh := hh.trans (E.gbB l24)
      replace b2 := blk_below b2 l24
      replace R7 := Kd.R_below R7 l24
      replace L := below_step L l24
      have eSL := shutQ_len qs i
      refine E.GH.one (i := 4) (by kernel_rfl) rfl ?_
      refine E.GO.st rfl rfl rfl (E.ST.call rfl ent52 (E.evc rfl (E.evc rfl E.evn)) ((mostR_calls ps (shutQ qs i) A' B' c' d' T _ (shutQ_ok hH hil) hT (Kd.R_reads' RP).2.2 (Kd.R_reads' RQ).2.2).mono ?_))
      rintro e w26 ⟨N, rfl, hN, l26⟩
      refine ⟨_, rfl, hh.trans (E.gbB l26), ?_⟩
      replace hh := hh.trans (E.gbB l26)
      replace b2 := blk_below b2 l26
      replace R7 := Kd.R_below R7 l26
      replace RP := Kd.R_below RP l26
      replace RQ := Kd.R_below RQ l26
      replace L := below_step L l26
      refine E.GH.one (i := 6) (by kernel_rfl) rfl ?_
      refine E.GO.st rfl rfl rfl (E.ST.call rfl ent29 (E.evc rfl E.evn) ((all_calls ps qs A B c d _ (Kd.C_below hP L) hH.p (by have := hH.r6; omega)).mono ?_))
      rintro e w28 ⟨rfl, l28⟩
      refine ⟨_, rfl, hh.trans (E.gbB l28), ?_⟩
      replace hh := hh.trans (E.gbB l28)
      replace b2 := blk_below b2 l28
      replace R7 := Kd.R_below R7 l28
      replace RP := Kd.R_below RP l28
      replace RQ := Kd.R_below RQ l28
      replace L := below_step L l28
      refine E.GH.cmp (i := 7) rfl (by kernel_rfl) (by kernel_rfl) (by kernel_rfl) (by intro c a d v w h; cases d <;> exact h) rfl rfl rfl (fun _ h w' hS => (E.Runs.lss rfl rfl rfl h)) (fun h29 => ?_) (fun h29 => ?_)
      · have hnp : needP ps qs T i := ⟨N, hN, h29⟩
        refine E.GH.done (by kernel_rfl) ?_
        refine E.QG.code ?_
        refine E.CG.cond_t rfl ?_
        refine E.CG.list ?_
        refine E.GL.run rfl rfl rfl (E.Runs.move rfl rfl) ?_
        refine E.GL.run rfl rfl rfl (E.Runs.move rfl rfl) ?_
        refine E.GL.st rfl rfl rfl (E.ST.lit rfl (E.epc rfl E.epn) (lit22 (i : Int)) ?_)
        refine E.GL.st rfl rfl rfl (E.ST.append kI w.heap.size (w0 := w) (s := .tmp 30) (x := .tmp 32) rfl hu22 info3 rfl (by decide) (by decide) (i : Int) rfl rfl rfl (fun _ _ => trivial) R7 L L.size (by have := needL_len ps qs T i; omega) fun u33 w33 r33 k33 gr33 => ?_)
        replace b2 := blk_grown b2 gr33 (Kd.R_ne R7 b2 (by decide))
        replace L := k33
        clear R7 k33 gr33
        refine E.GL.run rfl rfl rfl (E.Runs.assign rfl rfl) ?_
        refine E.GL.done ?_
        refine E.QG.block_normal ?_
        refine E.QG.code ?_
        refine E.CG.list ?_
        refine E.GL.run rfl rfl rfl (E.Runs.move rfl rfl) ?_
        refine E.GL.run rfl rfl rfl (E.Runs.add rfl rfl rfl (IntWalk.i64_in _ (by omega))) ?_
        refine E.GL.run rfl rfl rfl (E.Runs.assign rfl rfl) ?_
        refine E.GL.done ?_
        exact E.QG.round2 (d := .slice none 0 0) (i + 1) _ (E.subc rfl (E.subc rfl (E.subc rfl (E.subc rfl E.subn)))) (by first | exact ⟨by omega, b2, by rw [needL_yes hnp]; exact r33, L⟩ | exact ⟨by omega, b2, by rw [needL_no hnp]; exact R7, L⟩ | fail) (by omega)
      · have hnp : ¬ needP ps qs T i := fun ⟨M, k1, k2⟩ => by have := IsMost.one (shutQ_ok hH hil) k1 hN; omega
        refine E.GH.done (by kernel_rfl) ?_
        refine E.QG.code ?_
        refine E.CG.cond_f rfl ?_
        refine E.CG.skip ?_
        refine E.QG.block_normal ?_
        refine E.QG.code ?_
        refine E.CG.list ?_
        refine E.GL.run rfl rfl rfl (E.Runs.move rfl rfl) ?_
        refine E.GL.run rfl rfl rfl (E.Runs.add rfl rfl rfl (IntWalk.i64_in _ (by omega))) ?_
        refine E.GL.run rfl rfl rfl (E.Runs.assign rfl rfl) ?_
        refine E.GL.done ?_
        exact E.QG.round2 (d := .slice none 0 0) (i + 1) _ (E.subc rfl (E.subc rfl (E.subc rfl (E.subc rfl E.subn)))) (by first | exact ⟨by omega, b2, by rw [needL_yes hnp]; exact r33, L⟩ | exact ⟨by omega, b2, by rw [needL_no hnp]; exact R7, L⟩ | fail) (by omega)
    · have hil : i = qs.length := by omega
      refine E.GL.done ?_
      refine E.QG.code ?_
      refine E.CG.cond_f rfl ?_
      refine E.CG.exit ?_
      refine E.QG.pass_exit ?_
      refine E.QG.pass_exit ?_
      refine E.QG.block_here ?_
      refine E.QG.code ?_
      refine E.CG.seq ?_
      refine E.CG.list ?_
      refine E.GL.run rfl rfl rfl (E.Runs.move rfl rfl) ?_
      refine E.GL.run rfl rfl rfl (E.Runs.assign rfl rfl) ?_
      refine E.GL.run rfl rfl rfl (E.Runs.assign rfl rfl) ?_
      refine E.GL.done ?_
      refine E.QG.code ?_
      refine E.CG.ret ?_
      exact E.QG.result2 rfl rfl rfl ⟨_, _, by rw [hE0], R7, ⟨fun _ => by rw [hil]; rfl, fun k => absurd hE0 k⟩, L⟩

set_option maxRecDepth 100000 in
set_option maxHeartbeats 8000000 in

theorem emptyF_calls (ps : List Int) (qs : List S45) (A B : Option Addr) (c d : Nat) (w : World) (hP : Kd.C kI w A ps.length ps) (hQ : Kd.C k45 w B qs.length qs) (hn1 : ps.length ≤ 1000000) (hn2 : qs.length ≤ 1000000) :
    Calls Try.prog 22 #[hv ps qs A B c d] w fun e w' => ∃ N E, e = .returned (.tuple #[.int .i64 N, .int .i64 E]) ∧ EmptyR ps qs N E ∧ Below w.heap.size w w' := by
  have hu3 := Try.underlying3
  have hu25 := Try.underlying25
  obtain ⟨z3, o3⟩ := info_some info3s (by decide)
  obtain ⟨z25, o25⟩ := info_some info25s (by decide)
  refine E.enter (N := 22) Try.func22 rfl Try.ntmps22 (args := [hv ps qs A B c d]) (by simp) ?_
  have L := Below.refl w.heap.size w
  refine E.CG.seq ?_
  refine E.CG.list ?_
  refine E.GL.st rfl rfl rfl (E.ST.box rfl rfl fun g1 w1 e1 b1 l1 => ?_)
  have h1_L : w.heap.size ≤ g1 := by rw [e1]; exact L.size
  replace L := below_step L l1
  refine E.GL.run rfl rfl rfl (E.Runs.assign rfl rfl) ?_
  refine E.GL.run rfl rfl rfl (E.Runs.assign rfl rfl) ?_
  refine E.GL.done ?_
  refine E.QG.code ?_
  refine E.CG.seq ?_
  refine E.CG.seq ?_
  refine E.CG.list ?_
  refine E.GL.run rfl rfl rfl (E.Runs.loads (cs := [.slice A ps.length c, .slice B qs.length d]) rfl rfl hu25 rfl info25s (blk_cells b1)) ?_
  refine E.GL.st rfl rfl rfl (E.ST.call rfl ent15 (E.evc rfl E.evn) ((check15 ps qs A B c d _ (Kd.C_below hP L) (Kd.C_below hQ L) hn1 hn2).mono ?_))
  rintro e w6 ⟨rfl, l6⟩
  refine ⟨_, rfl, ?_⟩
  replace b1 := blk_below b1 l6
  replace L := below_step L l6
  refine E.GL.cmpn rfl rfl rfl (fun _ h => (E.Runs.neq rfl rfl rfl h)) (fun h7 => ?_) (fun h7 => ?_)
  · have hH : ¬ HOk ps qs := fun k => h7 (checkE_yes k)
    refine E.GL.done ?_
    refine E.QG.code ?_
    refine E.CG.cond_t rfl ?_
    refine E.CG.seq ?_
    refine E.CG.list ?_
    refine E.GL.run rfl rfl rfl (E.Runs.assign rfl rfl) ?_
    refine E.GL.run rfl rfl rfl (E.Runs.assign rfl rfl) ?_
    refine E.GL.done ?_
    refine E.QG.code ?_
    refine E.CG.ret ?_
    refine E.QG.pass_ret ?_
    exact E.QG.result2 rfl rfl rfl ⟨0, 110, rfl, ⟨fun _ => ⟨rfl, rfl⟩, fun k => absurd k hH⟩, L⟩
  · have hH : HOk ps qs := checkE_ok.mp h7
    refine E.GL.done ?_
    refine E.QG.code ?_
    refine E.CG.cond_f rfl ?_
    refine E.CG.skip ?_
    refine E.QG.code ?_
    refine E.CG.seq ?_
    refine E.CG.seq ?_
    refine E.CG.heldH (none) (by kernel_rfl) fun v3 lD hh => ?_
    replace b1 := blk_below b1 lD
    replace L := below_step L lD
    clear lD
    have s_b1 := b1
    have s_L := L
    refine E.GH.take (i := 0) rfl (by kernel_rfl) (by kernel_rfl) (by kernel_rfl) (by intro c a d v w h; cases d <;> exact h) rfl rfl rfl (fun w' hS => (E.Runs.loads (cs := [.slice A ps.length c, .slice B qs.length d]) rfl rfl hu25 rfl info25s (blk_cells (blk_grown s_b1 hS E.nen)))) ?_
    refine E.GH.take (i := 2) rfl (by kernel_rfl) (by kernel_rfl) (by kernel_rfl) (by intro c a d v w h; cases d <;> exact h) rfl rfl rfl (fun w' hS => (E.Runs.loads (cs := [.slice A ps.length c, .slice B qs.length d]) rfl rfl hu25 rfl info25s (blk_cells (blk_grown s_b1 hS E.nen)))) ?_
    refine E.GH.one (i := 1) (by kernel_rfl) rfl ?_
    refine E.GO.st rfl rfl rfl (E.ST.call rfl ent52 (E.evc rfl (E.evc rfl E.evn)) ((mostR_calls ps qs A B c d 60 _ hH (Nat.le_refl _) (Kd.C_below hP L) (Kd.C_below hQ L)).mono ?_))
    rintro e w9 ⟨N, rfl, hN, l9⟩
    refine ⟨_, rfl, hh.trans (E.gbB l9), ?_⟩
    replace hh := hh.trans (E.gbB l9)
    replace b1 := blk_below b1 l9
    replace L := below_step L l9
    refine E.GH.one (i := 3) (by kernel_rfl) rfl ?_
    refine E.GO.st rfl rfl rfl (E.ST.call rfl ent29 (E.evc rfl E.evn) ((all_calls ps qs A B c d _ (Kd.C_below hP L) hH.p (by have := hH.r6; omega)).mono ?_))
    rintro e w11 ⟨rfl, l11⟩
    refine ⟨_, rfl, hh.trans (E.gbB l11), ?_⟩
    replace hh := hh.trans (E.gbB l11)
    replace b1 := blk_below b1 l11
    replace L := below_step L l11
    refine E.GH.cmp (i := 4) rfl (by kernel_rfl) (by kernel_rfl) (by kernel_rfl) (by intro c a d v w h; cases d <;> exact h) rfl rfl rfl (fun _ h w' hS => (E.Runs.lss rfl rfl rfl h)) (fun h12 => ?_) (fun h12 => ?_)
    · refine E.GH.done (by kernel_rfl) ?_
      refine E.QG.code ?_
      refine E.CG.cond_t rfl ?_
      refine E.CG.seq ?_
      refine E.CG.list ?_
      refine E.GL.run rfl rfl rfl (E.Runs.assign rfl rfl) ?_
      refine E.GL.run rfl rfl rfl (E.Runs.assign rfl rfl) ?_
      refine E.GL.done ?_
      refine E.QG.code ?_
      refine E.CG.ret ?_
      refine E.QG.pass_ret ?_
      exact E.QG.result2 rfl rfl rfl ⟨0, 3, rfl, ⟨fun k => absurd hH k, fun _ => .inr ⟨rfl, rfl, fun s hs k => by have := most_later hH hs k hN; omega⟩⟩, L⟩
    · have hA : N = allP ps := by have := most_all hH hN; omega
      rw [hA] at hN
      refine E.GH.done (by kernel_rfl) ?_
      refine E.QG.code ?_
      refine E.CG.cond_f rfl ?_
      refine E.CG.skip ?_
      refine E.QG.code ?_
      refine E.CG.seq ?_
      refine E.CG.list ?_
      refine E.GL.run rfl rfl rfl (E.Runs.assign rfl rfl) ?_
      refine E.GL.done ?_
      refine E.QG.code ?_
      refine E.CG.seq ?_
      refine E.CG.block ?_
      have s6_b1 := b1
      have s6_L := L
      refine E.CG.loop (fun (t : Nat) => [(1, .pointer (some ⟨g1, 0, none⟩)), (4, .int .i64 t)]) (fun t w' => t ≤ 60 ∧ w'.heap[g1]? = some (.cells #[.slice A ps.length c, .slice B qs.length d] 25 (0, 0)) ∧ Below w.heap.size w w' ∧ ∀ s : Nat, s < t → ¬ IsMost ps qs s (allP ps)) (fun t => 61 - t) 0 (E.subc rfl (E.subc rfl E.subn)) ⟨by omega, b1, L, fun s hs => by omega⟩ ?_
      rintro t w6 ⟨ht, b1, L, hno⟩
      refine E.CG.seq ?_
      refine E.CG.seq ?_
      refine E.CG.heldH (none) (by kernel_rfl) fun v6 lD hh => ?_
      replace b1 := blk_below b1 lD
      replace L := below_step L lD
      clear lD
      have s_b1 := b1
      have s_L := L
      refine E.GH.take (i := 0) rfl (by kernel_rfl) (by kernel_rfl) (by kernel_rfl) (by intro c a d v w h; cases d <;> exact h) rfl rfl rfl (fun w' hS => (E.Runs.loads (cs := [.slice A ps.length c, .slice B qs.length d]) rfl rfl hu25 rfl info25s (blk_cells (blk_grown s_b1 hS E.nen)))) ?_
      refine E.GH.take (i := 1) rfl (by kernel_rfl) (by kernel_rfl) (by kernel_rfl) (by intro c a d v w h; cases d <;> exact h) rfl rfl rfl (fun w' hS => (E.Runs.move rfl rfl)) ?_
      refine E.GH.take (i := 3) rfl (by kernel_rfl) (by kernel_rfl) (by kernel_rfl) (by intro c a d v w h; cases d <;> exact h) rfl rfl rfl (fun w' hS => (E.Runs.loads (cs := [.slice A ps.length c, .slice B qs.length d]) rfl rfl hu25 rfl info25s (blk_cells (blk_grown s_b1 hS E.nen)))) ?_
      refine E.GH.one (i := 2) (by kernel_rfl) rfl ?_
      refine E.GO.st rfl rfl rfl (E.ST.call rfl ent52 (E.evc rfl (E.evc rfl E.evn)) ((mostR_calls ps qs A B c d t _ hH ht (Kd.C_below hP L) (Kd.C_below hQ L)).mono ?_))
      rintro e w15 ⟨M, rfl, hM, l15⟩
      refine ⟨_, rfl, hh.trans (E.gbB l15), ?_⟩
      replace hh := hh.trans (E.gbB l15)
      replace b1 := blk_below b1 l15
      replace L := below_step L l15
      refine E.GH.one (i := 4) (by kernel_rfl) rfl ?_
      refine E.GO.st rfl rfl rfl (E.ST.call rfl ent29 (E.evc rfl E.evn) ((all_calls ps qs A B c d _ (Kd.C_below hP L) hH.p (by have := hH.r6; omega)).mono ?_))
      rintro e w17 ⟨rfl, l17⟩
      refine ⟨_, rfl, hh.trans (E.gbB l17), ?_⟩
      replace hh := hh.trans (E.gbB l17)
      replace b1 := blk_below b1 l17
      replace L := below_step L l17
      refine E.GH.cmp (i := 5) rfl (by kernel_rfl) (by kernel_rfl) (by kernel_rfl) (by intro c a d v w h; cases d <;> exact h) rfl rfl rfl (fun _ h w' hS => (E.Runs.lss rfl rfl rfl h)) (fun h18 => ?_) (fun h18 => ?_)
      · have hIs : ¬ IsMost ps qs t (allP ps) := fun k => by have := hM.one hH k; omega
        have ht2 : t ≠ 60 := fun e => hIs (by rw [e]; exact hN)
        refine E.GH.done (by kernel_rfl) ?_
        refine E.QG.code ?_
        refine E.CG.cond_t rfl ?_
        refine E.CG.skip ?_
        refine E.QG.code ?_
        refine E.CG.block ?_
        refine E.CG.list ?_
        refine E.GL.run rfl rfl rfl (E.Runs.move rfl rfl) ?_
        refine E.GL.run rfl rfl rfl (E.Runs.add rfl rfl rfl (IntWalk.i64_in _ (by omega))) ?_
        refine E.GL.run rfl rfl rfl (E.Runs.assign rfl rfl) ?_
        refine E.GL.done ?_
        refine E.QG.block_normal ?_
        exact E.QG.round (t + 1) (E.subc rfl (E.subc rfl E.subn)) ⟨by omega, b1, L, lt_succ_all hno hIs⟩ (by omega)
      · have hIs : M = allP ps := by have := most_all hH hM; omega
        rw [hIs] at hM
        refine E.GH.done (by kernel_rfl) ?_
        refine E.QG.code ?_
        refine E.CG.cond_f rfl ?_
        refine E.CG.exit ?_
        refine E.QG.pass_exit ?_
        refine E.QG.pass_exit ?_
        refine E.QG.block_here ?_
        refine E.QG.code ?_
        refine E.CG.seq ?_
        refine E.CG.list ?_
        refine E.GL.run rfl rfl rfl (E.Runs.move rfl rfl) ?_
        refine E.GL.run rfl rfl rfl (E.Runs.assign rfl rfl) ?_
        refine E.GL.run rfl rfl rfl (E.Runs.assign rfl rfl) ?_
        refine E.GL.done ?_
        refine E.QG.code ?_
        refine E.CG.ret ?_
        exact E.QG.result2 rfl rfl rfl ⟨_, 0, rfl, ⟨fun k => absurd hH k, fun _ => .inl ⟨t, ht, rfl, rfl, hM, hno⟩⟩, L⟩

end Go.Proofs.Ytmnjlnkfihklgaa.T
namespace Go.Proofs.Ytmnjlnkfihklgaa.T
open Go.RowKit Go.Proofs.YtmnjlnkfihklgaaW.PrintWords Go.Proofs.YtmnjlnkfihklgaaW.PrintMore
open Go.Proofs.Ytmnjlnkfihklgaa.P
set_option linter.unusedVariables false
abbrev eP : List Int := [5, 4]
abbrev eQ : List S45 := [⟨0, 1, 2, 1⟩, ⟨0, -1, 1, 2⟩, ⟨1, -1, 3, 1⟩, ⟨1, 0, 1, 1⟩]
def uL : List (Nat × Nat × Int) → Nat → Nat → Int
  | [], _, _ => 0
  | (a, b, c) :: r, i, k => if a = i ∧ b = k then c else uL r i k
theorem use_of {ps : List Int} {qs : List S45} {T : Nat} {u : Nat → Nat → Int} (h : ∀ i, i < qs.length → ∀ k, k < T + 1 → k + (qs.getD i z45).f3.toNat < T + 1 → 0 ≤ u i k ∧ u i k ≤ (qs.getD i z45).f2) (h2 : ∀ r, r < ps.length → ∀ m, m < T + 1 → 0 ≤ thereU ps qs T u r m) : Use ps qs T u :=
  ⟨fun i k hi hk => h i hi k (by omega) hk, fun r m hr hm => h2 r hr m (by omega)⟩
def hrL (l : List Nat) (r : Nat) : Nat := l.getD r 0
theorem eOk : HOk eP eQ := by decide
set_option maxRecDepth 100000 in
theorem eMost2 : IsMost eP eQ 2 7 := ⟨⟨uL [(0, 0, 2), (1, 0, 1), (2, 0, 3), (2, 1, 3)], use_of (by decide) (by decide), by decide⟩, hrL [0, 0], by decide, by decide⟩
set_option maxRecDepth 100000 in
theorem eMost3 : IsMost eP eQ 3 9 := ⟨⟨uL [(0, 0, 2), (0, 1, 1), (1, 0, 1), (1, 1, 1), (2, 0, 3), (2, 1, 3), (2, 2, 1)], use_of (by decide) (by decide), by decide⟩, hrL [2, 3], by decide, by decide⟩
set_option maxRecDepth 100000 in
theorem eShut0 : IsMost eP (shutQ eQ 0) 3 6 := ⟨⟨uL [(1, 0, 1), (1, 1, 1), (2, 0, 3), (2, 1, 1)], use_of (by decide) (by decide), by decide⟩, hrL [0, 3], by decide, by decide⟩
set_option maxRecDepth 100000 in
theorem eShut1 : IsMost eP (shutQ eQ 1) 3 8 := ⟨⟨uL [(0, 0, 2), (0, 1, 2), (2, 0, 3), (2, 1, 3), (2, 2, 2)], use_of (by decide) (by decide), by decide⟩, hrL [0, 3], by decide, by decide⟩
set_option maxRecDepth 100000 in
theorem eShut2 : IsMost eP (shutQ eQ 2) 3 2 := ⟨⟨uL [(1, 0, 1), (1, 1, 1)], use_of (by decide) (by decide), by decide⟩, hrL [0, 0], by decide, by decide⟩
set_option maxRecDepth 100000 in
theorem eShut3 : IsMost eP (shutQ eQ 3) 3 9 := ⟨⟨uL [(0, 0, 2), (0, 1, 1), (1, 0, 1), (1, 1, 1), (2, 0, 3), (2, 1, 3), (2, 2, 1)], use_of (by decide) (by decide), by decide⟩, hrL [2, 3], by decide, by decide⟩
theorem eAll : allP eP = 9 := by decide
theorem eChk (m : Int) (h : inR m 0 60) : chkE eP eQ m = 0 := chkE_ok.mpr ⟨eOk, h⟩
theorem eMostR {N : Int} (h : MostR eP eQ 2 N) : N = 7 := (h.1 (eChk 2 (by decide))).one eOk eMost2
theorem eEmptyR {N E : Int} (h : EmptyR eP eQ N E) : N = 3 ∧ E = 0 := by
  rcases h.2 eOk with ⟨t, h1, h2, h3, h4, h5⟩ | ⟨h1, h2, h3⟩
  · refine ⟨?_, h3⟩
    rw [h2]
    rcases Nat.lt_trichotomy t 3 with q | q | q
    · have := most_later eOk (show t ≤ 2 by omega) h4 eMost2
      rw [eAll] at this
      omega
    · omega
    · exact absurd (by rw [eAll]; exact eMost3) (h5 3 q)
  · exact absurd (by rw [eAll]; exact eMost3) (h3 3 (by omega))
theorem eNeed : needL eP eQ 3 4 = [0, 1, 2] := by
  have a0 : needP eP eQ 3 0 := ⟨6, eShut0, by decide⟩
  have a1 : needP eP eQ 3 1 := ⟨8, eShut1, by decide⟩
  have a2 : needP eP eQ 3 2 := ⟨2, eShut2, by decide⟩
  have a3 : ¬ needP eP eQ 3 3 := fun ⟨M, h1, h2⟩ => by
    have := IsMost.one (shutQ_ok eOk (by decide)) h1 eShut3
    rw [eAll] at h2
    omega
  rw [needL_no a3, needL_yes a2, needL_yes a1, needL_yes a0]
  rfl
theorem eNeedR {l : List Int} (h : NeedR eP eQ 3 l) : l = [0, 1, 2] := (h.1 (eChk 3 (by decide))).trans eNeed
abbrev eL : List S35 := [⟨0, 0, 2⟩, ⟨0, 1, 1⟩, ⟨0, 2, 3⟩, ⟨1, 2, 3⟩]
theorem isPl_of {ps : List Int} {qs : List S45} {T : Nat} {l : List S35} (h : ∀ i, i < l.length → Mv1 qs T l i (l.getD i ⟨0, 0, 0⟩)) (h2 : ∀ r, r < ps.length → ∀ m, m < T + 1 → 0 ≤ thM ps qs l r m) : IsPl ps qs T l :=
  ⟨fun i x hx => by
    have hi := (List.getElem?_eq_some_iff.1 hx).1
    have := h i hi
    rw [show l.getD i ⟨0, 0, 0⟩ = x by simp [List.getD_eq_getElem?_getD, hx]] at this
    exact this, fun r m hr hm => h2 r hr m (by omega)⟩
instance (qs : List S45) (T : Int) (x : S35) : Decidable (MvOk qs T x) := by unfold MvOk; infer_instance
instance (qs : List S45) (T : Int) (l : List S35) (i : Nat) (x : S35) : Decidable (Mv1 qs T l i x) := by unfold Mv1; infer_instance
set_option maxRecDepth 100000 in
theorem ePlan : IsPl eP eQ 2 eL := isPl_of (by decide) (by decide)
theorem eGoneR {N E : Int} (h : GoneR eP eQ 2 eL N E) : N = 7 ∧ E = 0 := by
  obtain ⟨h1, h2⟩ := (h.2 (eChk 2 (by decide))).1 ePlan
  refine ⟨?_, h2⟩
  rw [h1]
  decide
end Go.Proofs.Ytmnjlnkfihklgaa.T
namespace Go.Proofs.Ytmnjlnkfihklgaa.T
open Go.RowKit Go.Proofs.YtmnjlnkfihklgaaW.PrintWords Go.Proofs.YtmnjlnkfihklgaaW.PrintMore
open Go.Proofs.Ytmnjlnkfihklgaa.P
set_option linter.unusedVariables false
set_option linter.unusedSimpArgs false

def big (ps : List Int) (qs : List S45) : Prop := 40 < ps.length ∨ 40 < qs.length
instance (ps : List Int) (qs : List S45) : Decidable (big ps qs) := by unfold big; infer_instance
def farH (ps : List Int) (qs : List S45) : Prop := big ps qs ∨ HOk ps qs ∧ (3 < ps.length ∨ 5 < qs.length ∨ 12 < allP ps)
instance (ps : List Int) (qs : List S45) : Decidable (farH ps qs) := by unfold farH; infer_instance
def late (m : Int) : Prop := 10 < m ∧ m ≤ 60
instance (m : Int) : Decidable (late m) := by unfold late; infer_instance
def ready (ps : List Int) (qs : List S45) (m : Int) : Prop := ¬ farH ps qs ∧ ¬ late m ∧ HOk ps qs ∧ 0 ≤ m ∧ m ≤ 60
instance (ps : List Int) (qs : List S45) (m : Int) : Decidable (ready ps qs m) := by unfold ready; infer_instance
theorem not_big {ps : List Int} {qs : List S45} (h : ¬ big ps qs) : ps.length ≤ 40 ∧ qs.length ≤ 40 := by unfold big at h; omega
theorem not_far {ps : List Int} {qs : List S45} (h : ¬ farH ps qs) : ps.length ≤ 40 ∧ qs.length ≤ 40 := not_big (fun k => h (.inl k))
/-- Whole numbers written out, in a block of ours. -/
theorem C_nums {w : World} {g : Nat} (l : List Int) (hb : w.heap[g]? = some (.cells (l.map (Value.int .i64)).toArray 3 (0, 0))) (hn : l.length ≤ 1000000) : Kd.C kI w (some ⟨g, 0, none⟩) l.length l := by
  refine ⟨rfl, by omega, fun _ => ⟨_, rfl, ?_⟩⟩
  intro j p hj
  refine ⟨[.int .i64 p], rfl, rfl, fun i u hu => ?_⟩
  have hi : i < 1 := (List.getElem?_eq_some_iff.1 hu).1
  obtain rfl : i = 0 := by omega
  cases hu
  rw [Addr.add_mid, blk_cell hb]
  simp [hj, show kI.sz = 1 from rfl]
set_option maxRecDepth 100000 in
set_option maxHeartbeats 8000000 in

theorem huge_calls (ps : List Int) (qs : List S45) (A B : Option Addr) (c d : Nat) (w : World) (r : Bool) (hb : r = true ↔ big ps qs) :
    Calls Try.prog 11 #[hv ps qs A B c d] w fun e w' => e = .returned (.bool r) ∧ Below w.heap.size w w' := by
  unfold big at hb
  have hu3 := Try.underlying3
  have hu22 := Try.underlying22
  have hu23 := Try.underlying23
  have hu25 := Try.underlying25
  obtain ⟨z22, o22⟩ := info_some info22s (by decide)
  obtain ⟨z23, o23⟩ := info_some info23s (by decide)
  refine E.enter (N := 13) Try.func11 rfl Try.ntmps11 (args := [hv ps qs A B c d]) (by simp) ?_
  have L := Below.refl w.heap.size w
  refine E.CG.seq ?_
  refine E.CG.list ?_
  refine E.GL.st rfl rfl rfl (E.ST.box rfl rfl fun g1 w1 e1 b1 l1 => ?_)
  have h1_L : w.heap.size ≤ g1 := by rw [e1]; exact L.size
  replace L := below_step L l1
  refine E.GL.run rfl rfl rfl (E.Runs.assign rfl rfl) ?_
  refine E.GL.done ?_
  refine E.QG.code ?_
  refine E.CG.seq ?_
  refine E.CG.list ?_
  refine E.GL.run rfl rfl rfl (E.Runs.fieldAddr rfl rfl hu25 rfl (by assumption) rfl) ?_
  refine E.GL.run rfl rfl rfl (E.Runs.load1 rfl rfl hu22 rfl (by first | assumption | exact E.blkc (by assumption) rfl | exact pw_cell_below L (by assumption))) ?_
  refine E.GL.run rfl rfl rfl (E.Runs.len rfl rfl hu22) ?_
  refine E.GL.cmp rfl rfl rfl (fun _ h => (E.Runs.gtr rfl rfl rfl h)) (fun h6 => ?_) (fun h6 => ?_)
  · refine E.GL.run rfl rfl rfl (E.Runs.move rfl rfl) ?_
    refine E.GL.skip rfl rfl rfl ?_
    refine E.GL.skip rfl rfl rfl ?_
    refine E.GL.skip rfl rfl rfl ?_
    refine E.GL.skip rfl rfl rfl ?_
    refine E.GL.run rfl rfl rfl (E.Runs.pick_t rfl rfl rfl) ?_
    refine E.GL.run rfl rfl rfl (E.Runs.assign rfl rfl) ?_
    refine E.GL.done ?_
    refine E.QG.code ?_
    refine E.CG.ret ?_
    exact E.QG.result rfl rfl ⟨by rw [hb.mpr (by omega)], L⟩
  · refine E.GL.run rfl rfl rfl (E.Runs.move rfl rfl) ?_
    refine E.GL.run rfl rfl rfl (E.Runs.fieldAddr rfl rfl hu25 rfl (by assumption) rfl) ?_
    refine E.GL.run rfl rfl rfl (E.Runs.load1 rfl rfl hu23 rfl (by first | assumption | exact E.blkc (by assumption) rfl | exact pw_cell_below L (by assumption))) ?_
    refine E.GL.run rfl rfl rfl (E.Runs.len rfl rfl hu23) ?_
    refine E.GL.cmp rfl rfl rfl (fun _ h => (E.Runs.gtr rfl rfl rfl h)) (fun h11 => ?_) (fun h11 => ?_)
    · refine E.GL.run rfl rfl rfl (E.Runs.pick_f rfl rfl rfl) ?_
      refine E.GL.run rfl rfl rfl (E.Runs.assign rfl rfl) ?_
      refine E.GL.done ?_
      refine E.QG.code ?_
      refine E.CG.ret ?_
      exact E.QG.result rfl rfl ⟨by rw [hb.mpr (by omega)], L⟩
    · refine E.GL.run rfl rfl rfl (E.Runs.pick_f rfl rfl rfl) ?_
      refine E.GL.run rfl rfl rfl (E.Runs.assign rfl rfl) ?_
      refine E.GL.done ?_
      refine E.QG.code ?_
      refine E.CG.ret ?_
      exact E.QG.result rfl rfl ⟨by rw [bool_no hb (by omega)], L⟩

set_option maxRecDepth 100000 in
set_option maxHeartbeats 8000000 in

theorem same_calls (l k : List Int) (A A1 : Option Addr) (c c1 : Nat) (w : World) (r : Bool) (hb : r = true ↔ l = k) (h1 : Kd.C kI w A l.length l) (h2 : Kd.C kI w A1 k.length k) (hn : l.length ≤ 1000000) :
    Calls Try.prog 18 #[.slice A l.length c, .slice A1 k.length c1] w fun e w' => e = .returned (.bool r) ∧ Below w.heap.size w w' := by
  have hu3 := Try.underlying3
  have hu22 := Try.underlying22
  obtain ⟨z3, o3⟩ := info_some info3s (by decide)
  refine E.enter (N := 26) Try.func18 rfl Try.ntmps18 (args := [.slice A l.length c, .slice A1 k.length c1]) (by simp) ?_
  have L := Below.refl w.heap.size w
  refine E.CG.seq ?_
  refine E.CG.list ?_
  refine E.GL.run rfl rfl rfl (E.Runs.assign rfl rfl) ?_
  refine E.GL.done ?_
  refine E.QG.code ?_
  refine E.CG.seq ?_
  refine E.CG.seq ?_
  refine E.CG.list ?_
  refine E.GL.run rfl rfl rfl (E.Runs.move rfl rfl) ?_
  refine E.GL.run rfl rfl rfl (E.Runs.len rfl rfl hu22) ?_
  refine E.GL.run rfl rfl rfl (E.Runs.move rfl rfl) ?_
  refine E.GL.run rfl rfl rfl (E.Runs.len rfl rfl hu22) ?_
  refine E.GL.cmpn rfl rfl rfl (fun _ h => (E.Runs.neq rfl rfl rfl h)) (fun h10 => ?_) (fun h10 => ?_)
  · refine E.GL.done ?_
    refine E.QG.code ?_
    refine E.CG.cond_t rfl ?_
    refine E.CG.seq ?_
    refine E.CG.list ?_
    refine E.GL.run rfl rfl rfl (E.Runs.assign rfl rfl) ?_
    refine E.GL.done ?_
    refine E.QG.code ?_
    refine E.CG.ret ?_
    refine E.QG.pass_ret ?_
    exact E.QG.result rfl rfl ⟨by rw [bool_no hb (fun e => h10 (by rw [e]))], L⟩
  · refine E.GL.done ?_
    refine E.QG.code ?_
    refine E.CG.cond_f rfl ?_
    refine E.CG.skip ?_
    refine E.QG.code ?_
    refine E.CG.seq ?_
    refine E.CG.seq ?_
    refine E.CG.list ?_
    refine E.GL.run rfl rfl rfl (E.Runs.assign rfl rfl) ?_
    refine E.GL.done ?_
    refine E.QG.code ?_
    refine E.CG.block ?_
    have s4_L := L
    refine E.CG.loop (fun (i : Nat) => [(0, .slice A l.length c), (1, .slice A1 k.length c1), (5, .int .i64 i)]) (fun i w' => i ≤ l.length ∧ Below w.heap.size w w' ∧ ∀ j, j < i → l[j]? = k[j]?) (fun i => l.length - i) 0 (E.subc rfl (E.subc rfl (E.subc rfl E.subn))) ⟨Nat.zero_le _, L, fun j hj => by omega⟩ ?_
    rintro i w4 ⟨hi, L, hs⟩
    refine E.CG.seq ?_
    refine E.CG.seq ?_
    refine E.CG.list ?_
    refine E.GL.run rfl rfl rfl (E.Runs.move rfl rfl) ?_
    refine E.GL.run rfl rfl rfl (E.Runs.move rfl rfl) ?_
    refine E.GL.run rfl rfl rfl (E.Runs.len rfl rfl hu22) ?_
    refine E.GL.cmp rfl rfl rfl (fun _ h => (E.Runs.lss rfl rfl rfl h)) (fun h14 => ?_) (fun h14 => ?_)
    · obtain ⟨x, hx⟩ : ∃ x, l[i]? = some x := ⟨_, List.getElem?_eq_getElem (by omega)⟩
      obtain ⟨ad, eA, X⟩ := int_at h1 hx
      obtain ⟨y, hy⟩ : ∃ x, k[i]? = some x := ⟨_, List.getElem?_eq_getElem (by omega)⟩
      obtain ⟨ae, eB, Y⟩ := int_at h2 hy
      have hik : (i : Int) < l.length := by omega
      have hik2 : (i : Int) < k.length := by omega
      refine E.GL.done ?_
      refine E.QG.code ?_
      refine E.CG.cond_t rfl ?_
      refine E.CG.skip ?_
      refine E.QG.code ?_
      refine E.CG.seq ?_
      refine E.CG.block ?_
      refine E.CG.seq ?_
      refine E.CG.quietF (by kernel_rfl) rfl (by kernel_rfl) (by kernel_rfl) ?_
      refine E.GQ.run rfl rfl rfl (E.Runs.move rfl rfl) ?_
      refine E.GQ.run rfl rfl rfl (E.Runs.move rfl rfl) ?_
      refine E.GQ.run rfl rfl rfl (E.Runs.indexAddrA rfl rfl rfl hu22 (by assumption) (by assumption) (by assumption) (by first | rfl | assumption) rfl) ?_
      refine E.GQ.run rfl rfl rfl (E.Runs.load rfl rfl hu3 (by first | assumption | exact E.blkc (by assumption) rfl | exact pw_cell_below L (by assumption))) ?_
      refine E.GQ.run rfl rfl rfl (E.Runs.move rfl rfl) ?_
      refine E.GQ.run rfl rfl rfl (E.Runs.move rfl rfl) ?_
      refine E.GQ.run rfl rfl rfl (E.Runs.indexAddrA rfl rfl rfl hu22 (by assumption) (by assumption) (by assumption) (by first | rfl | assumption) rfl) ?_
      refine E.GQ.run rfl rfl rfl (E.Runs.load rfl rfl hu3 (by first | assumption | exact E.blkc (by assumption) rfl | exact pw_cell_below L (by assumption))) ?_
      refine E.GQ.cmpn rfl rfl rfl (fun _ h => (E.Runs.neq rfl rfl rfl h)) (fun h25 => ?_) (fun h25 => ?_)
      · refine E.GQ.doneB fun v6 lD => ?_
        replace L := below_step L lD
        have lD6 := lD
        clear lD
        refine E.QG.code ?_
        refine E.CG.cond_t rfl ?_
        refine E.CG.seq ?_
        refine E.CG.list ?_
        refine E.GL.run rfl rfl rfl (E.Runs.assign rfl rfl) ?_
        refine E.GL.done ?_
        refine E.QG.code ?_
        refine E.CG.ret ?_
        refine E.QG.block_ret ?_
        refine E.QG.pass_ret ?_
        refine E.QG.pass_ret ?_
        refine E.QG.block_ret ?_
        refine E.QG.pass_ret ?_
        exact E.QG.result rfl rfl ⟨by rw [bool_no hb (fun e => by subst e; rw [hx] at hy; cases hy; exact h25 rfl)], L⟩
      · refine E.GQ.doneB fun v6 lD => ?_
        replace L := below_step L lD
        have lD6 := lD
        clear lD
        refine E.QG.code ?_
        refine E.CG.cond_f rfl ?_
        refine E.CG.skip ?_
        refine E.QG.block_normal ?_
        refine E.QG.code ?_
        refine E.CG.list ?_
        refine E.GL.run rfl rfl rfl (E.Runs.move rfl rfl) ?_
        refine E.GL.run rfl rfl rfl (E.Runs.add rfl rfl rfl (IntWalk.i64_in _ (by omega))) ?_
        refine E.GL.run rfl rfl rfl (E.Runs.assign rfl rfl) ?_
        refine E.GL.done ?_
        exact E.QG.round (i + 1) (E.subc rfl (E.subc rfl (E.subc rfl E.subn))) ⟨by omega, L, fun j hj => (Nat.lt_or_ge j i).elim (hs j) (fun q => (show j = i by omega) ▸ (by rw [hx, hy, h25]))⟩ (by omega)
    · refine E.GL.done ?_
      refine E.QG.code ?_
      refine E.CG.cond_f rfl ?_
      refine E.CG.exit ?_
      refine E.QG.pass_exit ?_
      refine E.QG.pass_exit ?_
      refine E.QG.block_here ?_
      refine E.QG.code ?_
      refine E.CG.seq ?_
      refine E.CG.list ?_
      refine E.GL.run rfl rfl rfl (E.Runs.assign rfl rfl) ?_
      refine E.GL.done ?_
      refine E.QG.code ?_
      refine E.CG.ret ?_
      exact E.QG.result rfl rfl ⟨by rw [hb.mpr (List.ext_getElem? fun j => (Nat.lt_or_ge j i).elim (hs j) (fun q => by rw [List.getElem?_eq_none (by omega), List.getElem?_eq_none (by omega)]))], L⟩

set_option maxRecDepth 100000 in
set_option maxHeartbeats 8000000 in

theorem late_calls (m : Int) (w : World) (r : Bool) (hb : r = true ↔ late m) :
    Calls Try.prog 20 #[.int .i64 m] w fun e w' => e = .returned (.bool r) ∧ Below w.heap.size w w' := by
  unfold late at hb
  have hu3 := Try.underlying3
  refine E.enter (N := 9) Try.func20 rfl Try.ntmps20 (args := [.int .i64 m]) (by simp) ?_
  have L := Below.refl w.heap.size w
  refine E.CG.seq ?_
  refine E.CG.list ?_
  refine E.GL.run rfl rfl rfl (E.Runs.assign rfl rfl) ?_
  refine E.GL.done ?_
  refine E.QG.code ?_
  refine E.CG.seq ?_
  refine E.CG.list ?_
  refine E.GL.run rfl rfl rfl (E.Runs.move rfl rfl) ?_
  refine E.GL.cmp rfl rfl rfl (fun _ h => (E.Runs.gtr rfl rfl rfl h)) (fun h4 => ?_) (fun h4 => ?_)
  · refine E.GL.run rfl rfl rfl (E.Runs.move rfl rfl) ?_
    refine E.GL.run rfl rfl rfl (E.Runs.move rfl rfl) ?_
    refine E.GL.cmp rfl rfl rfl (fun _ h => (E.Runs.leq rfl rfl rfl h)) (fun h7 => ?_) (fun h7 => ?_)
    · refine E.GL.run rfl rfl rfl (E.Runs.pick_t rfl rfl rfl) ?_
      refine E.GL.run rfl rfl rfl (E.Runs.assign rfl rfl) ?_
      refine E.GL.done ?_
      refine E.QG.code ?_
      refine E.CG.ret ?_
      exact E.QG.result rfl rfl ⟨by rw [hb.mpr (by omega)], L⟩
    · refine E.GL.run rfl rfl rfl (E.Runs.pick_t rfl rfl rfl) ?_
      refine E.GL.run rfl rfl rfl (E.Runs.assign rfl rfl) ?_
      refine E.GL.done ?_
      refine E.QG.code ?_
      refine E.CG.ret ?_
      exact E.QG.result rfl rfl ⟨by rw [bool_no hb (by omega)], L⟩
  · refine E.GL.run rfl rfl rfl (E.Runs.move rfl rfl) ?_
    refine E.GL.skip rfl rfl rfl ?_
    refine E.GL.skip rfl rfl rfl ?_
    refine E.GL.run rfl rfl rfl (E.Runs.pick_f rfl rfl rfl) ?_
    refine E.GL.run rfl rfl rfl (E.Runs.assign rfl rfl) ?_
    refine E.GL.done ?_
    refine E.QG.code ?_
    refine E.CG.ret ?_
    exact E.QG.result rfl rfl ⟨by rw [bool_no hb (by omega)], L⟩

set_option maxRecDepth 100000 in
set_option maxHeartbeats 8000000 in

theorem far_calls (ps : List Int) (qs : List S45) (A B : Option Addr) (c d : Nat) (w : World) (r : Bool) (hP : Kd.C kI w A ps.length ps) (hQ : Kd.C k45 w B qs.length qs) (hb : r = true ↔ farH ps qs) :
    Calls Try.prog 19 #[hv ps qs A B c d] w fun e w' => e = .returned (.bool r) ∧ Below w.heap.size w w' := by
  have hu3 := Try.underlying3
  have hu22 := Try.underlying22
  have hu23 := Try.underlying23
  have hu25 := Try.underlying25
  obtain ⟨z3, o3⟩ := info_some info3s (by decide)
  obtain ⟨z22, o22⟩ := info_some info22s (by decide)
  obtain ⟨z23, o23⟩ := info_some info23s (by decide)
  obtain ⟨z25, o25⟩ := info_some info25s (by decide)
  refine E.enter (N := 27) Try.func19 rfl Try.ntmps19 (args := [hv ps qs A B c d]) (by simp) ?_
  have L := Below.refl w.heap.size w
  refine E.CG.seq ?_
  refine E.CG.list ?_
  refine E.GL.st rfl rfl rfl (E.ST.box rfl rfl fun g1 w1 e1 b1 l1 => ?_)
  have h1_L : w.heap.size ≤ g1 := by rw [e1]; exact L.size
  replace L := below_step L l1
  refine E.GL.run rfl rfl rfl (E.Runs.assign rfl rfl) ?_
  refine E.GL.done ?_
  refine E.QG.code ?_
  refine E.CG.seq ?_
  refine E.CG.list ?_
  refine E.GL.run rfl rfl rfl (E.Runs.loads (cs := [.slice A ps.length c, .slice B qs.length d]) rfl rfl hu25 rfl info25s (blk_cells b1)) ?_
  by_cases h4 : big ps qs
  · refine E.GL.st rfl rfl rfl (E.ST.call rfl ent11 (E.evc rfl E.evn) ((huge_calls ps qs A B c d _ true (iff_of_true rfl h4)).mono ?_))
    rintro e w4 ⟨rfl, l4⟩
    refine ⟨_, rfl, ?_⟩
    replace b1 := blk_below b1 l4
    replace L := below_step L l4
    refine E.GL.run rfl rfl rfl (E.Runs.move rfl rfl) ?_
    refine E.GL.skip rfl rfl rfl ?_
    refine E.GL.skip rfl rfl rfl ?_
    refine E.GL.skip rfl rfl rfl ?_
    refine E.GL.skip rfl rfl rfl ?_
    refine E.GL.skip rfl rfl rfl ?_
    refine E.GL.skip rfl rfl rfl ?_
    refine E.GL.skip rfl rfl rfl ?_
    refine E.GL.skip rfl rfl rfl ?_
    refine E.GL.skip rfl rfl rfl ?_
    refine E.GL.skip rfl rfl rfl ?_
    refine E.GL.skip rfl rfl rfl ?_
    refine E.GL.skip rfl rfl rfl ?_
    refine E.GL.skip rfl rfl rfl ?_
    refine E.GL.skip rfl rfl rfl ?_
    refine E.GL.skip rfl rfl rfl ?_
    refine E.GL.skip rfl rfl rfl ?_
    refine E.GL.skip rfl rfl rfl ?_
    refine E.GL.skip rfl rfl rfl ?_
    refine E.GL.skip rfl rfl rfl ?_
    refine E.GL.skip rfl rfl rfl ?_
    refine E.GL.run rfl rfl rfl (E.Runs.pick_t rfl rfl rfl) ?_
    refine E.GL.run rfl rfl rfl (E.Runs.assign rfl rfl) ?_
    refine E.GL.done ?_
    refine E.QG.code ?_
    refine E.CG.ret ?_
    exact E.QG.result rfl rfl ⟨by rw [hb.mpr (.inl h4)], L⟩
  · refine E.GL.st rfl rfl rfl (E.ST.call rfl ent11 (E.evc rfl E.evn) ((huge_calls ps qs A B c d _ false (iff_of_false Bool.false_ne_true h4)).mono ?_))
    rintro e w4 ⟨rfl, l4⟩
    refine ⟨_, rfl, ?_⟩
    replace b1 := blk_below b1 l4
    replace L := below_step L l4
    refine E.GL.run rfl rfl rfl (E.Runs.move rfl rfl) ?_
    refine E.GL.run rfl rfl rfl (E.Runs.loads (cs := [.slice A ps.length c, .slice B qs.length d]) rfl rfl hu25 rfl info25s (blk_cells b1)) ?_
    refine E.GL.st rfl rfl rfl (E.ST.call rfl ent15 (E.evc rfl E.evn) ((check15 ps qs A B c d _ (Kd.C_below hP L) (Kd.C_below hQ L) (by have := not_big h4; omega) (by have := not_big h4; omega)).mono ?_))
    rintro e w7 ⟨rfl, l7⟩
    refine ⟨_, rfl, ?_⟩
    replace b1 := blk_below b1 l7
    replace L := below_step L l7
    refine E.GL.cmp rfl rfl rfl (fun _ h => (E.Runs.eql rfl rfl rfl h)) (fun h8 => ?_) (fun h8 => ?_)
    · have hH : HOk ps qs := checkE_ok.mp h8
      refine E.GL.run rfl rfl rfl (E.Runs.move rfl rfl) ?_
      refine E.GL.run rfl rfl rfl (E.Runs.fieldAddr rfl rfl hu25 rfl (by assumption) rfl) ?_
      refine E.GL.run rfl rfl rfl (E.Runs.load1 rfl rfl hu22 rfl (by first | assumption | exact E.blkc (by assumption) rfl | exact pw_cell_below L (by assumption))) ?_
      refine E.GL.run rfl rfl rfl (E.Runs.len rfl rfl hu22) ?_
      refine E.GL.cmp rfl rfl rfl (fun _ h => (E.Runs.gtr rfl rfl rfl h)) (fun h13 => ?_) (fun h13 => ?_)
      · refine E.GL.run rfl rfl rfl (E.Runs.move rfl rfl) ?_
        refine E.GL.skip rfl rfl rfl ?_
        refine E.GL.skip rfl rfl rfl ?_
        refine E.GL.skip rfl rfl rfl ?_
        refine E.GL.skip rfl rfl rfl ?_
        refine E.GL.run rfl rfl rfl (E.Runs.pick_t rfl rfl rfl) ?_
        refine E.GL.run rfl rfl rfl (E.Runs.move rfl rfl) ?_
        refine E.GL.skip rfl rfl rfl ?_
        refine E.GL.skip rfl rfl rfl ?_
        refine E.GL.skip rfl rfl rfl ?_
        refine E.GL.run rfl rfl rfl (E.Runs.pick_t rfl rfl rfl) ?_
        refine E.GL.run rfl rfl rfl (E.Runs.pick_t rfl rfl rfl) ?_
        refine E.GL.run rfl rfl rfl (E.Runs.pick_f rfl rfl rfl) ?_
        refine E.GL.run rfl rfl rfl (E.Runs.assign rfl rfl) ?_
        refine E.GL.done ?_
        refine E.QG.code ?_
        refine E.CG.ret ?_
        exact E.QG.result rfl rfl ⟨by rw [hb.mpr (.inr ⟨hH, .inl (by omega)⟩)], L⟩
      · refine E.GL.run rfl rfl rfl (E.Runs.move rfl rfl) ?_
        refine E.GL.run rfl rfl rfl (E.Runs.fieldAddr rfl rfl hu25 rfl (by assumption) rfl) ?_
        refine E.GL.run rfl rfl rfl (E.Runs.load1 rfl rfl hu23 rfl (by first | assumption | exact E.blkc (by assumption) rfl | exact pw_cell_below L (by assumption))) ?_
        refine E.GL.run rfl rfl rfl (E.Runs.len rfl rfl hu23) ?_
        refine E.GL.cmp rfl rfl rfl (fun _ h => (E.Runs.gtr rfl rfl rfl h)) (fun h18 => ?_) (fun h18 => ?_)
        · refine E.GL.run rfl rfl rfl (E.Runs.pick_f rfl rfl rfl) ?_
          refine E.GL.run rfl rfl rfl (E.Runs.move rfl rfl) ?_
          refine E.GL.skip rfl rfl rfl ?_
          refine E.GL.skip rfl rfl rfl ?_
          refine E.GL.skip rfl rfl rfl ?_
          refine E.GL.run rfl rfl rfl (E.Runs.pick_t rfl rfl rfl) ?_
          refine E.GL.run rfl rfl rfl (E.Runs.pick_t rfl rfl rfl) ?_
          refine E.GL.run rfl rfl rfl (E.Runs.pick_f rfl rfl rfl) ?_
          refine E.GL.run rfl rfl rfl (E.Runs.assign rfl rfl) ?_
          refine E.GL.done ?_
          refine E.QG.code ?_
          refine E.CG.ret ?_
          exact E.QG.result rfl rfl ⟨by rw [hb.mpr (.inr ⟨hH, .inr (.inl (by omega))⟩)], L⟩
        · refine E.GL.run rfl rfl rfl (E.Runs.pick_f rfl rfl rfl) ?_
          refine E.GL.run rfl rfl rfl (E.Runs.move rfl rfl) ?_
          refine E.GL.run rfl rfl rfl (E.Runs.loads (cs := [.slice A ps.length c, .slice B qs.length d]) rfl rfl hu25 rfl info25s (blk_cells b1)) ?_
          refine E.GL.st rfl rfl rfl (E.ST.call rfl ent29 (E.evc rfl E.evn) ((all_calls ps qs A B c d _ (Kd.C_below hP L) hH.p (by have := not_big h4; omega)).mono ?_))
          rintro e w22 ⟨rfl, l22⟩
          refine ⟨_, rfl, ?_⟩
          replace b1 := blk_below b1 l22
          replace L := below_step L l22
          refine E.GL.cmp rfl rfl rfl (fun _ h => (E.Runs.gtr rfl rfl rfl h)) (fun h23 => ?_) (fun h23 => ?_)
          · refine E.GL.run rfl rfl rfl (E.Runs.pick_f rfl rfl rfl) ?_
            refine E.GL.run rfl rfl rfl (E.Runs.pick_t rfl rfl rfl) ?_
            refine E.GL.run rfl rfl rfl (E.Runs.pick_f rfl rfl rfl) ?_
            refine E.GL.run rfl rfl rfl (E.Runs.assign rfl rfl) ?_
            refine E.GL.done ?_
            refine E.QG.code ?_
            refine E.CG.ret ?_
            exact E.QG.result rfl rfl ⟨by rw [hb.mpr (.inr ⟨hH, .inr (.inr (by omega))⟩)], L⟩
          · refine E.GL.run rfl rfl rfl (E.Runs.pick_f rfl rfl rfl) ?_
            refine E.GL.run rfl rfl rfl (E.Runs.pick_t rfl rfl rfl) ?_
            refine E.GL.run rfl rfl rfl (E.Runs.pick_f rfl rfl rfl) ?_
            refine E.GL.run rfl rfl rfl (E.Runs.assign rfl rfl) ?_
            refine E.GL.done ?_
            refine E.QG.code ?_
            refine E.CG.ret ?_
            exact E.QG.result rfl rfl ⟨by rw [bool_no hb (fun k => k.elim h4 (fun k => by have := k.2; omega))], L⟩
    · have hH : ¬ HOk ps qs := fun k => h8 (checkE_yes k)
      refine E.GL.run rfl rfl rfl (E.Runs.move rfl rfl) ?_
      refine E.GL.skip rfl rfl rfl ?_
      refine E.GL.skip rfl rfl rfl ?_
      refine E.GL.skip rfl rfl rfl ?_
      refine E.GL.skip rfl rfl rfl ?_
      refine E.GL.skip rfl rfl rfl ?_
      refine E.GL.skip rfl rfl rfl ?_
      refine E.GL.skip rfl rfl rfl ?_
      refine E.GL.skip rfl rfl rfl ?_
      refine E.GL.skip rfl rfl rfl ?_
      refine E.GL.skip rfl rfl rfl ?_
      refine E.GL.skip rfl rfl rfl ?_
      refine E.GL.skip rfl rfl rfl ?_
      refine E.GL.skip rfl rfl rfl ?_
      refine E.GL.skip rfl rfl rfl ?_
      refine E.GL.skip rfl rfl rfl ?_
      refine E.GL.run rfl rfl rfl (E.Runs.pick_f rfl rfl rfl) ?_
      refine E.GL.run rfl rfl rfl (E.Runs.pick_f rfl rfl rfl) ?_
      refine E.GL.run rfl rfl rfl (E.Runs.assign rfl rfl) ?_
      refine E.GL.done ?_
      refine E.QG.code ?_
      refine E.CG.ret ?_
      exact E.QG.result rfl rfl ⟨by rw [bool_no hb (fun k => k.elim h4 (fun k => hH k.1))], L⟩

end Go.Proofs.Ytmnjlnkfihklgaa.T
namespace Go.Proofs.Ytmnjlnkfihklgaa.T
open Go.RowKit Go.Proofs.YtmnjlnkfihklgaaW.PrintWords Go.Proofs.YtmnjlnkfihklgaaW.PrintMore
open Go.Proofs.Ytmnjlnkfihklgaa.P
set_option linter.unusedVariables false
set_option linter.unusedSimpArgs false

/-- A row of structs written out, in a block of ours. -/
theorem flat_get {α : Type} (enc : α → List Value) (sz : Nat) (hsz : ∀ x, (enc x).length = sz) : ∀ (l : List α) (j i : Nat) (p : α), l[j]? = some p → i < sz → (l.flatMap enc)[j * sz + i]? = (enc p)[i]?
  | [], j, i, p, h, _ => by simp at h
  | x :: l, 0, i, p, h, hi => by
    obtain rfl : x = p := by simpa using h
    rw [List.flatMap_cons, Nat.zero_mul, Nat.zero_add, List.getElem?_append_left (by rw [hsz]; exact hi)]
  | x :: l, j + 1, i, p, h, hi => by
    rw [List.flatMap_cons, List.getElem?_append_right (by rw [hsz, Nat.add_mul]; omega), hsz, show (j + 1) * sz + i - sz = j * sz + i by rw [Nat.add_mul]; omega]
    exact flat_get enc sz hsz l j i p (by simpa using h) hi
theorem C_flat {α : Type} (d : Kd α) (enc : α → List Value) (hsz : ∀ x, (enc x).length = d.sz) (hK : ∀ (w : World) x, d.K w x (enc x)) {w : World} {g e : Nat} (l : List α) (hl : l.length ≤ 1000000) (hb : w.heap[g]? = some (.cells (l.flatMap enc).toArray e (0, 0))) : Kd.C d w (some ⟨g, 0, none⟩) l.length l := by
  refine ⟨rfl, by omega, fun _ => ⟨_, rfl, ?_⟩⟩
  intro j p hj
  refine ⟨enc p, hsz p, hK w p, fun i u hu => ?_⟩
  have hi : i < d.sz := by rw [← hsz p]; exact (List.getElem?_eq_some_iff.1 hu).1
  rw [Addr.add_mid, Nat.zero_add, blk_cell hb]
  rw [List.getElem?_toArray, flat_get enc d.sz hsz l j i p hj hi]
  exact hu
def four45 (x : S45) : List Value := [.int .i64 x.f0, .int .i64 x.f1, .int .i64 x.f2, .int .i64 x.f3]
def three35 (x : S35) : List Value := [.int .i64 x.f0, .int .i64 x.f1, .int .i64 x.f2]
theorem C_45 {w : World} {g : Nat} (l : List S45) (hl : l.length ≤ 1000000) (hb : w.heap[g]? = some (.cells (l.flatMap four45).toArray 45 (0, 0))) : Kd.C k45 w (some ⟨g, 0, none⟩) l.length l := C_flat k45 four45 (fun _ => rfl) (fun w x => k45_mk w x) l hl hb
theorem C_35 {w : World} {g : Nat} (l : List S35) (hl : l.length ≤ 1000000) (hb : w.heap[g]? = some (.cells (l.flatMap three35).toArray 35 (0, 0))) : Kd.C k35 w (some ⟨g, 0, none⟩) l.length l := C_flat k35 three35 (fun _ => rfl) (fun w x => k35_mk w x) l hl hb
set_option maxRecDepth 100000 in
theorem lit22_2 (W : World) : (Instr.buildSlice 22 2 #[(0, .int .i64 5), (1, .int .i64 4)]).run Try.prog W = .ok (.slice (some ⟨W.heap.size, 0, none⟩) 2 2) (W.alloc (.cells #[.int .i64 5, .int .i64 4] 3 (0, 0))) := by
  have hu22 := Try.underlying22
  go_simp
set_option maxRecDepth 100000 in
theorem lit22_3 (W : World) : (Instr.buildSlice 22 3 #[(0, .int .i64 0), (1, .int .i64 1), (2, .int .i64 2)]).run Try.prog W = .ok (.slice (some ⟨W.heap.size, 0, none⟩) 3 3) (W.alloc (.cells #[.int .i64 0, .int .i64 1, .int .i64 2] 3 (0, 0))) := by
  have hu22 := Try.underlying22
  go_simp
set_option maxRecDepth 100000 in
theorem lit23_4 (W : World) : (Instr.buildSlice 23 4 #[(0, .agg #[.int .i64 0, .int .i64 1, .int .i64 2, .int .i64 1]), (1, .agg #[.int .i64 0, .int .i64 (-1), .int .i64 1, .int .i64 2]), (2, .agg #[.int .i64 1, .int .i64 (-1), .int .i64 3, .int .i64 1]), (3, .agg #[.int .i64 1, .int .i64 0, .int .i64 1, .int .i64 1])]).run Try.prog W = .ok (.slice (some ⟨W.heap.size, 0, none⟩) 4 4) (W.alloc (.cells (eQ.flatMap four45).toArray 45 (0, 0))) := by
  have hu23 := Try.underlying23
  go_simp
  rfl
set_option maxRecDepth 100000 in
theorem lit26_4 (W : World) : (Instr.buildSlice 26 4 #[(0, .agg #[.int .i64 0, .int .i64 0, .int .i64 2]), (1, .agg #[.int .i64 0, .int .i64 1, .int .i64 1]), (2, .agg #[.int .i64 0, .int .i64 2, .int .i64 3]), (3, .agg #[.int .i64 1, .int .i64 2, .int .i64 3])]).run Try.prog W = .ok (.slice (some ⟨W.heap.size, 0, none⟩) 4 4) (W.alloc (.cells (eL.flatMap three35).toArray 35 (0, 0))) := by
  have hu26 := Try.underlying26
  go_simp
  rfl
set_option maxRecDepth 100000 in
theorem build45 (a b c d : Int) (W : World) : (Instr.build 45 #[(0, .int .i64 a), (1, .int .i64 b), (2, .int .i64 c), (3, .int .i64 d)]).run Try.prog W = .ok (.agg #[.int .i64 a, .int .i64 b, .int .i64 c, .int .i64 d]) W := by
  have hu3 := Try.underlying3
  have hu45 := Try.underlying45
  go_simp
set_option maxRecDepth 100000 in
theorem build35a (c : Int) (W : World) : (Instr.build 35 #[(2, .int .i64 c)]).run Try.prog W = .ok (.agg #[.int .i64 0, .int .i64 0, .int .i64 c]) W := by
  have hu3 := Try.underlying3
  have hu35 := Try.underlying35
  go_simp
set_option maxRecDepth 100000 in
theorem build35b (b c : Int) (W : World) : (Instr.build 35 #[(1, .int .i64 b), (2, .int .i64 c)]).run Try.prog W = .ok (.agg #[.int .i64 0, .int .i64 b, .int .i64 c]) W := by
  have hu3 := Try.underlying3
  have hu35 := Try.underlying35
  go_simp
set_option maxRecDepth 100000 in
theorem build35c (a b c : Int) (W : World) : (Instr.build 35 #[(0, .int .i64 a), (1, .int .i64 b), (2, .int .i64 c)]).run Try.prog W = .ok (.agg #[.int .i64 a, .int .i64 b, .int .i64 c]) W := by
  have hu3 := Try.underlying3
  have hu35 := Try.underlying35
  go_simp
set_option maxRecDepth 100000 in
set_option maxHeartbeats 8000000 in

theorem example_calls (w : World) :
    Calls Try.prog 37 #[] w fun e w' => ∃ A B c d, e = .returned (hv eP eQ A B c d) ∧ Kd.C kI w' A eP.length eP ∧ Kd.C k45 w' B eQ.length eQ ∧ Below w.heap.size w w' := by
  have hu25 := Try.underlying25
  refine E.enter (N := 8) Try.func37 rfl Try.ntmps37 (args := []) (by simp) ?_
  have L := Below.refl w.heap.size w
  refine E.CG.seq ?_
  refine E.CG.list ?_
  refine E.GL.st rfl rfl rfl (E.ST.alloc rfl info25z fun g0 w0 e0 b0 l0 => ?_)
  have h0_L : w.heap.size ≤ g0 := by rw [e0]; exact L.size
  replace L := below_step L l0
  refine E.GL.done ?_
  refine E.QG.code ?_
  refine E.CG.seq ?_
  refine E.CG.list ?_
  refine E.GL.st rfl rfl rfl (E.ST.litB (cs := (([5, 4] : List Int).map (Value.int .i64)).toArray) rfl (E.epc rfl (E.epc rfl E.epn)) lit22_2 fun g1 w1 e1 b1 l1 => ?_)
  have h1_L : w.heap.size ≤ g1 := by rw [e1]; exact L.size
  have n1_b0 : g0 ≠ g1 := by have := blk_lt b0; omega
  replace b0 := blk_below b0 l1
  replace L := below_step L l1
  refine E.GL.run rfl rfl rfl (E.Runs.build rfl (E.epc rfl (E.epc rfl (E.epc rfl (E.epc rfl E.epn)))) (build45 _ _ _ _)) ?_
  refine E.GL.run rfl rfl rfl (E.Runs.build rfl (E.epc rfl (E.epc rfl (E.epc rfl (E.epc rfl E.epn)))) (build45 _ _ _ _)) ?_
  refine E.GL.run rfl rfl rfl (E.Runs.build rfl (E.epc rfl (E.epc rfl (E.epc rfl (E.epc rfl E.epn)))) (build45 _ _ _ _)) ?_
  refine E.GL.run rfl rfl rfl (E.Runs.build rfl (E.epc rfl (E.epc rfl (E.epc rfl (E.epc rfl E.epn)))) (build45 _ _ _ _)) ?_
  refine E.GL.st rfl rfl rfl (E.ST.litB (cs := (eQ.flatMap four45).toArray) rfl (E.epc rfl (E.epc rfl (E.epc rfl (E.epc rfl E.epn)))) lit23_4 fun g6 w6 e6 b6 l6 => ?_)
  have h6_L : w.heap.size ≤ g6 := by rw [e6]; exact L.size
  have n6_b0 : g0 ≠ g6 := by have := blk_lt b0; omega
  have n6_b1 : g1 ≠ g6 := by have := blk_lt b1; omega
  replace b0 := blk_below b0 l6
  replace b1 := blk_below b1 l6
  replace L := below_step L l6
  refine E.GL.run rfl rfl rfl (E.Runs.build rfl (E.epc rfl (E.epc rfl E.epn)) (build25 _ _ _ _ _ _)) ?_
  refine E.GL.store_whole rfl rfl rfl rfl rfl b0 rfl info25s (slices_one _ _ _ _ _ _) fun wS1_7 c0 lS1_7 => ?_
  replace b1 := blk_grown b1 lS1_7 (E.nes (by first | assumption | exact Ne.symm (by assumption)))
  replace b6 := blk_grown b6 lS1_7 (E.nes (by first | assumption | exact Ne.symm (by assumption)))
  replace L := E.below_own L h0_L lS1_7
  replace b0 := c0
  clear c0
  refine E.GL.done ?_
  refine E.QG.code ?_
  refine E.CG.ret ?_
  exact E.QG.result_c rfl rfl b0 hu25 rfl info25s ⟨_, _, _, _, rfl, C_nums [5, 4] b1 (by decide), C_45 eQ (by decide) b6, L⟩

set_option maxRecDepth 100000 in
set_option maxHeartbeats 8000000 in

theorem works_calls (w : World) :
    Calls Try.prog 12 #[] w fun e w' => e = .returned (.bool true) ∧ Below w.heap.size w w' := by
  have hu3 := Try.underlying3
  have hu22 := Try.underlying22
  have hu25 := Try.underlying25
  have hu26 := Try.underlying26
  refine E.enter (N := 67) Try.func12 rfl Try.ntmps12 (args := []) (by simp) ?_
  have L := Below.refl w.heap.size w
  refine E.CG.seq ?_
  refine E.CG.list ?_
  refine E.GL.run rfl rfl rfl (E.Runs.assign rfl rfl) ?_
  refine E.GL.done ?_
  refine E.QG.code ?_
  refine E.CG.seq ?_
  refine E.CG.list ?_
  refine E.GL.st rfl rfl rfl (E.ST.call rfl ent37 E.evn ((example_calls _).mono ?_))
  rintro e w10 ⟨A, B, c, d, rfl, hC, hD, l10⟩
  refine ⟨_, rfl, ?_⟩
  replace L := below_step L l10
  have lo := Below.refl w10.heap.size w10
  refine E.GL.st rfl rfl rfl (E.ST.alloc rfl info25z fun g1 w1 e1 b1 l1 => ?_)
  have h1_L : w.heap.size ≤ g1 := by rw [e1]; exact L.size
  have h1_lo : w10.heap.size ≤ g1 := by rw [e1]; exact lo.size
  replace L := below_step L l1
  replace lo := below_step lo l1
  refine E.GL.store_whole rfl rfl rfl rfl rfl b1 rfl info25s (slices_one _ _ _ _ _ _) fun wS1_2 c1 lS1_2 => ?_
  replace L := E.below_own L h1_L lS1_2
  replace lo := E.below_own lo h1_lo lS1_2
  replace b1 := c1
  clear c1
  refine E.GL.done ?_
  refine E.QG.code ?_
  refine E.CG.seq ?_
  refine E.CG.list ?_
  refine E.GL.run rfl rfl rfl (E.Runs.loads (cs := [.slice A 2 c, .slice B 4 d]) rfl rfl hu25 rfl info25s (blk_cells b1)) ?_
  refine E.GL.st rfl rfl rfl (E.ST.call rfl ent28 (E.evc rfl (E.evc rfl E.evn)) ((most_calls eP eQ A B c d _ (Kd.C_below hC lo) (Kd.C_below hD lo) (by decide) (by decide) 2).mono ?_))
  rintro e w13 ⟨N13, rfl, hN13, l13⟩
  refine ⟨_, rfl, ?_⟩
  replace b1 := blk_below b1 l13
  replace L := below_step L l13
  replace lo := below_step lo l13
  obtain rfl := eMostR hN13
  rw [eChk 2 (by decide)]
  refine E.GL.run rfl rfl rfl (E.Runs.move rfl rfl) ?_
  refine E.GL.run rfl rfl rfl (E.Runs.extract rfl rfl rfl) ?_
  refine E.GL.run rfl rfl rfl (E.Runs.extract rfl rfl rfl) ?_
  refine E.GL.run rfl rfl rfl (E.Runs.assign rfl rfl) ?_
  refine E.GL.run rfl rfl rfl (E.Runs.assign rfl rfl) ?_
  refine E.GL.done ?_
  refine E.QG.code ?_
  refine E.CG.seq ?_
  refine E.CG.list ?_
  refine E.GL.run rfl rfl rfl (E.Runs.loads (cs := [.slice A 2 c, .slice B 4 d]) rfl rfl hu25 rfl info25s (blk_cells b1)) ?_
  refine E.GL.st rfl rfl rfl (E.ST.call rfl ent21 (E.evc rfl E.evn) ((empty_calls eP eQ A B c d _ (Kd.C_below hC lo) (Kd.C_below hD lo) (by decide) (by decide)).mono ?_))
  rintro e w18 ⟨N18, E18, rfl, hE18, l18⟩
  refine ⟨_, rfl, ?_⟩
  replace b1 := blk_below b1 l18
  replace L := below_step L l18
  replace lo := below_step lo l18
  obtain ⟨rfl, rfl⟩ := eEmptyR hE18
  refine E.GL.run rfl rfl rfl (E.Runs.move rfl rfl) ?_
  refine E.GL.run rfl rfl rfl (E.Runs.extract rfl rfl rfl) ?_
  refine E.GL.run rfl rfl rfl (E.Runs.extract rfl rfl rfl) ?_
  refine E.GL.run rfl rfl rfl (E.Runs.assign rfl rfl) ?_
  refine E.GL.run rfl rfl rfl (E.Runs.assign rfl rfl) ?_
  refine E.GL.done ?_
  refine E.QG.code ?_
  refine E.CG.seq ?_
  refine E.CG.list ?_
  refine E.GL.run rfl rfl rfl (E.Runs.loads (cs := [.slice A 2 c, .slice B 4 d]) rfl rfl hu25 rfl info25s (blk_cells b1)) ?_
  refine E.GL.st rfl rfl rfl (E.ST.call rfl ent25 (E.evc rfl (E.evc rfl E.evn)) ((needed_calls eP eQ A B c d _ (Kd.C_below hC lo) (Kd.C_below hD lo) (by decide) (by decide) 3).mono ?_))
  rintro e w23 ⟨v23, l23, rfl, R23, hL23, l23⟩
  refine ⟨_, rfl, ?_⟩
  replace b1 := blk_below b1 l23
  replace L := below_step L l23
  replace lo := below_step lo l23
  have lx := Below.refl w23.heap.size w23
  obtain rfl := eNeedR hL23
  rw [eChk 3 (by decide)]
  obtain ⟨A23, c23, hv23⟩ := Kd.R_slice R23
  subst hv23
  obtain ⟨_, _, C23⟩ := Kd.R_reads' R23
  refine E.GL.run rfl rfl rfl (E.Runs.move rfl rfl) ?_
  refine E.GL.run rfl rfl rfl (E.Runs.extract rfl rfl rfl) ?_
  refine E.GL.run rfl rfl rfl (E.Runs.extract rfl rfl rfl) ?_
  refine E.GL.run rfl rfl rfl (E.Runs.assign rfl rfl) ?_
  refine E.GL.run rfl rfl rfl (E.Runs.assign rfl rfl) ?_
  refine E.GL.done ?_
  refine E.QG.code ?_
  refine E.CG.seq ?_
  refine E.CG.list ?_
  refine E.GL.run rfl rfl rfl (E.Runs.loads (cs := [.slice A 2 c, .slice B 4 d]) rfl rfl hu25 rfl info25s (blk_cells b1)) ?_
  refine E.GL.run rfl rfl rfl (E.Runs.build rfl (E.epc rfl E.epn) (build35a _)) ?_
  refine E.GL.run rfl rfl rfl (E.Runs.build rfl (E.epc rfl (E.epc rfl E.epn)) (build35b _ _)) ?_
  refine E.GL.run rfl rfl rfl (E.Runs.build rfl (E.epc rfl (E.epc rfl E.epn)) (build35b _ _)) ?_
  refine E.GL.run rfl rfl rfl (E.Runs.build rfl (E.epc rfl (E.epc rfl (E.epc rfl E.epn))) (build35c _ _ _)) ?_
  refine E.GL.st rfl rfl rfl (E.ST.litB (cs := (eL.flatMap three35).toArray) rfl (E.epc rfl (E.epc rfl (E.epc rfl (E.epc rfl E.epn)))) lit26_4 fun g32 w32 e32 b32 l32 => ?_)
  have h32_L : w.heap.size ≤ g32 := by rw [e32]; exact L.size
  have h32_lo : w10.heap.size ≤ g32 := by rw [e32]; exact lo.size
  have h32_lx : w23.heap.size ≤ g32 := by rw [e32]; exact lx.size
  have n32_b1 : g1 ≠ g32 := by have := blk_lt b1; omega
  replace b1 := blk_below b1 l32
  replace L := below_step L l32
  replace lo := below_step lo l32
  replace lx := below_step lx l32
  refine E.GL.st rfl rfl rfl (E.ST.call rfl ent16 (E.evc rfl (E.evc rfl (E.evc rfl E.evn))) ((goneP_calls eP eQ A B _ c d 4 2 eL _ (Kd.C_below hC lo) (Kd.C_below hD lo) (C_35 eL (by decide) b32) (by decide) (by decide) (by decide)).mono ?_))
  rintro e w33 ⟨N33, E33, rfl, hG33, l33⟩
  refine ⟨_, rfl, ?_⟩
  replace b1 := blk_below b1 l33
  replace b32 := blk_below b32 l33
  replace L := below_step L l33
  replace lo := below_step lo l33
  replace lx := below_step lx l33
  obtain ⟨rfl, rfl⟩ := eGoneR hG33
  refine E.GL.run rfl rfl rfl (E.Runs.move rfl rfl) ?_
  refine E.GL.run rfl rfl rfl (E.Runs.extract rfl rfl rfl) ?_
  refine E.GL.run rfl rfl rfl (E.Runs.extract rfl rfl rfl) ?_
  refine E.GL.run rfl rfl rfl (E.Runs.assign rfl rfl) ?_
  refine E.GL.run rfl rfl rfl (E.Runs.assign rfl rfl) ?_
  refine E.GL.done ?_
  refine E.QG.code ?_
  refine E.CG.seq ?_
  refine E.CG.list ?_
  refine E.GL.run rfl rfl rfl (E.Runs.move rfl rfl) ?_
  refine E.GL.run rfl rfl rfl (E.Runs.eql rfl rfl rfl (decide_eq_true rfl)) ?_
  refine E.GL.run rfl rfl rfl (E.Runs.move rfl rfl) ?_
  refine E.GL.run rfl rfl rfl (E.Runs.move rfl rfl) ?_
  refine E.GL.run rfl rfl rfl (E.Runs.eql rfl rfl rfl (decide_eq_true rfl)) ?_
  refine E.GL.run rfl rfl rfl (E.Runs.pick_t rfl rfl rfl) ?_
  refine E.GL.run rfl rfl rfl (E.Runs.move rfl rfl) ?_
  refine E.GL.run rfl rfl rfl (E.Runs.move rfl rfl) ?_
  refine E.GL.run rfl rfl rfl (E.Runs.eql rfl rfl rfl (decide_eq_true rfl)) ?_
  refine E.GL.run rfl rfl rfl (E.Runs.pick_t rfl rfl rfl) ?_
  refine E.GL.run rfl rfl rfl (E.Runs.move rfl rfl) ?_
  refine E.GL.run rfl rfl rfl (E.Runs.move rfl rfl) ?_
  refine E.GL.run rfl rfl rfl (E.Runs.eql rfl rfl rfl (decide_eq_true rfl)) ?_
  refine E.GL.run rfl rfl rfl (E.Runs.pick_t rfl rfl rfl) ?_
  refine E.GL.run rfl rfl rfl (E.Runs.move rfl rfl) ?_
  refine E.GL.run rfl rfl rfl (E.Runs.move rfl rfl) ?_
  refine E.GL.run rfl rfl rfl (E.Runs.eql rfl rfl rfl (decide_eq_true rfl)) ?_
  refine E.GL.run rfl rfl rfl (E.Runs.pick_t rfl rfl rfl) ?_
  refine E.GL.run rfl rfl rfl (E.Runs.move rfl rfl) ?_
  refine E.GL.run rfl rfl rfl (E.Runs.move rfl rfl) ?_
  refine E.GL.run rfl rfl rfl (E.Runs.eql rfl rfl rfl (decide_eq_true rfl)) ?_
  refine E.GL.run rfl rfl rfl (E.Runs.pick_t rfl rfl rfl) ?_
  refine E.GL.run rfl rfl rfl (E.Runs.move rfl rfl) ?_
  refine E.GL.run rfl rfl rfl (E.Runs.move rfl rfl) ?_
  refine E.GL.st rfl rfl rfl (E.ST.litB (cs := (([0, 1, 2] : List Int).map (Value.int .i64)).toArray) rfl (E.epc rfl (E.epc rfl (E.epc rfl E.epn))) lit22_3 fun g60 w60 e60 b60 l60 => ?_)
  have h60_L : w.heap.size ≤ g60 := by rw [e60]; exact L.size
  have h60_lo : w10.heap.size ≤ g60 := by rw [e60]; exact lo.size
  have h60_lx : w23.heap.size ≤ g60 := by rw [e60]; exact lx.size
  have n60_b1 : g1 ≠ g60 := by have := blk_lt b1; omega
  have n60_b32 : g32 ≠ g60 := by have := blk_lt b32; omega
  replace b1 := blk_below b1 l60
  replace b32 := blk_below b32 l60
  replace L := below_step L l60
  replace lo := below_step lo l60
  replace lx := below_step lx l60
  refine E.GL.st rfl rfl rfl (E.ST.call rfl ent18 (E.evc rfl (E.evc rfl E.evn)) ((same_calls [0, 1, 2] [0, 1, 2] A23 _ c23 3 _ true (by simp) (Kd.C_below C23 lx) (C_nums [0, 1, 2] b60 (by decide)) (by decide)).mono ?_))
  rintro e w61 ⟨rfl, l61⟩
  refine ⟨_, rfl, ?_⟩
  replace b1 := blk_below b1 l61
  replace b32 := blk_below b32 l61
  replace b60 := blk_below b60 l61
  replace L := below_step L l61
  replace lo := below_step lo l61
  replace lx := below_step lx l61
  refine E.GL.run rfl rfl rfl (E.Runs.pick_t rfl rfl rfl) ?_
  refine E.GL.run rfl rfl rfl (E.Runs.move rfl rfl) ?_
  refine E.GL.run rfl rfl rfl (E.Runs.move rfl rfl) ?_
  refine E.GL.run rfl rfl rfl (E.Runs.eql rfl rfl rfl (decide_eq_true rfl)) ?_
  refine E.GL.run rfl rfl rfl (E.Runs.pick_t rfl rfl rfl) ?_
  refine E.GL.run rfl rfl rfl (E.Runs.assign rfl rfl) ?_
  refine E.GL.done ?_
  refine E.QG.code ?_
  refine E.CG.ret ?_
  exact E.QG.result rfl rfl ⟨rfl, L⟩

end Go.Proofs.Ytmnjlnkfihklgaa.T
namespace Go.Proofs.Ytmnjlnkfihklgaa.T
open Go.RowKit Go.Proofs.YtmnjlnkfihklgaaW.PrintWords Go.Proofs.YtmnjlnkfihklgaaW.PrintMore
open Go.Proofs.Ytmnjlnkfihklgaa.P
set_option linter.unusedVariables false
set_option linter.unusedSimpArgs false

theorem emptyR_one {ps : List Int} {qs : List S45} {N E M D : Int} (a : EmptyR ps qs N E) (b : EmptyR ps qs M D) : N = M ∧ E = D := by
  by_cases h : HOk ps qs
  · rcases a.2 h with ⟨t, a1, a2, a3, a4, a5⟩ | ⟨a1, a2, a3⟩
    · rcases b.2 h with ⟨s, b1, b2, b3, b4, b5⟩ | ⟨b1, b2, b3⟩
      · rcases Nat.lt_trichotomy t s with q | q | q
        · exact absurd a4 (b5 t q)
        · subst q; exact ⟨a2.trans b2.symm, a3.trans b3.symm⟩
        · exact absurd b4 (a5 s q)
      · exact absurd a4 (b3 t a1)
    · rcases b.2 h with ⟨s, b1, b2, b3, b4, b5⟩ | ⟨b1, b2, b3⟩
      · exact absurd b4 (a3 s b1)
      · exact ⟨a1.trans b1.symm, a2.trans b2.symm⟩
  · exact ⟨(a.1 h).1.trans (b.1 h).1.symm, (a.1 h).2.trans (b.1 h).2.symm⟩
theorem shutR_one {ps ps1 ps2 : List Int} {qs qs1 qs2 : List S45} {m E D : Int} (a : ShutR ps qs m ps1 qs1 E) (b : ShutR ps qs m ps2 qs2 D) : ps1 = ps2 ∧ qs1 = qs2 ∧ E = D := by
  by_cases h : HOk ps qs
  · by_cases k : inR m 0 (qs.length - 1)
    · obtain ⟨a1, a2, a3⟩ := a.2.2 h k
      obtain ⟨b1, b2, b3⟩ := b.2.2 h k
      exact ⟨a1.trans b1.symm, a2.trans b2.symm, a3.trans b3.symm⟩
    · obtain ⟨a1, a2, a3⟩ := a.2.1 h k
      obtain ⟨b1, b2, b3⟩ := b.2.1 h k
      exact ⟨a1.trans b1.symm, a2.trans b2.symm, a3.trans b3.symm⟩
  · obtain ⟨a1, a2, a3⟩ := a.1 h
    obtain ⟨b1, b2, b3⟩ := b.1 h
    exact ⟨a1.trans b1.symm, a2.trans b2.symm, a3.trans b3.symm⟩
theorem needR_one {ps : List Int} {qs : List S45} {m : Int} {l k : List Int} (a : NeedR ps qs m l) (b : NeedR ps qs m k) : l = k := by
  by_cases h : chkE ps qs m = 0
  · exact (a.1 h).trans (b.1 h).symm
  · exact (a.2 h).trans (b.2 h).symm
theorem shutR_few {ps ps1 : List Int} {qs qs1 : List S45} {m E : Int} (a : ShutR ps qs m ps1 qs1 E) (hp : ps.length ≤ 40) (hq : qs.length ≤ 40) : ps1.length ≤ 40 ∧ qs1.length ≤ 40 := by
  by_cases h : HOk ps qs
  · by_cases k : inR m 0 (qs.length - 1)
    · obtain ⟨rfl, rfl, _⟩ := a.2.2 h k
      rw [List.length_set]
      exact ⟨hp, hq⟩
    · obtain ⟨rfl, rfl, _⟩ := a.2.1 h k
      simp
  · obtain ⟨rfl, rfl, _⟩ := a.1 h
    simp
theorem needR_few {ps : List Int} {qs : List S45} {m : Int} {l : List Int} (a : NeedR ps qs m l) (hq : qs.length ≤ 40) : l.length ≤ 40 := by
  by_cases h : chkE ps qs m = 0
  · rw [a.1 h]
    exact Nat.le_trans (needL_len _ _ _ _) hq
  · rw [a.2 h]
    simp
set_option maxRecDepth 100000 in
theorem equal45 (a b c d : Int) (W : World) : (Op.equal 45 (.agg #[.int .i64 a, .int .i64 b, .int .i64 c, .int .i64 d]) (.agg #[.int .i64 a, .int .i64 b, .int .i64 c, .int .i64 d])).run Try.prog W = .ok true W := by
  have hu3 := Try.underlying3
  have hu45 := Try.underlying45
  have h45 := Try.stoodInHeld45
  unfold Op.equal Op.maxDepth
  go_simp
set_option maxRecDepth 100000 in
set_option maxHeartbeats 8000000 in

theorem empty_law (ps : List Int) (qs : List S45) (A B : Option Addr) (c d : Nat) (w : World) (hP : Kd.C kI w A ps.length ps) (hQ : Kd.C k45 w B qs.length qs) (m1 m2 : Int) :
    Calls Try.prog 4 #[hv ps qs A B c d, .int .i64 m1, .int .i64 m2] w fun e w' => e = .returned (.bool true) ∧ Below w.heap.size w w' := by
  have hu3 := Try.underlying3
  have hu22 := Try.underlying22
  have hu23 := Try.underlying23
  have hu25 := Try.underlying25
  have hu45 := Try.underlying45
  obtain ⟨z3, o3⟩ := info_some info3s (by decide)
  obtain ⟨z22, o22⟩ := info_some info22s (by decide)
  obtain ⟨z23, o23⟩ := info_some info23s (by decide)
  obtain ⟨z25, o25⟩ := info_some info25s (by decide)
  obtain ⟨z45, o45⟩ := info_some info45s (by decide)
  refine E.enter (N := 124) Try.func4 rfl Try.ntmps4 (args := [hv ps qs A B c d, .int .i64 m1, .int .i64 m2]) (by simp) ?_
  have L := Below.refl w.heap.size w
  refine E.CG.seq ?_
  refine E.CG.list ?_
  refine E.GL.st rfl rfl rfl (E.ST.box rfl rfl fun g3 w3 e3 b3 l3 => ?_)
  have h3_L : w.heap.size ≤ g3 := by rw [e3]; exact L.size
  replace L := below_step L l3
  refine E.GL.run rfl rfl rfl (E.Runs.assign rfl rfl) ?_
  refine E.GL.done ?_
  refine E.QG.code ?_
  refine E.CG.seq ?_
  refine E.CG.seq ?_
  refine E.CG.list ?_
  refine E.GL.run rfl rfl rfl (E.Runs.loads (cs := [.slice A ps.length c, .slice B qs.length d]) rfl rfl hu25 rfl info25s (blk_cells b3)) ?_
  by_cases h22 : farH ps qs
  · refine E.GL.st rfl rfl rfl (E.ST.call rfl ent19 (E.evc rfl E.evn) ((far_calls ps qs A B c d _ true (Kd.C_below hP L) (Kd.C_below hQ L) (iff_of_true rfl h22)).mono ?_))
    rintro e w22 ⟨rfl, l22⟩
    refine ⟨_, rfl, ?_⟩
    replace b3 := blk_below b3 l22
    replace L := below_step L l22
    refine E.GL.run rfl rfl rfl (E.Runs.move rfl rfl) ?_
    refine E.GL.skip rfl rfl rfl ?_
    refine E.GL.skip rfl rfl rfl ?_
    refine E.GL.run rfl rfl rfl (E.Runs.pick_t rfl rfl rfl) ?_
    refine E.GL.done ?_
    refine E.QG.code ?_
    refine E.CG.cond_t rfl ?_
    refine E.CG.seq ?_
    refine E.CG.list ?_
    refine E.GL.st rfl rfl rfl (E.ST.call rfl ent12 E.evn ((works_calls _).mono ?_))
    rintro e w27 ⟨rfl, l27⟩
    refine ⟨_, rfl, ?_⟩
    replace b3 := blk_below b3 l27
    replace L := below_step L l27
    refine E.GL.run rfl rfl rfl (E.Runs.assign rfl rfl) ?_
    refine E.GL.done ?_
    refine E.QG.code ?_
    refine E.CG.ret ?_
    refine E.QG.pass_ret ?_
    exact E.QG.result rfl rfl ⟨rfl, L⟩
  · refine E.GL.st rfl rfl rfl (E.ST.call rfl ent19 (E.evc rfl E.evn) ((far_calls ps qs A B c d _ false (Kd.C_below hP L) (Kd.C_below hQ L) (iff_of_false Bool.false_ne_true h22)).mono ?_))
    rintro e w22 ⟨rfl, l22⟩
    refine ⟨_, rfl, ?_⟩
    replace b3 := blk_below b3 l22
    replace L := below_step L l22
    refine E.GL.run rfl rfl rfl (E.Runs.move rfl rfl) ?_
    refine E.GL.run rfl rfl rfl (E.Runs.move rfl rfl) ?_
    by_cases h25 : late m2
    · refine E.GL.st rfl rfl rfl (E.ST.call rfl ent20 (E.evc rfl E.evn) ((late_calls m2 _ true (iff_of_true rfl h25)).mono ?_))
      rintro e w25 ⟨rfl, l25⟩
      refine ⟨_, rfl, ?_⟩
      replace b3 := blk_below b3 l25
      replace L := below_step L l25
      refine E.GL.run rfl rfl rfl (E.Runs.pick_f rfl rfl rfl) ?_
      refine E.GL.done ?_
      refine E.QG.code ?_
      refine E.CG.cond_t rfl ?_
      refine E.CG.seq ?_
      refine E.CG.list ?_
      refine E.GL.st rfl rfl rfl (E.ST.call rfl ent12 E.evn ((works_calls _).mono ?_))
      rintro e w27 ⟨rfl, l27⟩
      refine ⟨_, rfl, ?_⟩
      replace b3 := blk_below b3 l27
      replace L := below_step L l27
      refine E.GL.run rfl rfl rfl (E.Runs.assign rfl rfl) ?_
      refine E.GL.done ?_
      refine E.QG.code ?_
      refine E.CG.ret ?_
      refine E.QG.pass_ret ?_
      exact E.QG.result rfl rfl ⟨rfl, L⟩
    · obtain ⟨hb1, hb2⟩ := not_far h22
      refine E.GL.st rfl rfl rfl (E.ST.call rfl ent20 (E.evc rfl E.evn) ((late_calls m2 _ false (iff_of_false Bool.false_ne_true h25)).mono ?_))
      rintro e w25 ⟨rfl, l25⟩
      refine ⟨_, rfl, ?_⟩
      replace b3 := blk_below b3 l25
      replace L := below_step L l25
      refine E.GL.run rfl rfl rfl (E.Runs.pick_f rfl rfl rfl) ?_
      refine E.GL.done ?_
      refine E.QG.code ?_
      refine E.CG.cond_f rfl ?_
      refine E.CG.skip ?_
      refine E.QG.code ?_
      refine E.CG.seq ?_
      refine E.CG.list ?_
      refine E.GL.run rfl rfl rfl (E.Runs.loads (cs := [.slice A ps.length c, .slice B qs.length d]) rfl rfl hu25 rfl info25s (blk_cells b3)) ?_
      have hs29 := L.size
      refine E.GL.st rfl rfl rfl (E.ST.call rfl ent13 (E.evc rfl E.evn) ((copy_calls ps qs A B c d _ (Kd.C_below hP L) (Kd.C_below hQ L) (by omega) (by omega)).mono ?_))
      rintro e w29 ⟨A3, B3, c3, d3, rfl, RP, RQ, l29⟩
      refine ⟨_, rfl, ?_⟩
      replace b3 := blk_below b3 l29
      replace L := below_step L l29
      replace RP := Kd.R_lower RP hs29
      replace RQ := Kd.R_lower RQ hs29
      refine E.GL.st rfl rfl rfl (E.ST.alloc rfl info25z fun g7 w7 e7 b7 l7 => ?_)
      have h7_L : w.heap.size ≤ g7 := by rw [e7]; exact L.size
      have n7_b3 : g3 ≠ g7 := by have := blk_lt b3; omega
      have n7_RP : some g7 ≠ ((Value.slice A3 ps.length c3)).ownBlock := fun h => by have := Kd.R_lt RP _ h.symm; omega
      have n7_RQ : some g7 ≠ ((Value.slice B3 qs.length d3)).ownBlock := fun h => by have := Kd.R_lt RQ _ h.symm; omega
      replace b3 := blk_below b3 l7
      replace RP := Kd.R_below RP l7
      replace RQ := Kd.R_below RQ l7
      replace L := below_step L l7
      refine E.GL.store_whole rfl rfl rfl rfl rfl b7 rfl info25s (slices_one _ _ _ _ _ _) fun wS3_3 c7 lS3_3 => ?_
      replace b3 := blk_grown b3 lS3_3 (E.nes (by first | assumption | exact Ne.symm (by assumption)))
      replace RP := Kd.R_grown1 RP rfl lS3_3 (by first | assumption | exact Kd.R_ne RP b7 (by decide))
      replace RQ := Kd.R_grown1 RQ rfl lS3_3 (by first | assumption | exact Kd.R_ne RQ b7 (by decide))
      replace L := E.below_own L h7_L lS3_3
      replace b7 := c7
      clear c7
      refine E.GL.done ?_
      refine E.QG.code ?_
      refine E.CG.seq ?_
      refine E.CG.list ?_
      refine E.GL.run rfl rfl rfl (E.Runs.loads (cs := [.slice A3 ps.length c3, .slice B3 qs.length d3]) rfl rfl hu25 rfl info25s (blk_cells b7)) ?_
      refine E.GL.st rfl rfl rfl (E.ST.call rfl ent21 (E.evc rfl E.evn) ((empty_calls ps qs A3 B3 c3 d3 _ (Kd.R_reads' RP).2.2 (Kd.R_reads' RQ).2.2 (by omega) (by omega)).mono ?_))
      rintro e w32 ⟨N32, E32, rfl, hE32, l32⟩
      refine ⟨_, rfl, ?_⟩
      replace b3 := blk_below b3 l32
      replace b7 := blk_below b7 l32
      replace RP := Kd.R_below RP l32
      replace RQ := Kd.R_below RQ l32
      replace L := below_step L l32
      refine E.GL.run rfl rfl rfl (E.Runs.move rfl rfl) ?_
      refine E.GL.run rfl rfl rfl (E.Runs.extract rfl rfl rfl) ?_
      refine E.GL.run rfl rfl rfl (E.Runs.extract rfl rfl rfl) ?_
      refine E.GL.run rfl rfl rfl (E.Runs.assign rfl rfl) ?_
      refine E.GL.run rfl rfl rfl (E.Runs.assign rfl rfl) ?_
      refine E.GL.done ?_
      refine E.QG.code ?_
      refine E.CG.seq ?_
      refine E.CG.list ?_
      refine E.GL.run rfl rfl rfl (E.Runs.loads (cs := [.slice A ps.length c, .slice B qs.length d]) rfl rfl hu25 rfl info25s (blk_cells b3)) ?_
      refine E.GL.st rfl rfl rfl (E.ST.call rfl ent22 (E.evc rfl E.evn) ((emptyF_calls ps qs A B c d _ (Kd.C_below hP L) (Kd.C_below hQ L) (by omega) (by omega)).mono ?_))
      rintro e w37 ⟨N37, E37, rfl, hE37, l37⟩
      refine ⟨_, rfl, ?_⟩
      replace b3 := blk_below b3 l37
      replace b7 := blk_below b7 l37
      replace RP := Kd.R_below RP l37
      replace RQ := Kd.R_below RQ l37
      replace L := below_step L l37
      obtain ⟨hN, hE⟩ := emptyR_one hE32 hE37
      refine E.GL.run rfl rfl rfl (E.Runs.move rfl rfl) ?_
      refine E.GL.run rfl rfl rfl (E.Runs.extract rfl rfl rfl) ?_
      refine E.GL.run rfl rfl rfl (E.Runs.extract rfl rfl rfl) ?_
      refine E.GL.run rfl rfl rfl (E.Runs.assign rfl rfl) ?_
      refine E.GL.run rfl rfl rfl (E.Runs.assign rfl rfl) ?_
      refine E.GL.done ?_
      refine E.QG.code ?_
      refine E.CG.seq ?_
      refine E.CG.list ?_
      refine E.GL.run rfl rfl rfl (E.Runs.loads (cs := [.slice A3 ps.length c3, .slice B3 qs.length d3]) rfl rfl hu25 rfl info25s (blk_cells b7)) ?_
      refine E.GL.run rfl rfl rfl (E.Runs.move rfl rfl) ?_
      have hs43 := L.size
      refine E.GL.st rfl rfl rfl (E.ST.call rfl ent23 (E.evc rfl (E.evc rfl E.evn)) ((shut_calls ps qs A3 B3 c3 d3 _ (Kd.R_reads' RP).2.2 (Kd.R_reads' RQ).2.2 (by omega) (by omega) m1).mono ?_))
      rintro e w43 ⟨ps1, qs1, A4, B4, c4, d4, E43, rfl, R1P, R1Q, hS43, l43⟩
      refine ⟨_, rfl, ?_⟩
      replace b3 := blk_below b3 l43
      replace b7 := blk_below b7 l43
      replace RP := Kd.R_below RP l43
      replace RQ := Kd.R_below RQ l43
      replace L := below_step L l43
      replace R1P := Kd.R_lower R1P hs43
      replace R1Q := Kd.R_lower R1Q hs43
      obtain ⟨hf1, hf2⟩ := shutR_few hS43 hb1 hb2
      refine E.GL.run rfl rfl rfl (E.Runs.move rfl rfl) ?_
      refine E.GL.run rfl rfl rfl (E.Runs.extract rfl rfl rfl) ?_
      refine E.GL.run rfl rfl rfl (E.Runs.extract rfl rfl rfl) ?_
      refine E.GL.st rfl rfl rfl (E.ST.alloc rfl info25z fun g12 w12 e12 b12 l12 => ?_)
      have h12_L : w.heap.size ≤ g12 := by rw [e12]; exact L.size
      have n12_b3 : g3 ≠ g12 := by have := blk_lt b3; omega
      have n12_b7 : g7 ≠ g12 := by have := blk_lt b7; omega
      have n12_RP : some g12 ≠ ((Value.slice A3 ps.length c3)).ownBlock := fun h => by have := Kd.R_lt RP _ h.symm; omega
      have n12_RQ : some g12 ≠ ((Value.slice B3 qs.length d3)).ownBlock := fun h => by have := Kd.R_lt RQ _ h.symm; omega
      have n12_R1P : some g12 ≠ ((Value.slice A4 ps1.length c4)).ownBlock := fun h => by have := Kd.R_lt R1P _ h.symm; omega
      have n12_R1Q : some g12 ≠ ((Value.slice B4 qs1.length d4)).ownBlock := fun h => by have := Kd.R_lt R1Q _ h.symm; omega
      replace b3 := blk_below b3 l12
      replace b7 := blk_below b7 l12
      replace RP := Kd.R_below RP l12
      replace RQ := Kd.R_below RQ l12
      replace R1P := Kd.R_below R1P l12
      replace R1Q := Kd.R_below R1Q l12
      replace L := below_step L l12
      refine E.GL.store_whole rfl rfl rfl rfl rfl b12 rfl info25s (slices_one _ _ _ _ _ _) fun wS6_7 c12 lS6_7 => ?_
      replace b3 := blk_grown b3 lS6_7 (E.nes (by first | assumption | exact Ne.symm (by assumption)))
      replace b7 := blk_grown b7 lS6_7 (E.nes (by first | assumption | exact Ne.symm (by assumption)))
      replace RP := Kd.R_grown1 RP rfl lS6_7 (by first | assumption | exact Kd.R_ne RP b12 (by decide))
      replace RQ := Kd.R_grown1 RQ rfl lS6_7 (by first | assumption | exact Kd.R_ne RQ b12 (by decide))
      replace R1P := Kd.R_grown1 R1P rfl lS6_7 (by first | assumption | exact Kd.R_ne R1P b12 (by decide))
      replace R1Q := Kd.R_grown1 R1Q rfl lS6_7 (by first | assumption | exact Kd.R_ne R1Q b12 (by decide))
      replace L := E.below_own L h12_L lS6_7
      replace b12 := c12
      clear c12
      refine E.GL.run rfl rfl rfl (E.Runs.assign rfl rfl) ?_
      refine E.GL.done ?_
      refine E.QG.code ?_
      refine E.CG.seq ?_
      refine E.CG.list ?_
      refine E.GL.run rfl rfl rfl (E.Runs.loads (cs := [.slice A ps.length c, .slice B qs.length d]) rfl rfl hu25 rfl info25s (blk_cells b3)) ?_
      refine E.GL.run rfl rfl rfl (E.Runs.move rfl rfl) ?_
      have hs49 := L.size
      refine E.GL.st rfl rfl rfl (E.ST.call rfl ent24 (E.evc rfl (E.evc rfl E.evn)) ((shutF_calls ps qs A B c d _ (Kd.C_below hP L) (Kd.C_below hQ L) (by omega) (by omega) m1).mono ?_))
      rintro e w49 ⟨ps2, qs2, A5, B5, c5, d5, E49, rfl, R2P, R2Q, hS49, l49⟩
      refine ⟨_, rfl, ?_⟩
      replace b3 := blk_below b3 l49
      replace b7 := blk_below b7 l49
      replace b12 := blk_below b12 l49
      replace RP := Kd.R_below RP l49
      replace RQ := Kd.R_below RQ l49
      replace R1P := Kd.R_below R1P l49
      replace R1Q := Kd.R_below R1Q l49
      replace L := below_step L l49
      replace R2P := Kd.R_lower R2P hs49
      replace R2Q := Kd.R_lower R2Q hs49
      obtain ⟨eP2, eQ2, hES⟩ := shutR_one hS43 hS49
      subst eP2 eQ2
      refine E.GL.run rfl rfl rfl (E.Runs.move rfl rfl) ?_
      refine E.GL.run rfl rfl rfl (E.Runs.extract rfl rfl rfl) ?_
      refine E.GL.run rfl rfl rfl (E.Runs.extract rfl rfl rfl) ?_
      refine E.GL.st rfl rfl rfl (E.ST.alloc rfl info25z fun g14 w14 e14 b14 l14 => ?_)
      have h14_L : w.heap.size ≤ g14 := by rw [e14]; exact L.size
      have n14_b3 : g3 ≠ g14 := by have := blk_lt b3; omega
      have n14_b7 : g7 ≠ g14 := by have := blk_lt b7; omega
      have n14_b12 : g12 ≠ g14 := by have := blk_lt b12; omega
      have n14_RP : some g14 ≠ ((Value.slice A3 ps.length c3)).ownBlock := fun h => by have := Kd.R_lt RP _ h.symm; omega
      have n14_RQ : some g14 ≠ ((Value.slice B3 qs.length d3)).ownBlock := fun h => by have := Kd.R_lt RQ _ h.symm; omega
      have n14_R1P : some g14 ≠ ((Value.slice A4 ps1.length c4)).ownBlock := fun h => by have := Kd.R_lt R1P _ h.symm; omega
      have n14_R1Q : some g14 ≠ ((Value.slice B4 qs1.length d4)).ownBlock := fun h => by have := Kd.R_lt R1Q _ h.symm; omega
      have n14_R2P : some g14 ≠ ((Value.slice A5 ps1.length c5)).ownBlock := fun h => by have := Kd.R_lt R2P _ h.symm; omega
      have n14_R2Q : some g14 ≠ ((Value.slice B5 qs1.length d5)).ownBlock := fun h => by have := Kd.R_lt R2Q _ h.symm; omega
      replace b3 := blk_below b3 l14
      replace b7 := blk_below b7 l14
      replace b12 := blk_below b12 l14
      replace RP := Kd.R_below RP l14
      replace RQ := Kd.R_below RQ l14
      replace R1P := Kd.R_below R1P l14
      replace R1Q := Kd.R_below R1Q l14
      replace R2P := Kd.R_below R2P l14
      replace R2Q := Kd.R_below R2Q l14
      replace L := below_step L l14
      refine E.GL.store_whole rfl rfl rfl rfl rfl b14 rfl info25s (slices_one _ _ _ _ _ _) fun wS7_7 c14 lS7_7 => ?_
      replace b3 := blk_grown b3 lS7_7 (E.nes (by first | assumption | exact Ne.symm (by assumption)))
      replace b7 := blk_grown b7 lS7_7 (E.nes (by first | assumption | exact Ne.symm (by assumption)))
      replace b12 := blk_grown b12 lS7_7 (E.nes (by first | assumption | exact Ne.symm (by assumption)))
      replace RP := Kd.R_grown1 RP rfl lS7_7 (by first | assumption | exact Kd.R_ne RP b14 (by decide))
      replace RQ := Kd.R_grown1 RQ rfl lS7_7 (by first | assumption | exact Kd.R_ne RQ b14 (by decide))
      replace R1P := Kd.R_grown1 R1P rfl lS7_7 (by first | assumption | exact Kd.R_ne R1P b14 (by decide))
      replace R1Q := Kd.R_grown1 R1Q rfl lS7_7 (by first | assumption | exact Kd.R_ne R1Q b14 (by decide))
      replace R2P := Kd.R_grown1 R2P rfl lS7_7 (by first | assumption | exact Kd.R_ne R2P b14 (by decide))
      replace R2Q := Kd.R_grown1 R2Q rfl lS7_7 (by first | assumption | exact Kd.R_ne R2Q b14 (by decide))
      replace L := E.below_own L h14_L lS7_7
      replace b14 := c14
      clear c14
      refine E.GL.run rfl rfl rfl (E.Runs.assign rfl rfl) ?_
      refine E.GL.done ?_
      refine E.QG.code ?_
      refine E.CG.seq ?_
      refine E.CG.list ?_
      refine E.GL.run rfl rfl rfl (E.Runs.loads (cs := [.slice A3 ps.length c3, .slice B3 qs.length d3]) rfl rfl hu25 rfl info25s (blk_cells b7)) ?_
      refine E.GL.run rfl rfl rfl (E.Runs.move rfl rfl) ?_
      have hs55 := L.size
      refine E.GL.st rfl rfl rfl (E.ST.call rfl ent25 (E.evc rfl (E.evc rfl E.evn)) ((needed_calls ps qs A3 B3 c3 d3 _ (Kd.R_reads' RP).2.2 (Kd.R_reads' RQ).2.2 (by omega) (by omega) m2).mono ?_))
      rintro e w55 ⟨v55, x55, rfl, R55, hN55, l55⟩
      refine ⟨_, rfl, ?_⟩
      replace b3 := blk_below b3 l55
      replace b7 := blk_below b7 l55
      replace b12 := blk_below b12 l55
      replace b14 := blk_below b14 l55
      replace RP := Kd.R_below RP l55
      replace RQ := Kd.R_below RQ l55
      replace R1P := Kd.R_below R1P l55
      replace R1Q := Kd.R_below R1Q l55
      replace R2P := Kd.R_below R2P l55
      replace R2Q := Kd.R_below R2Q l55
      replace L := below_step L l55
      obtain ⟨A55, c55, hv55⟩ := Kd.R_slice R55
      subst hv55
      replace R55 := Kd.R_lower R55 hs55
      refine E.GL.run rfl rfl rfl (E.Runs.move rfl rfl) ?_
      refine E.GL.run rfl rfl rfl (E.Runs.extract rfl rfl rfl) ?_
      refine E.GL.run rfl rfl rfl (E.Runs.extract rfl rfl rfl) ?_
      refine E.GL.run rfl rfl rfl (E.Runs.assign rfl rfl) ?_
      refine E.GL.run rfl rfl rfl (E.Runs.assign rfl rfl) ?_
      refine E.GL.done ?_
      refine E.QG.code ?_
      refine E.CG.seq ?_
      refine E.CG.list ?_
      refine E.GL.run rfl rfl rfl (E.Runs.loads (cs := [.slice A ps.length c, .slice B qs.length d]) rfl rfl hu25 rfl info25s (blk_cells b3)) ?_
      refine E.GL.run rfl rfl rfl (E.Runs.move rfl rfl) ?_
      have hs61 := L.size
      refine E.GL.st rfl rfl rfl (E.ST.call rfl ent26 (E.evc rfl (E.evc rfl E.evn)) ((neededF_calls ps qs A B c d _ (Kd.C_below hP L) (Kd.C_below hQ L) (by omega) (by omega) m2).mono ?_))
      rintro e w61 ⟨v61, x61, rfl, R61, hN61, l61⟩
      refine ⟨_, rfl, ?_⟩
      replace b3 := blk_below b3 l61
      replace b7 := blk_below b7 l61
      replace b12 := blk_below b12 l61
      replace b14 := blk_below b14 l61
      replace RP := Kd.R_below RP l61
      replace RQ := Kd.R_below RQ l61
      replace R1P := Kd.R_below R1P l61
      replace R1Q := Kd.R_below R1Q l61
      replace R2P := Kd.R_below R2P l61
      replace R2Q := Kd.R_below R2Q l61
      replace R55 := Kd.R_below R55 l61
      replace L := below_step L l61
      obtain ⟨A61, c61, hv61⟩ := Kd.R_slice R61
      subst hv61
      replace R61 := Kd.R_lower R61 hs61
      obtain rfl := needR_one hN55 hN61
      have hlf := needR_few hN55 hb2
      refine E.GL.run rfl rfl rfl (E.Runs.move rfl rfl) ?_
      refine E.GL.run rfl rfl rfl (E.Runs.extract rfl rfl rfl) ?_
      refine E.GL.run rfl rfl rfl (E.Runs.extract rfl rfl rfl) ?_
      refine E.GL.run rfl rfl rfl (E.Runs.assign rfl rfl) ?_
      refine E.GL.run rfl rfl rfl (E.Runs.assign rfl rfl) ?_
      refine E.GL.done ?_
      refine E.QG.code ?_
      refine E.CG.seq ?_
      refine E.CG.seq ?_
      refine E.CG.list ?_
      refine E.GL.run rfl rfl rfl (E.Runs.move rfl rfl) ?_
      refine E.GL.run rfl rfl rfl (E.Runs.move rfl rfl) ?_
      refine E.GL.run rfl rfl rfl (E.Runs.neq rfl rfl rfl (E.ne_f hN)) ?_
      refine E.GL.run rfl rfl rfl (E.Runs.move rfl rfl) ?_
      refine E.GL.run rfl rfl rfl (E.Runs.move rfl rfl) ?_
      refine E.GL.run rfl rfl rfl (E.Runs.move rfl rfl) ?_
      refine E.GL.run rfl rfl rfl (E.Runs.neq rfl rfl rfl (E.ne_f hE)) ?_
      refine E.GL.run rfl rfl rfl (E.Runs.pick_f rfl rfl rfl) ?_
      refine E.GL.run rfl rfl rfl (E.Runs.move rfl rfl) ?_
      refine E.GL.run rfl rfl rfl (E.Runs.move rfl rfl) ?_
      refine E.GL.run rfl rfl rfl (E.Runs.move rfl rfl) ?_
      refine E.GL.run rfl rfl rfl (E.Runs.neq rfl rfl rfl (E.ne_f hES)) ?_
      refine E.GL.run rfl rfl rfl (E.Runs.pick_f rfl rfl rfl) ?_
      refine E.GL.run rfl rfl rfl (E.Runs.move rfl rfl) ?_
      refine E.GL.run rfl rfl rfl (E.Runs.move rfl rfl) ?_
      refine E.GL.run rfl rfl rfl (E.Runs.move rfl rfl) ?_
      refine E.GL.st rfl rfl rfl (E.ST.call rfl ent18 (E.evc rfl (E.evc rfl E.evn)) ((same_calls x55 x55 A55 A61 c55 c61 _ true (by simp) (Kd.R_reads' R55).2.2 (Kd.R_reads' R61).2.2 (by omega)).mono ?_))
      rintro e w80 ⟨rfl, l80⟩
      refine ⟨_, rfl, ?_⟩
      replace b3 := blk_below b3 l80
      replace b7 := blk_below b7 l80
      replace b12 := blk_below b12 l80
      replace b14 := blk_below b14 l80
      replace RP := Kd.R_below RP l80
      replace RQ := Kd.R_below RQ l80
      replace R1P := Kd.R_below R1P l80
      replace R1Q := Kd.R_below R1Q l80
      replace R2P := Kd.R_below R2P l80
      replace R2Q := Kd.R_below R2Q l80
      replace R55 := Kd.R_below R55 l80
      replace R61 := Kd.R_below R61 l80
      replace L := below_step L l80
      refine E.GL.run rfl rfl rfl (E.Runs.not rfl rfl) ?_
      refine E.GL.run rfl rfl rfl (E.Runs.pick_f rfl rfl rfl) ?_
      refine E.GL.run rfl rfl rfl (E.Runs.move rfl rfl) ?_
      refine E.GL.run rfl rfl rfl (E.Runs.move rfl rfl) ?_
      refine E.GL.run rfl rfl rfl (E.Runs.move rfl rfl) ?_
      refine E.GL.run rfl rfl rfl (E.Runs.neq rfl rfl rfl (E.ne_f rfl)) ?_
      refine E.GL.run rfl rfl rfl (E.Runs.pick_f rfl rfl rfl) ?_
      refine E.GL.run rfl rfl rfl (E.Runs.move rfl rfl) ?_
      refine E.GL.run rfl rfl rfl (E.Runs.fieldAddr rfl rfl hu25 rfl (by assumption) rfl) ?_
      refine E.GL.run rfl rfl rfl (E.Runs.load1 rfl rfl hu22 rfl (by first | assumption | exact E.blkc (by assumption) rfl | exact pw_cell_below L (by assumption))) ?_
      refine E.GL.run rfl rfl rfl (E.Runs.fieldAddr rfl rfl hu25 rfl (by assumption) rfl) ?_
      refine E.GL.run rfl rfl rfl (E.Runs.load1 rfl rfl hu22 rfl (by first | assumption | exact E.blkc (by assumption) rfl | exact pw_cell_below L (by assumption))) ?_
      refine E.GL.st rfl rfl rfl (E.ST.call rfl ent18 (E.evc rfl (E.evc rfl E.evn)) ((same_calls ps1 ps1 A4 A5 c4 c5 _ true (by simp) (Kd.R_reads' R1P).2.2 (Kd.R_reads' R2P).2.2 (by omega)).mono ?_))
      rintro e w93 ⟨rfl, l93⟩
      refine ⟨_, rfl, ?_⟩
      replace b3 := blk_below b3 l93
      replace b7 := blk_below b7 l93
      replace b12 := blk_below b12 l93
      replace b14 := blk_below b14 l93
      replace RP := Kd.R_below RP l93
      replace RQ := Kd.R_below RQ l93
      replace R1P := Kd.R_below R1P l93
      replace R1Q := Kd.R_below R1Q l93
      replace R2P := Kd.R_below R2P l93
      replace R2Q := Kd.R_below R2Q l93
      replace R55 := Kd.R_below R55 l93
      replace R61 := Kd.R_below R61 l93
      replace L := below_step L l93
      refine E.GL.run rfl rfl rfl (E.Runs.not rfl rfl) ?_
      refine E.GL.run rfl rfl rfl (E.Runs.pick_f rfl rfl rfl) ?_
      refine E.GL.run rfl rfl rfl (E.Runs.move rfl rfl) ?_
      refine E.GL.run rfl rfl rfl (E.Runs.fieldAddr rfl rfl hu25 rfl (by assumption) rfl) ?_
      refine E.GL.run rfl rfl rfl (E.Runs.load1 rfl rfl hu23 rfl (by first | assumption | exact E.blkc (by assumption) rfl | exact pw_cell_below L (by assumption))) ?_
      refine E.GL.run rfl rfl rfl (E.Runs.len rfl rfl hu23) ?_
      refine E.GL.run rfl rfl rfl (E.Runs.fieldAddr rfl rfl hu25 rfl (by assumption) rfl) ?_
      refine E.GL.run rfl rfl rfl (E.Runs.load1 rfl rfl hu23 rfl (by first | assumption | exact E.blkc (by assumption) rfl | exact pw_cell_below L (by assumption))) ?_
      refine E.GL.run rfl rfl rfl (E.Runs.len rfl rfl hu23) ?_
      refine E.GL.run rfl rfl rfl (E.Runs.neq rfl rfl rfl (E.ne_f rfl)) ?_
      refine E.GL.run rfl rfl rfl (E.Runs.pick_f rfl rfl rfl) ?_
      refine E.GL.done ?_
      refine E.QG.code ?_
      refine E.CG.cond_f rfl ?_
      refine E.CG.skip ?_
      refine E.QG.code ?_
      refine E.CG.seq ?_
      refine E.CG.seq ?_
      refine E.CG.list ?_
      refine E.GL.run rfl rfl rfl (E.Runs.assign rfl rfl) ?_
      refine E.GL.done ?_
      refine E.QG.code ?_
      refine E.CG.block ?_
      have s13_b3 := b3
      have s13_b7 := b7
      have s13_b12 := b12
      have s13_b14 := b14
      have s13_L := L
      refine E.CG.loop (fun (i : Nat) => [(12, .pointer (some ⟨g12, 0, none⟩)), (14, .pointer (some ⟨g14, 0, none⟩)), (20, .int .i64 i)]) (fun i w' => i ≤ qs1.length ∧ w'.heap[g12]? = some (.cells #[.slice A4 ps1.length c4, .slice B4 qs1.length d4] 25 (0, 0)) ∧ w'.heap[g14]? = some (.cells #[.slice A5 ps1.length c5, .slice B5 qs1.length d5] 25 (0, 0)) ∧ Kd.R k45 45 w' w.heap.size (fun _ => True) (.slice B4 qs1.length d4) qs1 ∧ Kd.R k45 45 w' w.heap.size (fun _ => True) (.slice B5 qs1.length d5) qs1 ∧ Below w.heap.size w w') (fun i => qs1.length - i) 0 (E.subc rfl (E.subc rfl (E.subc rfl E.subn))) ⟨Nat.zero_le _, b12, b14, R1Q, R2Q, L⟩ ?_
      rintro i w13 ⟨hi, b12, b14, R1Q, R2Q, L⟩
      refine E.CG.seq ?_
      refine E.CG.seq ?_
      refine E.CG.list ?_
      refine E.GL.run rfl rfl rfl (E.Runs.move rfl rfl) ?_
      refine E.GL.run rfl rfl rfl (E.Runs.fieldAddr rfl rfl hu25 rfl (by assumption) rfl) ?_
      refine E.GL.run rfl rfl rfl (E.Runs.load1 rfl rfl hu23 rfl (by first | assumption | exact E.blkc (by assumption) rfl | exact pw_cell_below L (by assumption))) ?_
      refine E.GL.run rfl rfl rfl (E.Runs.len rfl rfl hu23) ?_
      refine E.GL.cmp rfl rfl rfl (fun _ h => (E.Runs.lss rfl rfl rfl h)) (fun h109 => ?_) (fun h109 => ?_)
      · obtain ⟨q, hx⟩ : ∃ x, qs1[i]? = some x := ⟨_, List.getElem?_eq_getElem (by omega)⟩
        obtain ⟨ad, eA, X⟩ := pass_at (Kd.R_reads' R2Q).2.2 hx
        obtain ⟨ae, eA2, Y⟩ := pass_at (Kd.R_reads' R1Q).2.2 hx
        have hil : (i : Int) < qs1.length := by omega
        refine E.GL.done ?_
        refine E.QG.code ?_
        refine E.CG.cond_t rfl ?_
        refine E.CG.skip ?_
        refine E.QG.code ?_
        refine E.CG.seq ?_
        refine E.CG.block ?_
        refine E.CG.seq ?_
        refine E.CG.quietF (by kernel_rfl) rfl (by kernel_rfl) (by kernel_rfl) ?_
        refine E.GQ.run rfl rfl rfl (E.Runs.fieldAddr rfl rfl hu25 rfl (by assumption) rfl) ?_
        refine E.GQ.run rfl rfl rfl (E.Runs.load1 rfl rfl hu23 rfl (by first | assumption | exact E.blkc (by assumption) rfl | exact pw_cell_below L (by assumption))) ?_
        refine E.GQ.run rfl rfl rfl (E.Runs.move rfl rfl) ?_
        refine E.GQ.run rfl rfl rfl (E.Runs.indexAddrA rfl rfl rfl hu23 z45 o45 hil eA2 rfl) ?_
        refine E.GQ.run rfl rfl rfl (E.Runs.loads (cs := [.int .i64 q.f0, .int .i64 q.f1, .int .i64 q.f2, .int .i64 q.f3]) rfl rfl hu45 rfl info45s (fun j v hv => Y j v hv)) ?_
        refine E.GQ.run rfl rfl rfl (E.Runs.fieldAddr rfl rfl hu25 rfl (by assumption) rfl) ?_
        refine E.GQ.run rfl rfl rfl (E.Runs.load1 rfl rfl hu23 rfl (by first | assumption | exact E.blkc (by assumption) rfl | exact pw_cell_below L (by assumption))) ?_
        refine E.GQ.run rfl rfl rfl (E.Runs.move rfl rfl) ?_
        refine E.GQ.run rfl rfl rfl (E.Runs.indexAddrA rfl rfl rfl hu23 z45 o45 hil eA rfl) ?_
        refine E.GQ.run rfl rfl rfl (E.Runs.loads (cs := [.int .i64 q.f0, .int .i64 q.f1, .int .i64 q.f2, .int .i64 q.f3]) rfl rfl hu45 rfl info45s (fun j v hv => X j v hv)) ?_
        refine E.GQ.run rfl rfl rfl (E.Runs.neqv rfl rfl rfl rfl (fun _ _ W => run_eqGuard_agg W _ _ _ _ _ _ Try.eqGuardType45) (equal45 _ _ _ _) rfl) ?_
        refine E.GQ.doneB fun v15 lD => ?_
        replace b12 := blk_below b12 lD
        replace b14 := blk_below b14 lD
        replace R1Q := Kd.R_below R1Q lD
        replace R2Q := Kd.R_below R2Q lD
        replace L := below_step L lD
        have lD15 := lD
        clear lD
        refine E.QG.code ?_
        refine E.CG.cond_f rfl ?_
        refine E.CG.skip ?_
        refine E.QG.block_normal ?_
        refine E.QG.code ?_
        refine E.CG.list ?_
        refine E.GL.run rfl rfl rfl (E.Runs.move rfl rfl) ?_
        refine E.GL.run rfl rfl rfl (E.Runs.add rfl rfl rfl (IntWalk.i64_in _ (by omega))) ?_
        refine E.GL.run rfl rfl rfl (E.Runs.assign rfl rfl) ?_
        refine E.GL.done ?_
        exact E.QG.round (i + 1) (E.subc rfl (E.subc rfl (E.subc rfl E.subn))) ⟨by omega, b12, b14, R1Q, R2Q, L⟩ (by omega)
      · refine E.GL.done ?_
        refine E.QG.code ?_
        refine E.CG.cond_f rfl ?_
        refine E.CG.exit ?_
        refine E.QG.pass_exit ?_
        refine E.QG.pass_exit ?_
        refine E.QG.block_here ?_
        refine E.QG.code ?_
        refine E.CG.seq ?_
        refine E.CG.list ?_
        refine E.GL.st rfl rfl rfl (E.ST.call rfl ent12 E.evn ((works_calls _).mono ?_))
        rintro e w123 ⟨rfl, l123⟩
        refine ⟨_, rfl, ?_⟩
        replace b12 := blk_below b12 l123
        replace b14 := blk_below b14 l123
        replace R1Q := Kd.R_below R1Q l123
        replace R2Q := Kd.R_below R2Q l123
        replace L := below_step L l123
        refine E.GL.run rfl rfl rfl (E.Runs.assign rfl rfl) ?_
        refine E.GL.done ?_
        refine E.QG.code ?_
        refine E.CG.ret ?_
        exact E.QG.result rfl rfl ⟨rfl, L⟩

end Go.Proofs.Ytmnjlnkfihklgaa.T
namespace Go.Proofs.Ytmnjlnkfihklgaa.T
open Go.ChangeShapes Go.WideShapes Go.ChangeAt Go.Deep
open Go.RowKit Go.Proofs.YtmnjlnkfihklgaaW.PrintWords Go.Proofs.YtmnjlnkfihklgaaW.PrintMore
open Go.Proofs.Ytmnjlnkfihklgaa.P
set_option linter.unusedVariables false
set_option linter.unusedSimpArgs false

section
variable {X : Type} {enc : TypeId × Value → X} {w : World} {base : Nat} {spare : Nat → Bool} {held : Bool}
theorem fld {fs : Array Field} {n : Nat} {cs : List Value} {xs : List (DataW X × List MemPlace)} (hlen : xs.length = fs.size) (hg : ∀ (i : Nat) (f : Field), fs[i]? = some f → DataW.trod enc Try.prog w base spare held n f.type ((cs.drop f.offset).take (Try.prog.cellsOf f.type)) = xs[i]?) (i : Nat) (f : Field) (hf : fs[i]? = some f)
    (ty : TypeId) (off k : Nat) (h1 : f.type = ty) (h2 : f.offset = off) (h3 : Try.prog.cellsOf ty = k) :
    ∃ y, DataW.trod enc Try.prog w base spare held n ty ((cs.drop off).take k) = some y := by
  have hi : i < xs.length := by rw [hlen]; exact (Array.getElem?_eq_some_iff.1 hf).1
  subst h1 h2 h3
  exact ⟨_, (hg i f hf).trans (List.getElem?_eq_getElem hi)⟩

theorem cells3 : Try.prog.cellsOf 3 = 1 := by kernel_rfl

theorem trod3 {n : Nat} {cs : List Value} {x : DataW X × List MemPlace} (h : DataW.trod enc Try.prog w base spare held n 3 cs = some x) : ∃ (a : Int), cs = [.int .i64 a] := by
  obtain ⟨a, hc, _⟩ := DataW.trod_int Try.underlying3 h
  exact ⟨a, hc⟩

set_option maxRecDepth 100000 in
theorem int_open {r : Reach} {b0 : Nat} {v : Value} {d : DataW X} {p : List MemPlace} (hval : Value.okWide Try.prog w r b0 3 v) (h : DataW.Trod enc Try.prog w base spare held 3 v d p) : ∃ m : Int, v = .int .i64 m := okWide_int Try.underlying3 hval

theorem cells25 : Try.prog.cellsOf 25 = 2 := by kernel_rfl

theorem cells22 : Try.prog.cellsOf 22 = 1 := by kernel_rfl

theorem trod22 {n : Nat} {cs : List Value} {x : DataW X × List MemPlace} (h : DataW.trod enc Try.prog w base spare held n 22 cs = some x) : ∃ (aA : Option Addr) (ac : Nat) (al : List Int), cs = [.slice aA al.length ac] ∧ al.length ≤ ac ∧ Kd.C (Kd.int .i64) w aA al.length al := by
  rcases open_slice Try.underlying22 h with ⟨rfl, _⟩ | ⟨a, len, cap, m, k, D, Pl, rfl, hb, hl, hm, hmm, hx, hi⟩
  · exact ⟨none, 0, [], rfl, Nat.le_refl _, rfl, by simp, fun h => absurd h (by simp)⟩
  · have hlm : len ≤ m := by rw [hmm]; split <;> omega
    have H : ∀ i, i < len → ∃ s : Int, w.cells? base (a.add (i * 1)) 1 = some [.int .i64 s] := by
      intro i hil
      obtain ⟨cs', hc, ht⟩ := hi i (by omega)
      obtain ⟨a, rfl⟩ := trod3 ht
      rw [cells3] at hc
      exact ⟨a, hc⟩
    obtain ⟨F, hF⟩ : ∃ F : Nat → Int, ∀ i, i < len → w.cells? base (a.add (i * 1)) 1 = some [.int .i64 (F i)] := by
      refine ⟨fun i => if h : i < len then (H i h).choose else 0, fun i h => ?_⟩
      simp only [dif_pos h]
      exact (H i h).choose_spec
    refine ⟨some a, cap, (List.range len).map F, by simp, by simpa using hl, ?_, ?_, ?_⟩
    · rfl
    · simp only [List.length_map, List.length_range]
      unfold maxLen at hm
      omega
    · intro _
      refine ⟨a, rfl, fun j p hj => ?_⟩
      have hjl : j < len := by
        have := (List.getElem?_eq_some_iff.1 hj).1
        simpa using this
      have hp : p = F j := by
        rw [List.getElem?_map, List.getElem?_range hjl] at hj
        simpa using hj.symm
      subst hp
      refine ⟨[.int .i64 (F j)], rfl, rfl, ?_⟩
      intro i u hu
      obtain ⟨_, hcl, hat⟩ := World.cells?_some (hF j hjl)
      have hil : i < 1 := (List.getElem?_eq_some_iff.1 hu).1
      have := hat i hil
      rw [Go.Deep.add_add] at this
      rw [show j * ((Kd.int .i64)).sz + i = j * 1 + i from rfl, this, hu]

theorem cells23 : Try.prog.cellsOf 23 = 1 := by kernel_rfl

theorem cells45 : Try.prog.cellsOf 45 = 4 := by kernel_rfl

theorem list_of4 {cs : List Value} (h : cs.length = 4) : ∃ v0 v1 v2 v3, cs = [v0, v1, v2, v3] := by
  match cs, h with
  | [v0, v1, v2, v3], _ => exact ⟨v0, v1, v2, v3, rfl⟩

theorem trod45 {n : Nat} {cs : List Value} {x : DataW X × List MemPlace} (h : DataW.trod enc Try.prog w base spare held n 45 cs = some x) : ∃ (a_0 : Int) (a_1 : Int) (a_2 : Int) (a_3 : Int), cs = [.int .i64 a_0, .int .i64 a_1, .int .i64 a_2, .int .i64 a_3] := by
  obtain ⟨xs, m, _, hx, hl, hlen, hg⟩ := DataW.trod_struct Try.underlying45 h
  rw [cells45] at hl
  obtain ⟨v0, v1, v2, v3, rfl⟩ := list_of4 hl
  obtain ⟨y0, h0⟩ := fld hlen hg 0 _ rfl 3 0 1 rfl rfl cells3
  obtain ⟨y1, h1⟩ := fld hlen hg 1 _ rfl 3 1 1 rfl rfl cells3
  obtain ⟨y2, h2⟩ := fld hlen hg 2 _ rfl 3 2 1 rfl rfl cells3
  obtain ⟨y3, h3⟩ := fld hlen hg 3 _ rfl 3 3 1 rfl rfl cells3
  obtain ⟨a_0, e0⟩ := trod3 h0
  obtain ⟨a_1, e1⟩ := trod3 h1
  obtain ⟨a_2, e2⟩ := trod3 h2
  obtain ⟨a_3, e3⟩ := trod3 h3
  simp only [List.drop_zero, List.take_succ_cons, List.take_zero, List.drop_succ_cons, List.cons.injEq, and_true] at e0 e1 e2 e3
  subst e0 e1 e2 e3
  exact ⟨a_0, a_1, a_2, a_3, rfl⟩

theorem trod23 {n : Nat} {cs : List Value} {x : DataW X × List MemPlace} (h : DataW.trod enc Try.prog w base spare held n 23 cs = some x) : ∃ (aA : Option Addr) (ac : Nat) (al : List S45), cs = [.slice aA al.length ac] ∧ al.length ≤ ac ∧ Kd.C k45 w aA al.length al := by
  rcases open_slice Try.underlying23 h with ⟨rfl, _⟩ | ⟨a, len, cap, m, k, D, Pl, rfl, hb, hl, hm, hmm, hx, hi⟩
  · exact ⟨none, 0, [], rfl, Nat.le_refl _, rfl, by simp, fun h => absurd h (by simp)⟩
  · have hlm : len ≤ m := by rw [hmm]; split <;> omega
    have H : ∀ i, i < len → ∃ s : S45, w.cells? base (a.add (i * 4)) 4 = some [.int .i64 s.f0, .int .i64 s.f1, .int .i64 s.f2, .int .i64 s.f3] := by
      intro i hil
      obtain ⟨cs', hc, ht⟩ := hi i (by omega)
      obtain ⟨a_0, a_1, a_2, a_3, rfl⟩ := trod45 ht
      rw [cells45] at hc
      exact ⟨⟨a_0, a_1, a_2, a_3⟩, hc⟩
    obtain ⟨F, hF⟩ : ∃ F : Nat → S45, ∀ i, i < len → w.cells? base (a.add (i * 4)) 4 = some [.int .i64 (F i).f0, .int .i64 (F i).f1, .int .i64 (F i).f2, .int .i64 (F i).f3] := by
      refine ⟨fun i => if h : i < len then (H i h).choose else P.z45, fun i h => ?_⟩
      simp only [dif_pos h]
      exact (H i h).choose_spec
    refine ⟨some a, cap, (List.range len).map F, by simp, by simpa using hl, ?_, ?_, ?_⟩
    · rfl
    · simp only [List.length_map, List.length_range]
      unfold maxLen at hm
      omega
    · intro _
      refine ⟨a, rfl, fun j p hj => ?_⟩
      have hjl : j < len := by
        have := (List.getElem?_eq_some_iff.1 hj).1
        simpa using this
      have hp : p = F j := by
        rw [List.getElem?_map, List.getElem?_range hjl] at hj
        simpa using hj.symm
      subst hp
      refine ⟨[.int .i64 (F j).f0, .int .i64 (F j).f1, .int .i64 (F j).f2, .int .i64 (F j).f3], rfl, k45_mk w (F j), ?_⟩
      intro i u hu
      obtain ⟨_, hcl, hat⟩ := World.cells?_some (hF j hjl)
      have hil : i < 4 := (List.getElem?_eq_some_iff.1 hu).1
      have := hat i hil
      rw [Go.Deep.add_add] at this
      rw [show j * (k45).sz + i = j * 4 + i from rfl, this, hu]

theorem list_of2 {cs : List Value} (h : cs.length = 2) : ∃ v0 v1, cs = [v0, v1] := by
  match cs, h with
  | [v0, v1], _ => exact ⟨v0, v1, rfl⟩

theorem trod25 {n : Nat} {cs : List Value} {x : DataW X × List MemPlace} (h : DataW.trod enc Try.prog w base spare held n 25 cs = some x) : ∃ (a_0A : Option Addr) (a_0c : Nat) (a_0l : List Int) (a_1A : Option Addr) (a_1c : Nat) (a_1l : List S45), cs = [.slice a_0A a_0l.length a_0c, .slice a_1A a_1l.length a_1c] ∧ a_0l.length ≤ a_0c ∧ Kd.C (Kd.int .i64) w a_0A a_0l.length a_0l ∧ a_1l.length ≤ a_1c ∧ Kd.C k45 w a_1A a_1l.length a_1l := by
  obtain ⟨xs, m, _, hx, hl, hlen, hg⟩ := DataW.trod_struct Try.underlying25 h
  rw [cells25] at hl
  obtain ⟨v0, v1, rfl⟩ := list_of2 hl
  obtain ⟨y0, h0⟩ := fld hlen hg 0 _ rfl 22 0 1 rfl rfl cells22
  obtain ⟨y1, h1⟩ := fld hlen hg 1 _ rfl 23 1 1 rfl rfl cells23
  obtain ⟨a_0A, a_0c, a_0l, e0, f0_0, f0_1⟩ := trod22 h0
  obtain ⟨a_1A, a_1c, a_1l, e1, f1_0, f1_1⟩ := trod23 h1
  simp only [List.drop_zero, List.take_succ_cons, List.take_zero, List.drop_succ_cons, List.cons.injEq, and_true] at e0 e1
  subst e0 e1
  exact ⟨a_0A, a_0c, a_0l, a_1A, a_1c, a_1l, rfl, f0_0, f0_1, f1_0, f1_1⟩

set_option maxRecDepth 100000 in
theorem house_open {r : Reach} {b0 : Nat} {v : Value} {d : DataW X} {p : List MemPlace} (hval : Value.okWide Try.prog w r b0 25 v) (h : DataW.Trod enc Try.prog w base spare held 25 v d p) : ∃ (a_0A : Option Addr) (a_0c : Nat) (a_0l : List Int) (a_1A : Option Addr) (a_1c : Nat) (a_1l : List S45), v = .agg #[.slice a_0A a_0l.length a_0c, .slice a_1A a_1l.length a_1c] ∧ a_0l.length ≤ a_0c ∧ Kd.C (Kd.int .i64) w a_0A a_0l.length a_0l ∧ a_1l.length ≤ a_1c ∧ Kd.C k45 w a_1A a_1l.length a_1l := by
  obtain ⟨cs, rfl, hsz⟩ := okWide_struct Try.underlying25 hval
  obtain ⟨n, hn⟩ := h
  obtain ⟨a_0A, a_0c, a_0l, a_1A, a_1c, a_1l, hH, f0, f1, f2, f3⟩ := trod25 hn
  obtain ⟨l⟩ := cs
  obtain rfl : l = _ := hH
  exact ⟨a_0A, a_0c, a_0l, a_1A, a_1c, a_1l, rfl, f0, f1, f2, f3⟩

end

end Go.Proofs.Ytmnjlnkfihklgaa.T
