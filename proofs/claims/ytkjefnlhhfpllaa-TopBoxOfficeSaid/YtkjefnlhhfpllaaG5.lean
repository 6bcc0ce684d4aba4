/- Texts of this claim, put together: A23, A24, B2, O1. -/
import Derived.Test.YtkjefnlhhfpllaaG4
import Derived.Test.YtkjefnlhhfpllaaRows
import Derived.ProofKit
import Derived.OpenShut
import Derived.ChangeOld
import Derived.SizedLaws
import Derived.Deep.Slices
namespace Go.Proofs.Ytkjefnlhhfpllaa.T
open Go.RowKit Go.Proofs.YtkjefnlhhfpllaaW.PrintWords Go.Proofs.YtkjefnlhhfpllaaW.PrintMore
open Go.Proofs.Ytkjefnlhhfpllaa.P
set_option linter.unusedVariables false
set_option linter.unusedSimpArgs false

open Go.Proofs.Ytkjefnlhhfpllaa.E (Mf upd)
theorem cut4 {l m : List Value} {j : Nat} {v : Value} (h : l[j]? = some v) : (l ++ m)[j]? = some v := by
 rw [List.getElem?_append_left (List.getElem?_eq_some_iff.1 h).1]
 exact h
section
variable {base : Nat} {w : World} {D : HD} {S : HS}
theorem HM.rowsC (h : HM base w D S) (hn : D.hs.length ≤ 1000000) (hl : ∀ l ∈ S.rows, l.length ≤ 1000000) : Kd.C (Kd.slice 3 kI) w (some ⟨D.gs, 0, none⟩) D.hs.length S.rows := by
 refine ⟨h.lr, by omega, fun _ => ⟨_, rfl, fun j l hj => ?_⟩⟩
 obtain ⟨p, hp, q1, q2, q3⟩ := h.row hj
 refine ⟨[.slice (some ⟨p.1, 0, none⟩) l.length l.length], rfl, ⟨_, _, rfl, Nat.le_refl _, C_nums l q2 (hl l (mem_of hj))⟩, fun i u hu => ?_⟩
 have hi : i = 0 := by have := (List.getElem?_eq_some_iff.1 hu).1; simpa using this
 subst hi
 cases hu
 rw [Addr.add_mid]
 have : (0 : Nat) + (j * (Kd.slice 3 kI).sz + 0) = j := by show 0 + (j * 1 + 0) = j; omega
 rw [this]
 exact q3
end
set_option maxRecDepth 100000 in
theorem build64a (a b c d : Int) (W : World) : (Instr.build 64 #[(0, .int .i64 a), (2, .int .i64 b), (3, .int .i64 c), (4, .int .i64 d)]).run Try.prog W = .ok (.agg #[.int .i64 a, .int .i64 0, .int .i64 b, .int .i64 c, .int .i64 d]) W := by
 have hu3 := Try.underlying3
 have hu64 := Try.underlying64
 go_simp
set_option maxRecDepth 100000 in
theorem build64f (a b c d e : Int) (W : World) : (Instr.build 64 #[(0, .int .i64 a), (1, .int .i64 b), (2, .int .i64 c), (3, .int .i64 d), (4, .int .i64 e)]).run Try.prog W = .ok (.agg #[.int .i64 a, .int .i64 b, .int .i64 c, .int .i64 d, .int .i64 e]) W := by
 have hu3 := Try.underlying3
 have hu64 := Try.underlying64
 go_simp
set_option maxRecDepth 100000 in
theorem build64d (a b c d : Int) (W : World) : (Instr.build 64 #[(0, .int .i64 a), (1, .int .i64 b), (2, .int .i64 c), (3, .int .i64 d)]).run Try.prog W = .ok (.agg #[.int .i64 a, .int .i64 b, .int .i64 c, .int .i64 d, .int .i64 0]) W := by
 have hu3 := Try.underlying3
 have hu64 := Try.underlying64
 go_simp
set_option maxRecDepth 100000 in
theorem build24 (A : Option Addr) (n c : Nat) (h : Int) (W : World) : (Instr.build 24 #[(0, .slice A n c), (1, .int .i64 h)]).run Try.prog W = .ok (.agg #[.slice A n c, .int .i64 h]) W := by
 have hu3 := Try.underlying3
 have hu22 := Try.underlying22
 have hu24 := Try.underlying24
 go_simp
set_option maxRecDepth 100000 in
theorem build50q (a b c : Int) (W : World) : (Instr.build 50 #[(0, .int .i64 a), (2, .int .i64 b), (3, .int .i64 c)]).run Try.prog W = .ok (.agg #[.int .i64 a, .int .i64 0, .int .i64 b, .int .i64 c]) W := by
 have hu3 := Try.underlying3
 have hu50 := Try.underlying50
 go_simp
set_option maxRecDepth 100000 in
set_option maxHeartbeats 4000000 in
theorem lit25_5 (x y z u v : S64) (W : World) : (Instr.buildSlice 25 5 #[(0, evL x), (1, evL y), (2, evL z), (3, evL u), (4, evL v)]).run Try.prog W = .ok (.slice (some ⟨W.heap.size, 0, none⟩) 5 5) (W.alloc (.cells (([x, y, z, u, v] : List S64).flatMap lC).toArray 64 (0, 0))) := by
 have hu3 := Try.underlying3
 have hu25 := Try.underlying25
 have hu64 := Try.underlying64
 go_simp
set_option maxRecDepth 100000 in
set_option maxHeartbeats 8000000 in

theorem ask20 (ns : List Int) (hold : Int) (A : Option Addr) (a : Nat) (l : List S64) (B : Option Addr) (b : Nat) (minute : Int) (w : World) (hr : Kd.C kI w A ns.length ns) (ok : HOk ns hold) (hl : Kd.C k64 w B l.length l) (lk : LsOk l) (hm : 0 ≤ minute ∧ minute ≤ 9999) (order : Int) (ho : inR order 0 99) :
  Calls Try.prog 20 #[.agg #[.slice A ns.length a, .int .i64 hold], .slice B l.length b, .int .i64 minute, .int .i64 order, .int .i64 1] w fun e w' => ∃ (base : Nat) (D : HD) (S' : HS) (l' : List S64), e = .returned (.tuple #[.pointer (some ⟨D.gx, 0, none⟩), .int .i64 0]) ∧ w.heap.size ≤ base ∧ base ≤ w'.heap.size ∧ HM base w' D S' ∧ Srtd l l' ∧ AfterR hold minute ns (cpt l') S' ∧ Below w.heap.size w w' := by
 have hu3 := Try.underlying3
 have hu24 := Try.underlying24
 have hu25 := Try.underlying25
 refine E.enter (N := 36) Try.func20 rfl Try.ntmps20 (args := [.agg #[.slice A ns.length a, .int .i64 hold], .slice B l.length b, .int .i64 minute, .int .i64 order, .int .i64 1]) (by simp) ?_
 have L := Below.refl w.heap.size w
 refine E.cs (E.cl ?_)
 refine E.GL.st rfl rfl rfl (E.ST.box rfl rfl fun g5 w5 e5 b5 l5 => ?_)
 have h5_L : w.heap.size ≤ g5 := by rw [e5]; exact L.size
 replace L := below_step L l5
 refine E.ga rfl rfl rfl (E.ga rfl rfl rfl (E.gd (E.qc (E.cs (E.cs (E.cl (E.gr rfl (E.Runs.loads (cs := [.slice A ns.length a, .int .i64 hold]) rfl rfl hu24 rfl info24s (blk_cells b5)) ?_)))))))
 refine E.gm rfl rfl rfl ?_
 refine E.GL.st rfl rfl rfl (E.ST.call rfl ent29 (E.evc rfl (E.evc rfl E.evn)) ((check4_s ns hold A a _ (Kd.C_below hr L) ok l B b (Kd.C_below hl L) lk).mono ?_))
 rintro e w15 ⟨rfl, l15⟩
 refine ⟨_, rfl, ?_⟩
 replace b5 := blk_below b5 l15
 replace L := below_step L l15
 refine E.ga rfl rfl rfl (E.gd (E.qc (E.cs (E.cl (E.gm rfl rfl rfl (E.gr rfl (E.Runs.neq rfl rfl rfl (E.ne_f rfl)) ?_))))))
 refine E.gd (E.qc (E.CG.cond_f rfl (E.CG.skip (E.qc (E.cs (E.cs (E.cl (E.gm rfl rfl rfl ?_))))))))
 refine E.GL.st rfl rfl rfl (E.ST.call rfl ent30 (E.evc rfl (E.evc rfl (E.evc rfl E.evn))) ((within_t minute 0 9999 true (iff_of_true rfl hm) _).mono ?_))
 rintro e w20 ⟨rfl, l20⟩
 refine ⟨_, rfl, ?_⟩
 replace b5 := blk_below b5 l20
 replace L := below_step L l20
 refine E.gr rfl (E.Runs.not rfl rfl) ?_
 refine E.gm rfl rfl rfl (E.gm rfl rfl rfl ?_)
 refine E.GL.st rfl rfl rfl (E.ST.call rfl ent30 (E.evc rfl (E.evc rfl (E.evc rfl E.evn))) ((within_t order 0 99 true (iff_of_true rfl ho) _).mono ?_))
 rintro e w24 ⟨rfl, l24⟩
 refine ⟨_, rfl, ?_⟩
 replace b5 := blk_below b5 l24
 replace L := below_step L l24
 refine E.gr rfl (E.Runs.not rfl rfl) ?_
 refine E.gr rfl (E.Runs.pick_f rfl rfl rfl) ?_
 refine E.gm rfl rfl rfl (E.gm rfl rfl rfl ?_)
 refine E.GL.st rfl rfl rfl (E.ST.call rfl ent30 (E.evc rfl (E.evc rfl (E.evc rfl E.evn))) ((within_t 1 1 12 true (iff_of_true rfl (by decide)) _).mono ?_))
 rintro e w29 ⟨rfl, l29⟩
 refine ⟨_, rfl, ?_⟩
 replace b5 := blk_below b5 l29
 replace L := below_step L l29
 refine E.gr rfl (E.Runs.not rfl rfl) ?_
 refine E.gr rfl (E.Runs.pick_f rfl rfl rfl) ?_
 refine E.gd (E.qc (E.CG.cond_f rfl (E.CG.skip (E.qc (E.cs (E.cl (E.gr rfl (E.Runs.loads (cs := [.slice A ns.length a, .int .i64 hold]) rfl rfl hu24 rfl info24s (blk_cells b5)) ?_)))))))
 refine E.gm rfl rfl rfl (E.gm rfl rfl rfl ?_)
 have L0 := L
 refine E.GL.st rfl rfl rfl (E.ST.call rfl ent31 (E.evc rfl (E.evc rfl (E.evc rfl E.evn))) ((after31 ns hold A a l B b minute _ (Kd.C_below hr L) ok (Kd.C_below hl L) lk hm).mono ?_))
 rintro e w35 ⟨base, D, S', l', rfl, hb1, hb2, hM, hS, hAf, l35⟩
 refine ⟨_, rfl, ?_⟩
 replace b5 := blk_below b5 l35
 replace L := below_step L l35
 refine E.ga rfl rfl rfl (E.ga rfl rfl rfl (E.gd (E.qc (E.CG.ret ?_))))
 exact E.QG.result2 rfl rfl rfl ⟨base, D, S', l', rfl, Nat.le_trans L0.size hb1, hb2, hM, hS, hAf, L⟩

set_option maxRecDepth 100000 in
set_option maxHeartbeats 8000000 in

theorem map10 (ns : List Int) (hold : Int) (A : Option Addr) (a : Nat) (l : List S64) (B : Option Addr) (b : Nat) (minute : Int) (w : World) (hr : Kd.C kI w A ns.length ns) (ok : HOk ns hold) (hl : Kd.C k64 w B l.length l) (lk : LsOk l) (hm : 0 ≤ minute ∧ minute ≤ 9999) :
  Calls Try.prog 10 #[.agg #[.slice A ns.length a, .int .i64 hold], .slice B l.length b, .int .i64 minute] w fun e w' => ∃ (A' : Option Addr) (c' : Nat) (rows : List (List Int)), e = .returned (.tuple #[.slice A' rows.length c', .int .i64 0]) ∧ Kd.C (Kd.slice 3 kI) w' A' rows.length rows ∧ rows.length = ns.length ∧ (∀ (r : Nat) l n, rows[r]? = some l → ns[r]? = some n → (l.length : Int) = n) ∧ (∀ l ∈ rows, ∀ x ∈ l, -1 ≤ x ∧ x ≤ 99) ∧ Below w.heap.size w w' := by
 have hu3 := Try.underlying3
 have hu22 := Try.underlying22
 have hu24 := Try.underlying24
 have hu25 := Try.underlying25
 have hu45 := Try.underlying45
 have hu74 := Try.underlying74
 obtain ⟨z24, o24⟩ := info_some info24s (by decide)
 obtain ⟨z45, o45⟩ := info_some info45s (by decide)
 refine E.enter (N := 24) Try.func10 rfl Try.ntmps10 (args := [.agg #[.slice A ns.length a, .int .i64 hold], .slice B l.length b, .int .i64 minute]) (by simp) ?_
 have L := Below.refl w.heap.size w
 refine E.cs (E.cl ?_)
 refine E.GL.st rfl rfl rfl (E.ST.box rfl rfl fun g3 w3 e3 b3 l3 => ?_)
 have h3_L : w.heap.size ≤ g3 := by rw [e3]; exact L.size
 replace L := below_step L l3
 refine E.ga rfl rfl rfl (E.ga rfl rfl rfl (E.gd (E.qc (E.cs (E.cl (E.gr rfl (E.Runs.loads (cs := [.slice A ns.length a, .int .i64 hold]) rfl rfl hu24 rfl info24s (blk_cells b3)) ?_))))))
 refine E.gm rfl rfl rfl (E.gm rfl rfl rfl ?_)
 refine E.GL.st rfl rfl rfl (E.ST.call rfl ent20 (E.evc rfl (E.evc rfl (E.evc rfl (E.evc rfl (E.evc rfl E.evn))))) ((ask20 ns hold A a l B b minute _ (Kd.C_below hr L) ok (Kd.C_below hl L) lk hm 0 (by decide)).mono ?_))
 rintro e w14 ⟨base, D, S', l', rfl, hb1, hb2, hM, hS, hAf, l14⟩
 refine ⟨_, rfl, ?_⟩
 replace b3 := blk_below b3 l14
 replace L := below_step L l14
 have hI := hAf.ok ok.r (srtd_ok hS lk.c)
 have hn6 := ok.n
 have hlr := hM.lr
 have hlen := hI.len
 have bx := hM.x
 refine E.gm rfl rfl rfl (E.gr rfl (E.Runs.extract rfl rfl rfl) ?_)
 refine E.gr rfl (E.Runs.extract rfl rfl rfl) ?_
 refine E.ga rfl rfl rfl (E.ga rfl rfl rfl (E.gd (E.qc (E.cs (E.cs (E.cl (E.gm rfl rfl rfl (E.gr rfl (E.Runs.neq rfl rfl rfl (E.ne_f rfl)) ?_))))))))
 refine E.gd (E.qc (E.CG.cond_f rfl (E.CG.skip (E.qc (E.cs (E.cl (E.gm rfl rfl rfl (E.gr rfl (E.Runs.nilCheck rfl rfl) ?_))))))))
 refine E.gr rfl (E.Runs.fieldAddr rfl rfl hu74 rfl (by assumption) rfl) ?_
 refine E.gr rfl (E.Runs.load1 rfl rfl hu45 rfl (by first | assumption | exact E.blkc (by assumption) rfl | exact pw_cell_below L (by assumption))) ?_
 refine E.ga rfl rfl rfl (E.ga rfl rfl rfl (E.gd (E.qc (E.CG.ret ?_))))
 refine E.QG.result2 rfl rfl rfl ⟨some ⟨D.gs, 0, none⟩, D.sc, S'.rows, by rw [hlr], ?_, hlen, hI.row, hI.val, L⟩
 rw [hlr]
 exact hM.rowsC (by omega) (fun l hl => by have := hI.l12 ok.r l hl; omega)

set_option maxRecDepth 100000 in
set_option maxHeartbeats 8000000 in

theorem order11 (ns : List Int) (hold : Int) (A : Option Addr) (a : Nat) (l : List S64) (B : Option Addr) (b : Nat) (minute : Int) (w : World) (hr : Kd.C kI w A ns.length ns) (ok : HOk ns hold) (hl : Kd.C k64 w B l.length l) (lk : LsOk l) (hm : 0 ≤ minute ∧ minute ≤ 9999) (order : Int) (ho : inR order 0 99) :
  Calls Try.prog 11 #[.agg #[.slice A ns.length a, .int .i64 hold], .slice B l.length b, .int .i64 minute, .int .i64 order] w fun e w' => ∃ (S' : HS) (l' : List S64) (o : Od), e = .returned (.tuple #[.agg #[.int .i64 o.f0, .int .i64 o.f1, .int .i64 o.f2, .int .i64 o.f3], .int .i64 0]) ∧ Srtd l l' ∧ AfterR hold minute ns (cpt l') S' ∧ (ofS S' order).ord order = some o ∧ Below w.heap.size w w' := by
 have hu3 := Try.underlying3
 have hu24 := Try.underlying24
 have hu25 := Try.underlying25
 have hu50 := Try.underlying50
 have hu74 := Try.underlying74
 have hu76 := Try.underlying76
 have hu77 := Try.underlying77
 obtain ⟨z24, o24⟩ := info_some info24s (by decide)
 obtain ⟨z50, o50⟩ := info_some info50s (by decide)
 refine E.enter (N := 30) Try.func11 rfl Try.ntmps11 (args := [.agg #[.slice A ns.length a, .int .i64 hold], .slice B l.length b, .int .i64 minute, .int .i64 order]) (by simp) ?_
 have L := Below.refl w.heap.size w
 refine E.cs (E.cl ?_)
 refine E.GL.st rfl rfl rfl (E.ST.box rfl rfl fun g4 w4 e4 b4 l4 => ?_)
 have h4_L : w.heap.size ≤ g4 := by rw [e4]; exact L.size
 replace L := below_step L l4
 refine E.GL.st rfl rfl rfl (E.ST.alloc rfl info50z fun g8 w8 e8 b8 l8 => ?_)
 have h8_L : w.heap.size ≤ g8 := by rw [e8]; exact L.size
 have n8_b4 : g4 ≠ g8 := by have := blk_lt b4; omega
 replace b4 := blk_below b4 l8
 replace L := below_step L l8
 refine E.ga rfl rfl rfl (E.gd (E.qc (E.cs (E.cl (E.gr rfl (E.Runs.loads (cs := [.slice A ns.length a, .int .i64 hold]) rfl rfl hu24 rfl info24s (blk_cells b4)) ?_)))))
 refine E.gm rfl rfl rfl (E.gm rfl rfl rfl (E.gm rfl rfl rfl ?_))
 have L0 := L
 refine E.GL.st rfl rfl rfl (E.ST.call rfl ent20 (E.evc rfl (E.evc rfl (E.evc rfl (E.evc rfl (E.evc rfl E.evn))))) ((ask20 ns hold A a l B b minute _ (Kd.C_below hr L) ok (Kd.C_below hl L) lk hm order ho).mono ?_))
 rintro e w17 ⟨base, D, S', l', rfl, hb1, hb2, hM, hS, hAf, l17⟩
 refine ⟨_, rfl, ?_⟩
 replace b4 := blk_below b4 l17
 replace b8 := blk_below b8 l17
 replace L := below_step L l17
 refine E.gm rfl rfl rfl (E.gr rfl (E.Runs.extract rfl rfl rfl) ?_)
 refine E.gr rfl (E.Runs.extract rfl rfl rfl) ?_
 refine E.ga rfl rfl rfl (E.ga rfl rfl rfl (E.gd (E.qc (E.cs (E.cs (E.cl (E.gm rfl rfl rfl (E.gr rfl (E.Runs.neq rfl rfl rfl (E.ne_f rfl)) ?_))))))))
 refine E.gd (E.qc (E.CG.cond_f rfl (E.CG.skip (E.qc (E.cs (E.cl (E.gm rfl rfl rfl (E.gm rfl rfl rfl ?_))))))))
 refine E.GL.st rfl rfl rfl (E.ST.call rfl ent21 (E.evc rfl (E.evc rfl E.evn)) ((of21 base D S' _ hM order).mono ?_))
 rintro e w26 ⟨g1, f, rfl, hM, hf, K1⟩
 refine ⟨_, rfl, ?_⟩
 replace b8 := K1.at_ b8 (by decide)
 replace L := kp_link L (Nat.le_trans L0.size hb1) K1 hb2
 obtain ⟨o, ho', b1⟩ := hM.ord hf
 refine E.gr rfl (E.Runs.nilCheck rfl rfl) ?_
 refine E.gr rfl (E.Runs.fieldAddr rfl rfl hu76 rfl (by assumption) rfl) ?_
 refine E.gr rfl (E.Runs.loads (cs := [.int .i64 o.f0, .int .i64 o.f1, .int .i64 o.f2, .int .i64 o.f3]) rfl rfl hu50 rfl info50s (fun j v hv => blk_cells b1 j v (cut4 (m := [.int .i64 o.f4]) hv))) ?_
 refine E.GL.store_whole rfl rfl rfl rfl rfl b8 rfl info50s (four_one _ _ _ _) fun wS c8 lS => ?_
 replace L := E.below_own L h8_L lS
 refine E.ga rfl rfl rfl (E.gd (E.qc (E.CG.ret ?_)))
 exact E.QG.result_ct rfl rfl c8 hu50 rfl info50s rfl ⟨S', l', o, rfl, hS, hAf, ho', L⟩

set_option maxRecDepth 100000 in
set_option maxHeartbeats 8000000 in

theorem example4_calls (w : World) :
  Calls Try.prog 18 #[] w fun e w' => ∃ A B, e = .returned (.tuple #[.agg #[.slice A ([5, 3] : List Int).length 2, .int .i64 10], .slice B e4L.length 5]) ∧ Kd.C kI w' A ([5, 3] : List Int).length [5, 3] ∧ Kd.C k64 w' B e4L.length e4L ∧ Below w.heap.size w w' := by
 have hu24 := Try.underlying24
 refine E.enter (N := 10) Try.func18 rfl Try.ntmps18 (args := []) (by simp) ?_
 have L := Below.refl w.heap.size w
 refine E.cs (E.cl ?_)
 refine E.GL.st rfl rfl rfl (E.ST.alloc rfl info24z fun g0 w0 e0 b0 l0 => ?_)
 have h0_L : w.heap.size ≤ g0 := by rw [e0]; exact L.size
 replace L := below_step L l0
 refine E.ga rfl rfl rfl (E.gd (E.qc (E.cs (E.cl ?_))))
 refine E.GL.st rfl rfl rfl (E.ST.litB (cs := (([5, 3] : List Int).map (Value.int .i64)).toArray) rfl (E.epc rfl (E.epc rfl E.epn)) (lit22_2 _ _) fun g2 w2 e2 b2 l2 => ?_)
 have h2_L : w.heap.size ≤ g2 := by rw [e2]; exact L.size
 have n2_b0 : g0 ≠ g2 := by have := blk_lt b0; omega
 replace b0 := blk_below b0 l2
 replace L := below_step L l2
 refine E.gr rfl (E.Runs.build rfl (E.epc rfl (E.epc rfl E.epn)) (build24 _ _ _ _)) ?_
 refine E.gr rfl (E.Runs.build rfl (E.epc rfl (E.epc rfl (E.epc rfl (E.epc rfl E.epn)))) (build64a _ _ _ _)) ?_
 refine E.gr rfl (E.Runs.build rfl (E.epc rfl (E.epc rfl (E.epc rfl (E.epc rfl (E.epc rfl E.epn))))) (build64f _ _ _ _ _)) ?_
 refine E.gr rfl (E.Runs.build rfl (E.epc rfl (E.epc rfl (E.epc rfl (E.epc rfl E.epn)))) (build64d _ _ _ _)) ?_
 refine E.gr rfl (E.Runs.build rfl (E.epc rfl (E.epc rfl (E.epc rfl (E.epc rfl (E.epc rfl E.epn))))) (build64f _ _ _ _ _)) ?_
 refine E.gr rfl (E.Runs.build rfl (E.epc rfl (E.epc rfl (E.epc rfl (E.epc rfl E.epn)))) (build64d _ _ _ _)) ?_
 refine E.GL.st rfl rfl rfl (E.ST.litB (cs := (e4L.flatMap lC).toArray) rfl (E.epc rfl (E.epc rfl (E.epc rfl (E.epc rfl (E.epc rfl E.epn))))) (lit25_5 ⟨1, 0, 1, 1, 2⟩ ⟨2, 1, 1, 2, 2⟩ ⟨3, 5, 2, 1, 0⟩ ⟨4, 12, 1, 3, 3⟩ ⟨5, 11, 2, 2, 0⟩) fun g9 w9 e9 b9 l9 => ?_)
 have h9_L : w.heap.size ≤ g9 := by rw [e9]; exact L.size
 have n9_b0 : g0 ≠ g9 := by have := blk_lt b0; omega
 have n9_b2 : g2 ≠ g9 := by have := blk_lt b2; omega
 replace b0 := blk_below b0 l9
 replace b2 := blk_below b2 l9
 replace L := below_step L l9
 refine E.GL.store_whole rfl rfl rfl rfl rfl b0 rfl info24s (hall_one _ _ _ _) fun wS1_8 c0 lS1_8 => ?_
 replace b2 := blk_grown b2 lS1_8 (E.nes (by first | assumption | exact Ne.symm (by assumption)))
 replace b9 := blk_grown b9 lS1_8 (E.nes (by first | assumption | exact Ne.symm (by assumption)))
 replace L := E.below_own L h0_L lS1_8
 replace b0 := c0
 clear c0
 refine E.ga rfl rfl rfl (E.gd (E.qc (E.CG.ret ?_)))
 exact E.QG.result_ct rfl rfl b0 hu24 rfl info24s rfl ⟨_, _, rfl, C_nums [5, 3] b2 (by decide), C_flat k64_mk (fun _ => rfl) e4L b9 (by decide), L⟩

set_option maxRecDepth 100000 in
set_option maxHeartbeats 8000000 in

theorem boxed9 (w : World) : Calls Try.prog 9 #[] w fun e w' => e = .returned (.bool true) ∧ Below w.heap.size w w' := by
 have hu3 := Try.underlying3
 have hu4 := Try.underlying4
 have hu24 := Try.underlying24
 have hu25 := Try.underlying25
 have hu29 := Try.underlying29
 have hu40 := Try.underlying40
 have hu50 := Try.underlying50
 have hu57 := Try.underlying57
 obtain ⟨z3, o3⟩ := info_some info3s (by decide)
 obtain ⟨z24, o24⟩ := info_some info24s (by decide)
 obtain ⟨z50, o50⟩ := info_some info50s (by decide)
 obtain ⟨z57, o57⟩ := info_some info57s (by decide)
 refine E.enter (N := 43) Try.func9 rfl Try.ntmps9 (args := []) (by simp) ?_
 have L := Below.refl w.heap.size w
 refine E.cs (E.cl (E.ga rfl rfl rfl (E.gd (E.qc (E.cs (E.cl ?_))))))
 refine E.GL.st rfl rfl rfl (E.ST.call rfl ent18 E.evn ((example4_calls _).mono ?_))
 rintro e w8 ⟨A, B, rfl, hA, hB, l8⟩
 refine ⟨_, rfl, ?_⟩
 replace L := below_step L l8
 have K8 := Below.refl w8.heap.size w8
 refine E.gm rfl rfl rfl (E.gr rfl (E.Runs.extract rfl rfl rfl) ?_)
 refine E.gr rfl (E.Runs.extract rfl rfl rfl) ?_
 refine E.GL.st rfl rfl rfl (E.ST.alloc rfl info24z fun g1 w1 e1 b1 l1 => ?_)
 have h1_L : w.heap.size ≤ g1 := by rw [e1]; exact L.size
 have h1_K8 : w8.heap.size ≤ g1 := by rw [e1]; exact K8.size
 replace L := below_step L l1
 replace K8 := below_step K8 l1
 refine E.GL.store_whole rfl rfl rfl rfl rfl b1 rfl info24s (hall_one _ _ _ _) fun wS1_5 c1 lS1_5 => ?_
 replace L := E.below_own L h1_L lS1_5
 replace K8 := E.below_own K8 h1_K8 lS1_5
 replace b1 := c1
 clear c1
 refine E.ga rfl rfl rfl (E.gd (E.qc (E.cs (E.cl (E.gr rfl (E.Runs.loads (cs := [.slice A ([5, 3] : List Int).length 2, .int .i64 10]) rfl rfl hu24 rfl info24s (blk_cells b1)) ?_)))))
 refine E.gm rfl rfl rfl ?_
 refine E.GL.st rfl rfl rfl (E.ST.call rfl ent11 (E.evc rfl (E.evc rfl (E.evc rfl (E.evc rfl E.evn)))) ((order11 [5, 3] 10 A 2 e4L B 5 12 _ (Kd.C_below hA K8) e4_hall (Kd.C_below hB K8) e4_ok (by decide) 3 (by decide)).mono ?_))
 rintro e w14 ⟨S', l', o, rfl, hS, hAf, ho, l14⟩
 refine ⟨_, rfl, ?_⟩
 replace b1 := blk_below b1 l14
 replace L := below_step L l14
 replace K8 := below_step K8 l14
 obtain rfl := e4_order hS hAf ho
 refine E.gm rfl rfl rfl (E.gr rfl (E.Runs.extract rfl rfl rfl) ?_)
 refine E.gr rfl (E.Runs.extract rfl rfl rfl) ?_
 refine E.GL.st rfl rfl rfl (E.ST.alloc rfl info50z fun g3 w3 e3 b3 l3 => ?_)
 have h3_L : w.heap.size ≤ g3 := by rw [e3]; exact L.size
 have h3_K8 : w8.heap.size ≤ g3 := by rw [e3]; exact K8.size
 have n3_b1 : g1 ≠ g3 := by have := blk_lt b1; omega
 replace b1 := blk_below b1 l3
 replace L := below_step L l3
 replace K8 := below_step K8 l3
 refine E.GL.store_whole rfl rfl rfl rfl rfl b3 rfl info50s (four_one _ _ _ _) fun wS2_7 c3 lS2_7 => ?_
 replace b1 := blk_grown b1 lS2_7 (E.nes (by first | assumption | exact Ne.symm (by assumption)))
 replace L := E.below_own L h3_L lS2_7
 replace K8 := E.below_own K8 h3_K8 lS2_7
 replace b3 := c3
 clear c3
 refine E.ga rfl rfl rfl (E.gd (E.qc (E.cs (E.cl ?_))))
 refine E.GL.st rfl rfl rfl (E.ST.call rfl ent19 E.evn ((example8_calls _).mono ?_))
 rintro e w18 ⟨m, rfl, hm, hcap, l18⟩
 refine ⟨_, rfl, ?_⟩
 replace b1 := blk_below b1 l18
 replace b3 := blk_below b3 l18
 replace L := below_step L l18
 replace K8 := below_step K8 l18
 refine E.GL.st rfl rfl rfl (E.ST.call rfl ent13 (E.evc rfl (E.evc rfl (E.evc rfl E.evn))) ((week_s eB m eC _ hm eB_ok eB_rs hcap (by simp [eB]) 11 (by decide)).mono ?_))
 rintro e w19 ⟨rfl, l19⟩
 refine ⟨_, rfl, ?_⟩
 replace b1 := blk_below b1 l19
 replace b3 := blk_below b3 l19
 replace L := below_step L l19
 replace K8 := below_step K8 l19
 rw [eB_acc]
 refine E.gm rfl rfl rfl (E.gr rfl (E.Runs.extract rfl rfl rfl) ?_)
 refine E.gr rfl (E.Runs.extract rfl rfl rfl) ?_
 refine E.GL.st rfl rfl rfl (E.ST.alloc rfl info57z fun g5 w5 e5 b5 l5 => ?_)
 have h5_L : w.heap.size ≤ g5 := by rw [e5]; exact L.size
 have h5_K8 : w8.heap.size ≤ g5 := by rw [e5]; exact K8.size
 have n5_b1 : g1 ≠ g5 := by have := blk_lt b1; omega
 have n5_b3 : g3 ≠ g5 := by have := blk_lt b3; omega
 replace b1 := blk_below b1 l5
 replace b3 := blk_below b3 l5
 replace L := below_step L l5
 replace K8 := below_step K8 l5
 refine E.GL.store_whole rfl rfl rfl rfl rfl b5 rfl info57s (int6_one _ _ _ _ _ _) fun wS3_6 c5 lS3_6 => ?_
 replace b1 := blk_grown b1 lS3_6 (E.nes (by first | assumption | exact Ne.symm (by assumption)))
 replace b3 := blk_grown b3 lS3_6 (E.nes (by first | assumption | exact Ne.symm (by assumption)))
 replace L := E.below_own L h5_L lS3_6
 replace K8 := E.below_own K8 h5_K8 lS3_6
 replace b5 := c5
 clear c5
 refine E.ga rfl rfl rfl (E.gd (E.qc (E.cs (E.cl (E.gm rfl rfl rfl (E.gr rfl (E.Runs.eql rfl rfl rfl (decide_eq_true rfl)) ?_))))))
 refine E.gm rfl rfl rfl (E.gm rfl rfl rfl (E.gr rfl (E.Runs.eql rfl rfl rfl (decide_eq_true rfl)) ?_))
 refine E.gt rfl rfl rfl rfl (E.gm rfl rfl rfl (E.gr rfl (E.Runs.loads (cs := [.int .i64 2, .int .i64 0, .int .i64 2, .int .i64 3]) rfl rfl hu50 rfl info50s (blk_cells b3)) ?_))
 refine E.gr rfl (E.Runs.build rfl (E.epc rfl (E.epc rfl (E.epc rfl E.epn))) (build50q _ _ _)) ?_
 refine E.gr rfl (E.Runs.eqlv rfl rfl rfl rfl (fun _ _ W => run_eqGuard_agg W _ _ _ _ _ _ Try.eqGuardType50) (fun W => (equal50 ⟨2, 0, 2, 3⟩ ⟨2, 0, 2, 3⟩ W).trans (by rw [decide_eq_true rfl]))) ?_
 refine E.gt rfl rfl rfl rfl (E.gm rfl rfl rfl (E.gr rfl (E.Runs.fieldAddr rfl rfl hu57 rfl (by assumption) rfl) ?_))
 refine E.gr rfl (E.Runs.load rfl rfl hu3 (by first | assumption | exact E.blkc (by assumption) rfl | exact pw_cell_below L (by assumption) | exact pw_cell_below K8 (by assumption))) ?_
 refine E.gr rfl (E.Runs.eql rfl rfl rfl (decide_eq_true rfl)) ?_
 refine E.gt rfl rfl rfl rfl (E.gm rfl rfl rfl (E.gr rfl (E.Runs.fieldAddr rfl rfl hu57 rfl (by assumption) rfl) ?_))
 refine E.gr rfl (E.Runs.load rfl rfl hu3 (by first | assumption | exact E.blkc (by assumption) rfl | exact pw_cell_below L (by assumption) | exact pw_cell_below K8 (by assumption))) ?_
 refine E.gr rfl (E.Runs.eql rfl rfl rfl (decide_eq_true rfl)) ?_
 refine E.gt rfl rfl rfl rfl (E.ga rfl rfl rfl (E.gd (E.qc (E.CG.ret ?_))))
 exact E.QG.result rfl rfl ⟨rfl, L⟩

end Go.Proofs.Ytkjefnlhhfpllaa.T
namespace Go.Proofs.Ytkjefnlhhfpllaa.T
open Go.RowKit Go.Proofs.YtkjefnlhhfpllaaW.PrintWords Go.Proofs.YtkjefnlhhfpllaaW.PrintMore
open Go.Proofs.Ytkjefnlhhfpllaa.P
set_option linter.unusedVariables false
set_option linter.unusedSimpArgs false

set_option maxRecDepth 100000 in
set_option maxHeartbeats 8000000 in

theorem far4_law (rows : List Int) (hold : Int) (A : Option Addr) (a : Nat) (n : Nat) (B : Option Addr) (b : Nat) (w : World) :
  Calls Try.prog 5 #[.agg #[.slice A rows.length a, .int .i64 hold], .slice B n b] w fun e w' => ∃ r, e = .returned (.bool r) ∧ (r = false → rows.length ≤ 30) ∧ Below w.heap.size w w' := by
 have hu3 := Try.underlying3
 have hu22 := Try.underlying22
 have hu24 := Try.underlying24
 have hu25 := Try.underlying25
 obtain ⟨z22, o22⟩ := info_some info22s (by decide)
 obtain ⟨z24, o24⟩ := info_some info24s (by decide)
 obtain ⟨z25, o25⟩ := info_some info25s (by decide)
 refine E.enter (N := 14) Try.func5 rfl Try.ntmps5 (args := [.agg #[.slice A rows.length a, .int .i64 hold], .slice B n b]) (by simp) ?_
 have L := Below.refl w.heap.size w
 refine E.cs (E.cl ?_)
 refine E.GL.st rfl rfl rfl (E.ST.box rfl rfl fun g2 w2 e2 b2 l2 => ?_)
 have h2_L : w.heap.size ≤ g2 := by rw [e2]; exact L.size
 replace L := below_step L l2
 refine E.ga rfl rfl rfl (E.gd (E.qc (E.cs (E.cl (E.gr rfl (E.Runs.fieldAddr rfl rfl hu24 rfl (by assumption) rfl) ?_)))))
 refine E.gr rfl (E.Runs.load1 rfl rfl hu22 rfl (by first | assumption | exact E.blkc (by assumption) rfl | exact pw_cell_below L (by assumption))) ?_
 refine E.gr rfl (E.Runs.len rfl rfl hu22) ?_
 refine E.GL.cmp rfl rfl rfl (fun _ h => (E.Runs.gtr rfl rfl rfl h)) (fun h8 => ?_) (fun h8 => ?_)
 ·refine E.gm rfl rfl rfl (E.gk rfl (E.gk rfl (E.gk rfl (E.gt rfl rfl rfl rfl (E.ga rfl rfl rfl (E.gd (E.qc (E.CG.ret ?_))))))))
  exact E.QG.result rfl rfl ⟨_, rfl, (fun q => by first | (cases q; done) | omega), L⟩
 ·refine E.gm rfl rfl rfl (E.gm rfl rfl rfl (E.gr rfl (E.Runs.len rfl rfl hu25) ?_))
  refine E.gr rfl (E.Runs.gtr rfl rfl rfl rfl) ?_
  refine E.gr rfl (E.Runs.pick_f rfl rfl rfl) ?_
  refine E.ga rfl rfl rfl (E.gd (E.qc (E.CG.ret ?_)))
  exact E.QG.result rfl rfl ⟨_, rfl, (fun q => by first | (cases q; done) | omega), L⟩

set_option maxRecDepth 100000 in
set_option maxHeartbeats 8000000 in

theorem far8_law (V : Bk) (m : Ba) (w : World) (hM : BM w V m) :
  Calls Try.prog 7 #[bv V m] w fun e w' => ∃ r, e = .returned (.bool r) ∧ (r = false → Sz V) ∧ Below w.heap.size w w' := by
 have hu3 := Try.underlying3
 have hu22 := Try.underlying22
 have hu26 := Try.underlying26
 have hu27 := Try.underlying27
 have hu29 := Try.underlying29
 have hu34 := Try.underlying34
 have hu36 := Try.underlying36
 obtain ⟨z3, o3⟩ := info_some info3s (by decide)
 obtain ⟨z22, o22⟩ := info_some info22s (by decide)
 obtain ⟨z26, o26⟩ := info_some info26s (by decide)
 obtain ⟨z27, o27⟩ := info_some info27s (by decide)
 obtain ⟨z34, o34⟩ := info_some info34s (by decide)
 obtain ⟨z36, o36⟩ := info_some info36s (by decide)
 refine E.enter (N := 39) Try.func7 rfl Try.ntmps7 (args := [bv V m]) (by simp) ?_
 have L := Below.refl w.heap.size w
 refine E.cs (E.cl ?_)
 refine E.GL.st rfl rfl rfl (E.ST.box rfl rfl fun g1 w1 e1 b1 l1 => ?_)
 have h1_L : w.heap.size ≤ g1 := by rw [e1]; exact L.size
 replace L := below_step L l1
 refine E.ga rfl rfl rfl (E.gd (E.qc (E.cs (E.cs (E.cl (E.gr rfl (E.Runs.fieldAddr rfl rfl hu29 rfl (by assumption) rfl) ?_))))))
 refine E.gr rfl (E.Runs.load1 rfl rfl hu26 rfl (by first | assumption | exact E.blkc (by assumption) rfl | exact pw_cell_below L (by assumption))) ?_
 refine E.gr rfl (E.Runs.len rfl rfl hu26) ?_
 refine E.GL.cmp rfl rfl rfl (fun _ h => (E.Runs.gtr rfl rfl rfl h)) (fun h7 => ?_) (fun h7 => ?_)
 ·refine E.gm rfl rfl rfl (E.gk rfl (E.gk rfl (E.gk rfl (E.gk rfl (E.gt rfl rfl rfl rfl (E.gd (E.qc (E.CG.cond_t rfl (E.cs ?_)))))))))
  refine E.cl (E.ga rfl rfl rfl (E.gd (E.qc (E.CG.ret (E.QG.pass_ret ?_)))))
  exact E.QG.result rfl rfl ⟨true, rfl, (fun q => by cases q), L⟩
 ·refine E.gm rfl rfl rfl (E.gr rfl (E.Runs.fieldAddr rfl rfl hu29 rfl (by assumption) rfl) ?_)
  refine E.gr rfl (E.Runs.load1 rfl rfl hu27 rfl (by first | assumption | exact E.blkc (by assumption) rfl | exact pw_cell_below L (by assumption))) ?_
  refine E.gr rfl (E.Runs.len rfl rfl hu27) ?_
  refine E.GL.cmp rfl rfl rfl (fun _ h => (E.Runs.gtr rfl rfl rfl h)) (fun h12 => ?_) (fun h12 => ?_)
  ·refine E.gr rfl (E.Runs.pick_f rfl rfl rfl) ?_
   refine E.gd (E.qc (E.CG.cond_t rfl (E.cs (E.cl (E.ga rfl rfl rfl (E.gd (E.qc (E.CG.ret (E.QG.pass_ret ?_)))))))))
   exact E.QG.result rfl rfl ⟨true, rfl, (fun q => by cases q), L⟩
  ·refine E.gr rfl (E.Runs.pick_f rfl rfl rfl) ?_
   refine E.gd (E.qc (E.CG.cond_f rfl (E.CG.skip (E.qc (E.cs (E.cs (E.cl (E.ga rfl rfl rfl (E.gd ?_)))))))))
   refine E.qc (E.CG.block ?_)
   have s4_b1 := b1
   have s4_L := L
   refine E.CG.loop (fun (i : Nat) => [(1, .pointer (some ⟨g1, 0, none⟩)), (3, .int .i64 i)]) (fun i w' => i ≤ V.cs.length ∧ (∀ k, k < i → ∀ x, V.cs[k]? = some x → x.f3.length ≤ 30 ∧ x.f4.length ≤ 30) ∧ w'.heap[g1]? = some (.cells #[.int .i64 V.tax, .slice m.A V.cs.length m.a, .slice m.B V.rs.length m.b] 29 (0, 0)) ∧ Below w.heap.size w w') (fun i => V.cs.length - i) 0 (E.subc rfl (E.subc rfl E.subn)) ⟨Nat.zero_le _, fun k hk => by omega, b1, L⟩ ?_
   rintro i w4 ⟨hi, hok, b1, L⟩
   refine E.cs (E.cs (E.cl (E.gm rfl rfl rfl (E.gr rfl (E.Runs.fieldAddr rfl rfl hu29 rfl (by assumption) rfl) ?_))))
   refine E.gr rfl (E.Runs.load1 rfl rfl hu26 rfl (by first | assumption | exact E.blkc (by assumption) rfl | exact pw_cell_below L (by assumption))) ?_
   refine E.gr rfl (E.Runs.len rfl rfl hu26) ?_
   refine E.GL.cmp rfl rfl rfl (fun _ h => (E.Runs.lss rfl rfl rfl h)) (fun h18 => ?_) (fun h18 => ?_)
   ·obtain ⟨x, hx⟩ := get_ex (show i < V.cs.length by omega)
    obtain ⟨ad, a3, k3, a4, k4, eA, hx0, X⟩ := con_at hM.cs hx
    refine E.gd (E.qc (E.CG.cond_t rfl (E.CG.skip (E.qc (E.cs (E.CG.block (E.cs (E.cl (E.gr rfl (E.Runs.fieldAddr rfl rfl hu29 rfl (by assumption) rfl) ?_)))))))))
    refine E.gr rfl (E.Runs.load1 rfl rfl hu26 rfl (by first | assumption | exact E.blkc (by assumption) rfl | exact pw_cell_below L (by assumption))) ?_
    refine E.gm rfl rfl rfl (E.gr rfl (E.Runs.indexAddrA (i := i) rfl rfl rfl hu26 z36 o36 (by omega) eA rfl) ?_)
    refine E.gr rfl (E.Runs.fieldAddr rfl rfl hu36 rfl (by assumption) rfl) ?_
    refine E.gr rfl (E.Runs.load1 rfl rfl hu22 rfl (pw_cell_below L (X 3 _ rfl))) ?_
    refine E.gr rfl (E.Runs.len rfl rfl hu22) ?_
    refine E.GL.cmp rfl rfl rfl (fun _ h => (E.Runs.gtr rfl rfl rfl h)) (fun h28 => ?_) (fun h28 => ?_)
    ·refine E.gm rfl rfl rfl (E.gk rfl (E.gk rfl (E.gk rfl (E.gk rfl (E.gk rfl (E.gk rfl (E.gk rfl (E.gk rfl (E.gt rfl rfl rfl rfl ?_)))))))))
     refine E.gd (E.qc (E.CG.cond_t rfl (E.cs (E.cl (E.ga rfl rfl rfl (E.gd (E.qc (E.CG.ret (E.QG.block_ret ?_)))))))))
     refine E.QG.pass_ret (E.QG.pass_ret (E.QG.block_ret (E.QG.pass_ret ?_)))
     exact E.QG.result rfl rfl ⟨true, rfl, (fun q => by cases q), L⟩
    ·refine E.gm rfl rfl rfl (E.gr rfl (E.Runs.fieldAddr rfl rfl hu29 rfl (by assumption) rfl) ?_)
     refine E.gr rfl (E.Runs.load1 rfl rfl hu26 rfl (by first | assumption | exact E.blkc (by assumption) rfl | exact pw_cell_below L (by assumption))) ?_
     refine E.gm rfl rfl rfl (E.gr rfl (E.Runs.indexAddrA (i := i) rfl rfl rfl hu26 z36 o36 (by omega) eA rfl) ?_)
     refine E.gr rfl (E.Runs.fieldAddr rfl rfl hu36 rfl (by assumption) rfl) ?_
     refine E.gr rfl (E.Runs.load1 rfl rfl hu34 rfl (pw_cell_below L (X 4 _ rfl))) ?_
     refine E.gr rfl (E.Runs.len rfl rfl hu34) ?_
     refine E.GL.cmp rfl rfl rfl (fun _ h => (E.Runs.gtr rfl rfl rfl h)) (fun h37 => ?_) (fun h37 => ?_)
     ·refine E.gr rfl (E.Runs.pick_f rfl rfl rfl) ?_
      refine E.gd (E.qc (E.CG.cond_t rfl (E.cs (E.cl (E.ga rfl rfl rfl (E.gd (E.qc (E.CG.ret (E.QG.block_ret ?_)))))))))
      refine E.QG.pass_ret (E.QG.pass_ret (E.QG.block_ret (E.QG.pass_ret ?_)))
      exact E.QG.result rfl rfl ⟨true, rfl, (fun q => by cases q), L⟩
     ·refine E.gr rfl (E.Runs.pick_f rfl rfl rfl) ?_
      refine E.gd (E.qc (E.CG.cond_f rfl (E.CG.skip (E.QG.block_normal (E.qc (E.cl (E.gm rfl rfl rfl (E.gr rfl (E.Runs.add rfl rfl rfl (IntWalk.i64_in _ (by omega))) ?_))))))))
      refine E.ga rfl rfl rfl (E.gd ?_)
      exact E.QG.round (i + 1) (E.subc rfl (E.subc rfl E.subn)) ⟨by omega, all_more hok hx ⟨by omega, by omega⟩, b1, L⟩ (by omega)
   ·have hal := all_done hok (show V.cs.length ≤ i by omega)
    refine E.gd (E.qc (E.CG.cond_f rfl (E.CG.exit (E.QG.pass_exit (E.QG.pass_exit (E.QG.block_here (E.qc (E.cs (E.cl ?_)))))))))
    refine E.ga rfl rfl rfl (E.gd (E.qc (E.CG.ret ?_)))
    exact E.QG.result rfl rfl ⟨false, rfl, (fun _ => ⟨by omega, fun x hx => by have := (hal x hx).1; omega, fun x hx => by have := (hal x hx).2; omega, by omega⟩), L⟩

set_option maxRecDepth 100000 in
theorem build36n (W : World) : (Instr.build 36 #[]).run Try.prog W = .ok (.agg #[.int .i64 0, .int .i64 0, .int .i64 0, .slice none 0 0, .slice none 0 0, .int .i64 0, .int .i64 0, .int .i64 0, .int .i64 0]) W := by
 have hu36 := Try.underlying36
 go_simp
set_option maxRecDepth 100000 in
set_option maxHeartbeats 8000000 in

theorem contract_law (V : Bk) (m : Ba) (film : Int) (w : World) (hM : BM w V m) :
  Calls Try.prog 4 #[bv V m, .int .i64 film] w fun e w' => ∃ (f0 f1 f2 : Int) (a : Option Addr) (n k : Nat) (b : Option Addr) (m' l : Nat) (f5 f6 f7 f8 : Int) (r : Bool), e = .returned (.tuple #[.agg #[.int .i64 f0, .int .i64 f1, .int .i64 f2, .slice a n k, .slice b m' l, .int .i64 f5, .int .i64 f6, .int .i64 f7, .int .i64 f8], .bool r]) ∧ (r = true → ∃ c ∈ V.cs, c.f0 = film ∧ c.f1 = f1 ∧ c.f2 = f2) ∧ Below w.heap.size w w' := by
 have hnn := hM.cs.2.1
 have hu3 := Try.underlying3
 have hu22 := Try.underlying22
 have hu26 := Try.underlying26
 have hu27 := Try.underlying27
 have hu29 := Try.underlying29
 have hu34 := Try.underlying34
 have hu36 := Try.underlying36
 obtain ⟨z3, o3⟩ := info_some info3s (by decide)
 obtain ⟨z22, o22⟩ := info_some info22s (by decide)
 obtain ⟨z26, o26⟩ := info_some info26s (by decide)
 obtain ⟨z27, o27⟩ := info_some info27s (by decide)
 obtain ⟨z34, o34⟩ := info_some info34s (by decide)
 obtain ⟨z36, o36⟩ := info_some info36s (by decide)
 refine E.enter (N := 28) Try.func4 rfl Try.ntmps4 (args := [bv V m, .int .i64 film]) (by simp) ?_
 have L := Below.refl w.heap.size w
 refine E.cs (E.cl ?_)
 refine E.GL.st rfl rfl rfl (E.ST.box rfl rfl fun g2 w2 e2 b2 l2 => ?_)
 have h2_L : w.heap.size ≤ g2 := by rw [e2]; exact L.size
 replace L := below_step L l2
 refine E.GL.st rfl rfl rfl (E.ST.alloc rfl info36z fun g4 w4 e4 b4 l4 => ?_)
 have h4_L : w.heap.size ≤ g4 := by rw [e4]; exact L.size
 have n4_b2 : g2 ≠ g4 := by have := blk_lt b2; omega
 replace b2 := blk_below b2 l4
 replace L := below_step L l4
 refine E.ga rfl rfl rfl (E.gd (E.qc (E.cs (E.cs (E.cl (E.ga rfl rfl rfl (E.gd (E.qc (E.CG.block ?_)))))))))
 have s2_b2 := b2
 have s2_b4 := b4
 have s2_L := L
 refine E.CG.loop (fun (i : Nat) => [(1, .int .i64 film), (2, .pointer (some ⟨g2, 0, none⟩)), (4, .pointer (some ⟨g4, 0, none⟩)), (6, .int .i64 i)]) (fun i w' => i ≤ V.cs.length ∧ w'.heap[g2]? = some (.cells #[.int .i64 V.tax, .slice m.A V.cs.length m.a, .slice m.B V.rs.length m.b] 29 (0, 0)) ∧ w'.heap[g4]? = some (.cells #[.int .i64 0, .int .i64 0, .int .i64 0, .slice none 0 0, .slice none 0 0, .int .i64 0, .int .i64 0, .int .i64 0, .int .i64 0] 36 (0, 0)) ∧ Below w.heap.size w w') (fun i => V.cs.length - i) 0 (E.subc rfl (E.subc rfl (E.subc rfl (E.subc rfl E.subn)))) ⟨Nat.zero_le _, b2, b4, L⟩ ?_
 rintro i w2 ⟨hi, b2, b4, L⟩
 refine E.cs (E.cs (E.cl (E.gm rfl rfl rfl (E.gr rfl (E.Runs.fieldAddr rfl rfl hu29 rfl (by assumption) rfl) ?_))))
 refine E.gr rfl (E.Runs.load1 rfl rfl hu26 rfl (by first | assumption | exact E.blkc (by assumption) rfl | exact pw_cell_below L (by assumption))) ?_
 refine E.gr rfl (E.Runs.len rfl rfl hu26) ?_
 refine E.GL.cmp rfl rfl rfl (fun _ h => (E.Runs.lss rfl rfl rfl h)) (fun h11 => ?_) (fun h11 => ?_)
 ·obtain ⟨x, hx⟩ := get_ex (show i < V.cs.length by omega)
  obtain ⟨ad, a3, k3, a4, k4, eA, hx0, X⟩ := con_at hM.cs hx
  refine E.gd (E.qc (E.CG.cond_t rfl (E.CG.skip (E.qc (E.cs (E.CG.block (E.cs (E.cl (E.gr rfl (E.Runs.fieldAddr rfl rfl hu29 rfl (by assumption) rfl) ?_)))))))))
  refine E.gr rfl (E.Runs.load1 rfl rfl hu26 rfl (by first | assumption | exact E.blkc (by assumption) rfl | exact pw_cell_below L (by assumption))) ?_
  refine E.gm rfl rfl rfl (E.gr rfl (E.Runs.indexAddrA (i := i) rfl rfl rfl hu26 z36 o36 (by omega) eA rfl) ?_)
  refine E.gr rfl (E.Runs.fieldAddr rfl rfl hu36 rfl (by assumption) rfl) ?_
  refine E.gr rfl (E.Runs.load rfl rfl hu3 (pw_cell_below L (X 0 _ rfl))) ?_
  refine E.gm rfl rfl rfl ?_
  refine E.GL.cmp rfl rfl rfl (fun _ h => (E.Runs.eql rfl rfl rfl h)) (fun h21 => ?_) (fun h21 => ?_)
  ·refine E.gd (E.qc (E.CG.cond_t rfl (E.cs (E.cl (E.gr rfl (E.Runs.fieldAddr rfl rfl hu29 rfl (by assumption) rfl) ?_)))))
   refine E.gr rfl (E.Runs.load1 rfl rfl hu26 rfl (by first | assumption | exact E.blkc (by assumption) rfl | exact pw_cell_below L (by assumption))) ?_
   refine E.gm rfl rfl rfl (E.gr rfl (E.Runs.indexAddrA (i := i) rfl rfl rfl hu26 z36 o36 (by omega) eA rfl) ?_)
   refine E.gr rfl (E.Runs.loads (cs := [.int .i64 x.f0, .int .i64 x.f1, .int .i64 x.f2, .slice a3 x.f3.length k3, .slice a4 x.f4.length k4, .int .i64 x.f5, .int .i64 x.f6, .int .i64 x.f7, .int .i64 x.f8]) rfl rfl hu36 rfl info36s (fun j v hv => pw_cell_below L (X j v hv))) ?_
   refine E.GL.store_whole rfl rfl rfl rfl rfl b4 rfl info36s (con_one _ _ _ _ _ _ _ _ _ _ _ _ _) fun wS5_5 c4 lS5_5 => ?_
   replace b2 := blk_grown b2 lS5_5 (E.nes (by first | assumption | exact Ne.symm (by assumption)))
   replace L := E.below_own L h4_L lS5_5
   replace b4 := c4
   clear c4
   refine E.ga rfl rfl rfl (E.gd (E.qc (E.CG.ret (E.QG.block_ret (E.QG.pass_ret (E.QG.pass_ret (E.QG.block_ret (E.QG.pass_ret ?_))))))))
   exact E.QG.result_ct rfl rfl b4 hu36 rfl info36s rfl ⟨_, _, _, _, _, _, _, _, _, _, _, _, _, true, rfl, (fun _ => ⟨x, mem_of hx, h21, rfl, rfl⟩), L⟩
  ·refine E.gd (E.qc (E.CG.cond_f rfl (E.CG.skip (E.QG.block_normal (E.qc (E.cl (E.gm rfl rfl rfl (E.gr rfl (E.Runs.add rfl rfl rfl (IntWalk.i64_in _ (by omega))) ?_))))))))
   refine E.ga rfl rfl rfl (E.gd ?_)
   exact E.QG.round (i + 1) (E.subc rfl (E.subc rfl (E.subc rfl (E.subc rfl E.subn)))) ⟨by omega, b2, b4, L⟩ (by omega)
 ·refine E.gd (E.qc (E.CG.cond_f rfl (E.CG.exit (E.QG.pass_exit (E.QG.pass_exit (E.QG.block_here (E.qc (E.cs (E.cl ?_)))))))))
  refine E.gr rfl (E.Runs.build rfl E.epn build36n) ?_
  refine E.GL.store_whole rfl rfl rfl rfl rfl b4 rfl info36s (con_one _ _ _ _ _ _ _ _ _ _ _ _ _) fun wS6_1 c4 lS6_1 => ?_
  replace b2 := blk_grown b2 lS6_1 (E.nes (by first | assumption | exact Ne.symm (by assumption)))
  replace L := E.below_own L h4_L lS6_1
  replace b4 := c4
  clear c4
  refine E.ga rfl rfl rfl (E.gd (E.qc (E.CG.ret ?_)))
  exact E.QG.result_ct rfl rfl b4 hu36 rfl info36s rfl ⟨_, _, _, _, _, _, _, _, _, _, _, _, _, false, rfl, (fun q => by cases q), L⟩

end Go.Proofs.Ytkjefnlhhfpllaa.T
namespace Go.Proofs.Ytkjefnlhhfpllaa.T
open Go.RowKit Go.Proofs.YtkjefnlhhfpllaaW.PrintWords Go.Proofs.YtkjefnlhhfpllaaW.PrintMore
open Go.Proofs.Ytkjefnlhhfpllaa.P
set_option linter.unusedVariables false
set_option linter.unusedSimpArgs false

set_option maxRecDepth 100000 in
theorem lit27_1 (x : S55) (W : World) : (Instr.buildSlice 27 1 #[(0, .agg #[.int .i64 x.f0, .int .i64 x.f1, .int .i64 x.f2, .int .i64 x.f3, .int .i64 x.f4, .int .i64 x.f5])]).run Try.prog W = .ok (.slice (some ⟨W.heap.size, 0, none⟩) 1 1) (W.alloc (.cells #[.int .i64 x.f0, .int .i64 x.f1, .int .i64 x.f2, .int .i64 x.f3, .int .i64 x.f4, .int .i64 x.f5] 55)) := by
 have hu3 := Try.underlying3
 have hu27 := Try.underlying27
 have hu55 := Try.underlying55
 go_simp
set_option maxRecDepth 100000 in
set_option maxHeartbeats 4000000 in
theorem lit27_4 (x y z u : S55) (W : World) : (Instr.buildSlice 27 4 #[(0, .agg #[.int .i64 x.f0, .int .i64 x.f1, .int .i64 x.f2, .int .i64 x.f3, .int .i64 x.f4, .int .i64 x.f5]), (1, .agg #[.int .i64 y.f0, .int .i64 y.f1, .int .i64 y.f2, .int .i64 y.f3, .int .i64 y.f4, .int .i64 y.f5]), (2, .agg #[.int .i64 z.f0, .int .i64 z.f1, .int .i64 z.f2, .int .i64 z.f3, .int .i64 z.f4, .int .i64 z.f5]), (3, .agg #[.int .i64 u.f0, .int .i64 u.f1, .int .i64 u.f2, .int .i64 u.f3, .int .i64 u.f4, .int .i64 u.f5])]).run Try.prog W = .ok (.slice (some ⟨W.heap.size, 0, none⟩) 4 4) (W.alloc (.cells (([x, y, z, u] : List S55).flatMap rC).toArray 55 (0, 0))) := by
 have hu3 := Try.underlying3
 have hu27 := Try.underlying27
 have hu55 := Try.underlying55
 go_simp
theorem tR_at {F W a b c p x : Int} {t0 t1 t2 : Int} {k : Nat} (h : [t0, t1, t2][k]? = some x) : (tR F W (p * t0) (p * t1) (p * t2))[k]? = some ⟨3 - (k : Int), 1, F, W, (k : Int), p * x⟩ := by
 match k, h with
 | 0, h => simp at h; subst h; rfl
 | 1, h => simp at h; subst h; rfl
 | 2, h => simp at h; subst h; rfl
 | k + 3, h => simp at h
theorem three_at {t0 t1 t2 : Int} {k : Nat} (h : k < 3) : ∃ x, [t0, t1, t2][k]? = some x ∧ (x = t0 ∨ x = t1 ∨ x = t2) := by
 match k, h with
 | 0, _ => exact ⟨t0, rfl, .inl rfl⟩
 | 1, _ => exact ⟨t1, rfl, .inr (.inl rfl)⟩
 | 2, _ => exact ⟨t2, rfl, .inr (.inr rfl)⟩
theorem sum_mul (p : Int) (a b c : Nat) : p * (a : Int) + p * (b : Int) + p * (c : Int) = p * ((a + b + c : Nat) : Int) := by
 rw [← Int.mul_add, ← Int.mul_add]
 congr 1
theorem week_g (tax : Int) (cs : List S36) (rs : List S55) (m : Ba) (c : S36) (w : World) (hM : BM w ⟨tax, cs, rs⟩ m) {rs0 : List S55} (ok : BOk ⟨tax, cs, rs0⟩) (rk : RsOk ⟨tax, cs, rs⟩) (hcap : cs.length ≤ m.a) (hc : c ∈ cs) (week : Int) (hw : inR week c.f1 c.f2) (G : Int) (hG : grossV rs c.f0 week = G) :
  Calls Try.prog 13 #[.agg #[.int .i64 tax, .slice m.A cs.length m.a, .slice m.B rs.length m.b], .int .i64 c.f0, .int .i64 week] w fun e w' => e = .returned (.tuple #[.agg #[.int .i64 (accV tax c week G).f0, .int .i64 (accV tax c week G).f1, .int .i64 (accV tax c week G).f2, .int .i64 (accV tax c week G).f3, .int .i64 (accV tax c week G).f4, .int .i64 (accV tax c week G).f5], .int .i64 0]) ∧ Below w.heap.size w w' := by
 rw [← hG]
 exact week_s ⟨tax, cs, rs⟩ m c w hM ⟨ok.tax, ok.n, ok.cs, ok.d⟩ rk hcap hc week hw
theorem row_at' {w : World} {g t : Nat} {l : List Int} (h : w.heap[g]? = some (.cells (rwC l).toArray t (0, 0))) {i : Nat} {x : Int} (hx : l[i]? = some x) : w.cell? ⟨g, i, none⟩ = some (.int .i64 x) := by
 rw [blk_cell h]
 simp [hx]
theorem row2 {w : World} {A : Option Addr} {n : Nat} {rows : List (List Int)} (h : Kd.C (Kd.slice 3 kI) w A n rows) {i : Nat} {l : List Int} (hl : rows[i]? = some l) : ∃ ad A0 c0, A = some ad ∧ w.cell? (ad.add (i * 1)) = some (.slice A0 l.length c0) ∧ Kd.C kI w A0 l.length l := by
 obtain ⟨ad, cs, e, hK, hc⟩ := el_at h hl
 obtain ⟨A0, c0, rfl, _, g0⟩ := hK
 exact ⟨ad, A0, c0, e, hc 0 _ rfl, g0⟩
set_option maxRecDepth 100000 in
set_option maxHeartbeats 8000000 in

theorem box_law (ns : List Int) (hold : Int) (A : Option Addr) (a : Nat) (l : List S64) (B : Option Addr) (b : Nat) (V : Bk) (m : Ba) (film week price minute : Int) (w : World) (hr : Kd.C kI w A ns.length ns) (hl : Kd.C k64 w B l.length l) (hM : BM w V m) (hcap : V.cs.length ≤ m.a) :
  Calls Try.prog 3 #[.agg #[.slice A ns.length a, .int .i64 hold], .slice B l.length b, .agg #[.int .i64 V.tax, .slice m.A V.cs.length m.a, .slice m.B V.rs.length m.b, .int .i64 film, .int .i64 week, .int .i64 price, .int .i64 minute]] w fun e w' => e = .returned (.bool true) ∧ Below w.heap.size w w' := by
 have hu3 := Try.underlying3
 have hu4 := Try.underlying4
 have hu22 := Try.underlying22
 have hu24 := Try.underlying24
 have hu25 := Try.underlying25
 have hu26 := Try.underlying26
 have hu27 := Try.underlying27
 have hu29 := Try.underlying29
 have hu31 := Try.underlying31
 have hu33 := Try.underlying33
 have hu36 := Try.underlying36
 have hu40 := Try.underlying40
 have hu45 := Try.underlying45
 have hu48 := Try.underlying48
 have hu50 := Try.underlying50
 have hu55 := Try.underlying55
 have hu57 := Try.underlying57
 obtain ⟨z3, o3⟩ := info_some info3s (by decide)
 obtain ⟨z22, o22⟩ := info_some info22s (by decide)
 obtain ⟨z24, o24⟩ := info_some info24s (by decide)
 obtain ⟨z26, o26⟩ := info_some info26s (by decide)
 obtain ⟨z27, o27⟩ := info_some info27s (by decide)
 obtain ⟨z29, o29⟩ := info_some info29s (by decide)
 obtain ⟨z31, o31⟩ := info_some info31s (by decide)
 obtain ⟨z36, o36⟩ := info_some info36s (by decide)
 obtain ⟨z50, o50⟩ := info_some info50s (by decide)
 obtain ⟨z55, o55⟩ := info_some info55s (by decide)
 obtain ⟨z57, o57⟩ := info_some info57s (by decide)
 refine E.enter (N := 304) Try.func3 rfl Try.ntmps3 (args := [.agg #[.slice A ns.length a, .int .i64 hold], .slice B l.length b, .agg #[.int .i64 V.tax, .slice m.A V.cs.length m.a, .slice m.B V.rs.length m.b, .int .i64 film, .int .i64 week, .int .i64 price, .int .i64 minute]]) (by simp) ?_
 have L := Below.refl w.heap.size w
 refine E.cs (E.cl ?_)
 refine E.GL.st rfl rfl rfl (E.ST.box rfl rfl fun g3 w3 e3 b3 l3 => ?_)
 have h3_L : w.heap.size ≤ g3 := by rw [e3]; exact L.size
 replace L := below_step L l3
 refine E.GL.st rfl rfl rfl (E.ST.box rfl rfl fun g5 w5 e5 b5 l5 => ?_)
 have h5_L : w.heap.size ≤ g5 := by rw [e5]; exact L.size
 have n5_b3 : g3 ≠ g5 := by have := blk_lt b3; omega
 replace b3 := blk_below b3 l5
 replace L := below_step L l5
 refine E.ga rfl rfl rfl (E.gd (E.qc (E.cs (E.CG.cut2 (fun (g7 : Nat) (g8 : Nat) => [(1, .slice B l.length b), (3, .pointer (some ⟨g3, 0, none⟩)), (7, .pointer (some ⟨g7, 0, none⟩)), (8, .pointer (some ⟨g8, 0, none⟩))]) (fun g7 g8 w' => w'.heap[g3]? = some (.cells #[.slice A ns.length a, .int .i64 hold] 24 (0, 0)) ∧ w'.heap[g7]? = some (.cells #[.int .i64 V.tax, .slice m.A V.cs.length m.a, .slice m.B V.rs.length m.b] 29 (0, 0)) ∧ w'.heap[g8]? = some (.cells #[.int .i64 film, .int .i64 week, .int .i64 price, .int .i64 minute] 31 (0, 0)) ∧ Below w.heap.size w w') ?_ ?_))))
 ·refine E.CG.heldH (none) (by kernel_rfl) fun v1 lD hh => ?_
  replace b3 := blk_below b3 lD
  replace b5 := blk_below b5 lD
  replace L := below_step L lD
  clear lD
  have s_b3 := b3
  have s_b5 := b5
  have s_L := L
  refine E.GH.take (i := 0) rfl (by kernel_rfl) (by kernel_rfl) (by kernel_rfl) E.calm_cut2 rfl rfl rfl (fun w' hS => (E.Runs.fieldAddr rfl rfl hu33 rfl (by assumption) rfl)) ?_
  refine E.GH.take (i := 1) rfl (by kernel_rfl) (by kernel_rfl) (by kernel_rfl) E.calm_cut2 rfl rfl rfl (fun w' hS => (E.Runs.loads (cs := [.int .i64 V.tax, .slice m.A V.cs.length m.a, .slice m.B V.rs.length m.b]) rfl rfl hu29 rfl info29s (fun j v hv => blk_cells (blk_grown s_b5 hS E.nen) j v (cut4 (m := [.int .i64 film, .int .i64 week, .int .i64 price, .int .i64 minute]) hv)))) ?_
  refine E.GH.take (i := 2) rfl (by kernel_rfl) (by kernel_rfl) (by kernel_rfl) E.calm_cut2 rfl rfl rfl (fun w' hS => (E.Runs.fieldAddr rfl rfl hu33 rfl (by assumption) rfl)) ?_
  refine E.GH.take (i := 3) rfl (by kernel_rfl) (by kernel_rfl) (by kernel_rfl) E.calm_cut2 rfl rfl rfl (fun w' hS => (E.Runs.loads (cs := [.int .i64 film, .int .i64 week, .int .i64 price, .int .i64 minute]) rfl rfl hu31 rfl info31s (E.blks (blk_grown s_b5 hS E.nen) 3 rfl))) ?_
  refine E.GH.all (rs := [4, 5]) (by kernel_rfl) (by simp) (E.GHs.cons rfl ?_ (E.GHs.cons rfl ?_ E.GHs.nil))
  ·refine E.GO.st rfl rfl rfl (E.ST.alloc rfl info29z fun g7 w7 e7 b7 l7 => ⟨hh.trans (E.gbB l7), ?_⟩)
   have hh0 := hh
   replace hh := hh.trans (E.gbB l7)
   have h7_hh : v1.heap.size ≤ g7 := by rw [e7]; exact hh0.size
   have h7_L : w.heap.size ≤ g7 := by rw [e7]; exact L.size
   have n7_b3 : g3 ≠ g7 := by have := blk_lt b3; omega
   have n7_b5 : g5 ≠ g7 := by have := blk_lt b5; omega
   clear hh0
   replace b3 := blk_below b3 l7
   replace b5 := blk_below b5 l7
   replace L := below_step L l7
   refine E.GH.one (i := 5) (by kernel_rfl) rfl ?_
   refine E.GO.st rfl rfl rfl (E.ST.alloc rfl info31z fun g8 w8 e8 b8 l8 => ⟨hh.trans (E.gbB l8), ?_⟩)
   have hh0 := hh
   replace hh := hh.trans (E.gbB l8)
   have h8_hh : v1.heap.size ≤ g8 := by rw [e8]; exact hh0.size
   have h8_L : w.heap.size ≤ g8 := by rw [e8]; exact L.size
   have n8_b3 : g3 ≠ g8 := by have := blk_lt b3; omega
   have n8_b5 : g5 ≠ g8 := by have := blk_lt b5; omega
   have n8_b7 : g7 ≠ g8 := by have := blk_lt b7; omega
   clear hh0
   replace b3 := blk_below b3 l8
   replace b5 := blk_below b5 l8
   replace b7 := blk_below b7 l8
   replace L := below_step L l8
   refine E.GH.one (i := 6) (by kernel_rfl) rfl ?_
   refine E.GO.sn rfl rfl (E.ST.storeS (off := 0) (cells := [.int .i64 V.tax, .slice m.A V.cs.length m.a, .slice m.B V.rs.length m.b]) rfl rfl rfl b7 rfl info29s (books_one _ _ _ _ _ _ _) rfl fun wS1_6 c7 lS1_6 => ⟨E.gb_own hh h7_hh lS1_6, ?_⟩)
   replace hh := E.gb_own hh h7_hh lS1_6
   replace b3 := blk_grown b3 lS1_6 (E.nes (by first | assumption | exact Ne.symm (by assumption)))
   replace b5 := blk_grown b5 lS1_6 (E.nes (by first | assumption | exact Ne.symm (by assumption)))
   replace b8 := blk_grown b8 lS1_6 (E.nes (by first | assumption | exact Ne.symm (by assumption)))
   replace L := E.below_own L h7_L lS1_6
   replace b7 := c7
   clear c7
   refine E.GH.one (i := 7) (by kernel_rfl) rfl ?_
   refine E.GO.sn rfl rfl (E.ST.storeS (off := 0) (cells := [.int .i64 film, .int .i64 week, .int .i64 price, .int .i64 minute]) rfl rfl rfl b8 rfl info31s (four_one _ _ _ _) rfl fun wS1_7 c8 lS1_7 => ⟨E.gb_own hh h8_hh lS1_7, ?_⟩)
   replace hh := E.gb_own hh h8_hh lS1_7
   replace b3 := blk_grown b3 lS1_7 (E.nes (by first | assumption | exact Ne.symm (by assumption)))
   replace b5 := blk_grown b5 lS1_7 (E.nes (by first | assumption | exact Ne.symm (by assumption)))
   replace b7 := blk_grown b7 lS1_7 (E.nes (by first | assumption | exact Ne.symm (by assumption)))
   replace L := E.below_own L h8_L lS1_7
   replace b8 := c8
   clear c8
   refine E.GH.done (by kernel_rfl) ?_
   exact E.QG.meet2 _ _ (E.subc rfl (E.subc rfl (E.subc rfl (E.subc rfl (E.subn))))) ⟨b3, b7, b8, L⟩
  ·refine E.GO.st rfl rfl rfl (E.ST.alloc rfl info31z fun g8 w8 e8 b8 l8 => ⟨hh.trans (E.gbB l8), ?_⟩)
   have hh0 := hh
   replace hh := hh.trans (E.gbB l8)
   have h8_hh : v1.heap.size ≤ g8 := by rw [e8]; exact hh0.size
   have h8_L : w.heap.size ≤ g8 := by rw [e8]; exact L.size
   have n8_b3 : g3 ≠ g8 := by have := blk_lt b3; omega
   have n8_b5 : g5 ≠ g8 := by have := blk_lt b5; omega
   clear hh0
   replace b3 := blk_below b3 l8
   replace b5 := blk_below b5 l8
   replace L := below_step L l8
   refine E.GH.one (i := 4) (by kernel_rfl) rfl ?_
   refine E.GO.st rfl rfl rfl (E.ST.alloc rfl info29z fun g7 w7 e7 b7 l7 => ⟨hh.trans (E.gbB l7), ?_⟩)
   have hh0 := hh
   replace hh := hh.trans (E.gbB l7)
   have h7_hh : v1.heap.size ≤ g7 := by rw [e7]; exact hh0.size
   have h7_L : w.heap.size ≤ g7 := by rw [e7]; exact L.size
   have n7_b3 : g3 ≠ g7 := by have := blk_lt b3; omega
   have n7_b5 : g5 ≠ g7 := by have := blk_lt b5; omega
   have n7_b8 : g8 ≠ g7 := by have := blk_lt b8; omega
   clear hh0
   replace b3 := blk_below b3 l7
   replace b5 := blk_below b5 l7
   replace b8 := blk_below b8 l7
   replace L := below_step L l7
   refine E.GH.one (i := 6) (by kernel_rfl) rfl ?_
   refine E.GO.sn rfl rfl (E.ST.storeS (off := 0) (cells := [.int .i64 V.tax, .slice m.A V.cs.length m.a, .slice m.B V.rs.length m.b]) rfl rfl rfl b7 rfl info29s (books_one _ _ _ _ _ _ _) rfl fun wS1_6 c7 lS1_6 => ⟨E.gb_own hh h7_hh lS1_6, ?_⟩)
   replace hh := E.gb_own hh h7_hh lS1_6
   replace b3 := blk_grown b3 lS1_6 (E.nes (by first | assumption | exact Ne.symm (by assumption)))
   replace b5 := blk_grown b5 lS1_6 (E.nes (by first | assumption | exact Ne.symm (by assumption)))
   replace b8 := blk_grown b8 lS1_6 (E.nes (by first | assumption | exact Ne.symm (by assumption)))
   replace L := E.below_own L h7_L lS1_6
   replace b7 := c7
   clear c7
   refine E.GH.one (i := 7) (by kernel_rfl) rfl ?_
   refine E.GO.sn rfl rfl (E.ST.storeS (off := 0) (cells := [.int .i64 film, .int .i64 week, .int .i64 price, .int .i64 minute]) rfl rfl rfl b8 rfl info31s (four_one _ _ _ _) rfl fun wS1_7 c8 lS1_7 => ⟨E.gb_own hh h8_hh lS1_7, ?_⟩)
   replace hh := E.gb_own hh h8_hh lS1_7
   replace b3 := blk_grown b3 lS1_7 (E.nes (by first | assumption | exact Ne.symm (by assumption)))
   replace b5 := blk_grown b5 lS1_7 (E.nes (by first | assumption | exact Ne.symm (by assumption)))
   replace b7 := blk_grown b7 lS1_7 (E.nes (by first | assumption | exact Ne.symm (by assumption)))
   replace L := E.below_own L h8_L lS1_7
   replace b8 := c8
   clear c8
   refine E.GH.done (by kernel_rfl) ?_
   exact E.QG.meet2 _ _ (E.subc rfl (E.subc rfl (E.subc rfl (E.subc rfl (E.subn))))) ⟨b3, b7, b8, L⟩
 intro g7 g8 w1 ⟨b3, b7, b8, L⟩
 refine E.qc (E.cs (E.cl (E.gr rfl (E.Runs.loads (cs := [.int .i64 V.tax, .slice m.A V.cs.length m.a, .slice m.B V.rs.length m.b]) rfl rfl hu29 rfl info29s (blk_cells b7)) ?_)))
 refine E.gr rfl (E.Runs.fieldAddr rfl rfl hu31 rfl (by assumption) rfl) ?_
 refine E.gr rfl (E.Runs.load rfl rfl hu3 (by first | assumption | exact E.blkc (by assumption) rfl | exact pw_cell_below L (by assumption))) ?_
 refine E.GL.st rfl rfl rfl (E.ST.call rfl ent4 (E.evc rfl (E.evc rfl E.evn)) ((contract_law V m film _ (hM.below L)).mono ?_))
 rintro e w37 ⟨f0, f1, f2, ca, cn, ck, cb, cm, cl, f5, f6, f7, f8, r37, rfl, hcon, l37⟩
 refine ⟨_, rfl, ?_⟩
 replace b3 := blk_below b3 l37
 replace b7 := blk_below b7 l37
 replace b8 := blk_below b8 l37
 replace L := below_step L l37
 refine E.gm rfl rfl rfl (E.gr rfl (E.Runs.extract rfl rfl rfl) ?_)
 refine E.gr rfl (E.Runs.extract rfl rfl rfl) ?_
 refine E.GL.st rfl rfl rfl (E.ST.alloc rfl info36z fun g9 w9 e9 b9 l9 => ?_)
 have h9_L : w.heap.size ≤ g9 := by rw [e9]; exact L.size
 have n9_b3 : g3 ≠ g9 := by have := blk_lt b3; omega
 have n9_b7 : g7 ≠ g9 := by have := blk_lt b7; omega
 have n9_b8 : g8 ≠ g9 := by have := blk_lt b8; omega
 replace b3 := blk_below b3 l9
 replace b7 := blk_below b7 l9
 replace b8 := blk_below b8 l9
 replace L := below_step L l9
 refine E.GL.store_whole rfl rfl rfl rfl rfl b9 rfl info36s (con_one _ _ _ _ _ _ _ _ _ _ _ _ _) fun wS2_8 c9 lS2_8 => ?_
 replace b3 := blk_grown b3 lS2_8 (E.nes (by first | assumption | exact Ne.symm (by assumption)))
 replace b7 := blk_grown b7 lS2_8 (E.nes (by first | assumption | exact Ne.symm (by assumption)))
 replace b8 := blk_grown b8 lS2_8 (E.nes (by first | assumption | exact Ne.symm (by assumption)))
 replace L := E.below_own L h9_L lS2_8
 replace b9 := c9
 clear c9
 refine E.ga rfl rfl rfl (E.gd (E.qc (E.cs (E.cs (E.cl (E.gr rfl (E.Runs.loads (cs := [.slice A ns.length a, .int .i64 hold]) rfl rfl hu24 rfl info24s (blk_cells b3)) ?_))))))
 refine E.gm rfl rfl rfl ?_
 refine E.GL.st rfl rfl rfl (E.ST.call rfl ent5 (E.evc rfl (E.evc rfl E.evn)) ((far4_law ns hold A a l.length B b _).mono ?_))
 rintro e w42 ⟨r42, rfl, hfar, l42⟩
 refine ⟨_, rfl, ?_⟩
 replace b3 := blk_below b3 l42
 replace b7 := blk_below b7 l42
 replace b8 := blk_below b8 l42
 replace b9 := blk_below b9 l42
 replace L := below_step L l42
 rcases r42 with _ | _
 ·have hn30 := hfar rfl
  refine E.gm rfl rfl rfl (E.gr rfl (E.Runs.loads (cs := [.slice A ns.length a, .int .i64 hold]) rfl rfl hu24 rfl info24s (blk_cells b3)) ?_)
  refine E.gm rfl rfl rfl ?_
  refine E.GL.st rfl rfl rfl (E.ST.call rfl ent6 (E.evc rfl (E.evc rfl E.evn)) ((check4_r ns hold A a _ (Kd.C_below hr L) (by omega) l B b (Kd.C_below hl L)).mono ?_))
  rintro e w46 ⟨r46, rfl, hck4, l46⟩
  refine ⟨_, rfl, ?_⟩
  replace b3 := blk_below b3 l46
  replace b7 := blk_below b7 l46
  replace b8 := blk_below b8 l46
  replace b9 := blk_below b9 l46
  replace L := below_step L l46
  refine E.GL.cmpn rfl rfl rfl (fun _ h => (E.Runs.neq rfl rfl rfl h)) (fun h47 => ?_) (fun h47 => ?_)
  ·refine E.gr rfl (E.Runs.pick_f rfl rfl rfl) ?_
   refine E.gm rfl rfl rfl (E.gk rfl (E.gk rfl (E.gt rfl rfl rfl rfl (E.gm rfl rfl rfl (E.gk rfl (E.gk rfl (E.gk rfl (E.gt rfl rfl rfl rfl (E.gm rfl rfl rfl ?_)))))))))
   refine E.gk rfl (E.gk rfl (E.gt rfl rfl rfl rfl (E.gm rfl rfl rfl (E.gk rfl (E.gk rfl (E.gk rfl (E.gk rfl (E.gk rfl (E.gt rfl rfl rfl rfl ?_)))))))))
   refine E.gm rfl rfl rfl (E.gk rfl (E.gk rfl (E.gk rfl (E.gk rfl (E.gk rfl (E.gt rfl rfl rfl rfl (E.gm rfl rfl rfl (E.gk rfl (E.gk rfl ?_)))))))))
   refine E.gk rfl (E.gt rfl rfl rfl rfl (E.gm rfl rfl rfl (E.gk rfl (E.gk rfl (E.gk rfl (E.gt rfl rfl rfl rfl (E.gm rfl rfl rfl (E.gk rfl (E.gk rfl ?_)))))))))
   refine E.gk rfl (E.gt rfl rfl rfl rfl (E.gm rfl rfl rfl (E.gk rfl (E.gk rfl (E.gk rfl (E.gt rfl rfl rfl rfl (E.gd (E.qc (E.CG.cond_t rfl ?_)))))))))
   refine E.cs (E.cl ?_)
   refine E.GL.st rfl rfl rfl (E.ST.call rfl ent9 E.evn ((boxed9 _).mono ?_))
   rintro e w96 ⟨rfl, l96⟩
   refine ⟨_, rfl, ?_⟩
   replace b3 := blk_below b3 l96
   replace b7 := blk_below b7 l96
   replace b8 := blk_below b8 l96
   replace b9 := blk_below b9 l96
   replace L := below_step L l96
   refine E.ga rfl rfl rfl (E.gd (E.qc (E.CG.ret (E.QG.pass_ret ?_))))
   exact E.QG.result rfl rfl ⟨rfl, L⟩
  ·obtain ⟨ok, lk⟩ := hck4 (by simpa using h47)
   refine E.gr rfl (E.Runs.pick_f rfl rfl rfl) ?_
   refine E.gm rfl rfl rfl (E.gr rfl (E.Runs.loads (cs := [.int .i64 V.tax, .slice m.A V.cs.length m.a, .slice m.B V.rs.length m.b]) rfl rfl hu29 rfl info29s (blk_cells b7)) ?_)
   refine E.GL.st rfl rfl rfl (E.ST.call rfl ent7 (E.evc rfl E.evn) ((far8_law V m _ (hM.below L)).mono ?_))
   rintro e w51 ⟨r51, rfl, hf8, l51⟩
   refine ⟨_, rfl, ?_⟩
   replace b3 := blk_below b3 l51
   replace b7 := blk_below b7 l51
   replace b8 := blk_below b8 l51
   replace b9 := blk_below b9 l51
   replace L := below_step L l51
   rcases r51 with _ | _
   ·have hs := hf8 rfl
    refine E.gr rfl (E.Runs.pick_f rfl rfl rfl) ?_
    refine E.gm rfl rfl rfl (E.gr rfl (E.Runs.loads (cs := [.int .i64 V.tax, .slice m.A V.cs.length m.a, .slice m.B V.rs.length m.b]) rfl rfl hu29 rfl info29s (blk_cells b7)) ?_)
    refine E.GL.st rfl rfl rfl (E.ST.call rfl ent8 (E.evc rfl E.evn) ((check8_r V m _ (hM.below L) hs).mono ?_))
    rintro e w55 ⟨r55, rfl, hck8, l55⟩
    refine ⟨_, rfl, ?_⟩
    replace b3 := blk_below b3 l55
    replace b7 := blk_below b7 l55
    replace b8 := blk_below b8 l55
    replace b9 := blk_below b9 l55
    replace L := below_step L l55
    refine E.GL.cmpn rfl rfl rfl (fun _ h => (E.Runs.neq rfl rfl rfl h)) (fun h56 => ?_) (fun h56 => ?_)
    ·refine E.gr rfl (E.Runs.pick_f rfl rfl rfl) ?_
     refine E.gm rfl rfl rfl (E.gk rfl (E.gk rfl (E.gt rfl rfl rfl rfl (E.gm rfl rfl rfl (E.gk rfl (E.gk rfl (E.gk rfl (E.gk rfl (E.gk rfl ?_)))))))))
     refine E.gt rfl rfl rfl rfl (E.gm rfl rfl rfl (E.gk rfl (E.gk rfl (E.gk rfl (E.gk rfl (E.gk rfl (E.gt rfl rfl rfl rfl (E.gm rfl rfl rfl (E.gk rfl ?_)))))))))
     refine E.gk rfl (E.gk rfl (E.gt rfl rfl rfl rfl (E.gm rfl rfl rfl (E.gk rfl (E.gk rfl (E.gk rfl (E.gt rfl rfl rfl rfl (E.gm rfl rfl rfl (E.gk rfl ?_)))))))))
     refine E.gk rfl (E.gk rfl (E.gt rfl rfl rfl rfl (E.gm rfl rfl rfl (E.gk rfl (E.gk rfl (E.gk rfl (E.gt rfl rfl rfl rfl (E.gd (E.qc ?_)))))))))
     refine E.CG.cond_t rfl (E.cs (E.cl ?_))
     refine E.GL.st rfl rfl rfl (E.ST.call rfl ent9 E.evn ((boxed9 _).mono ?_))
     rintro e w96 ⟨rfl, l96⟩
     refine ⟨_, rfl, ?_⟩
     replace b3 := blk_below b3 l96
     replace b7 := blk_below b7 l96
     replace b8 := blk_below b8 l96
     replace b9 := blk_below b9 l96
     replace L := below_step L l96
     refine E.ga rfl rfl rfl (E.gd (E.qc (E.CG.ret (E.QG.pass_ret ?_))))
     exact E.QG.result rfl rfl ⟨rfl, L⟩
    ·have bok := hck8 (by simpa using h56)
     refine E.gr rfl (E.Runs.pick_f rfl rfl rfl) ?_
     refine E.gm rfl rfl rfl ?_
     rcases r37 with _ | _
     ·refine E.gm rfl rfl rfl (E.gr rfl (E.Runs.not rfl rfl) ?_)
      refine E.gr rfl (E.Runs.pick_f rfl rfl rfl) ?_
      refine E.gm rfl rfl rfl (E.gk rfl (E.gk rfl (E.gk rfl (E.gk rfl (E.gk rfl (E.gt rfl rfl rfl rfl (E.gm rfl rfl rfl (E.gk rfl (E.gk rfl ?_)))))))))
      refine E.gk rfl (E.gk rfl (E.gk rfl (E.gt rfl rfl rfl rfl (E.gm rfl rfl rfl (E.gk rfl (E.gk rfl (E.gk rfl (E.gt rfl rfl rfl rfl (E.gm rfl rfl rfl ?_)))))))))
      refine E.gk rfl (E.gk rfl (E.gk rfl (E.gt rfl rfl rfl rfl (E.gm rfl rfl rfl (E.gk rfl (E.gk rfl (E.gk rfl (E.gt rfl rfl rfl rfl (E.gm rfl rfl rfl ?_)))))))))
      refine E.gk rfl (E.gk rfl (E.gk rfl (E.gt rfl rfl rfl rfl (E.gd (E.qc (E.CG.cond_t rfl (E.cs (E.cl ?_))))))))
      refine E.GL.st rfl rfl rfl (E.ST.call rfl ent9 E.evn ((boxed9 _).mono ?_))
      rintro e w96 ⟨rfl, l96⟩
      refine ⟨_, rfl, ?_⟩
      replace b3 := blk_below b3 l96
      replace b7 := blk_below b7 l96
      replace b8 := blk_below b8 l96
      replace b9 := blk_below b9 l96
      replace L := below_step L l96
      refine E.ga rfl rfl rfl (E.gd (E.qc (E.CG.ret (E.QG.pass_ret ?_))))
      exact E.QG.result rfl rfl ⟨rfl, L⟩
     ·obtain ⟨c, hcm, hcf, rfl, rfl⟩ := hcon rfl
      refine E.gm rfl rfl rfl (E.gr rfl (E.Runs.not rfl rfl) ?_)
      refine E.gr rfl (E.Runs.pick_f rfl rfl rfl) ?_
      refine E.gm rfl rfl rfl (E.gr rfl (E.Runs.fieldAddr rfl rfl hu31 rfl (by assumption) rfl) ?_)
      refine E.gr rfl (E.Runs.load rfl rfl hu3 (by first | assumption | exact E.blkc (by assumption) rfl | exact pw_cell_below L (by assumption))) ?_
      refine E.gr rfl (E.Runs.fieldAddr rfl rfl hu36 rfl (by assumption) rfl) ?_
      refine E.gr rfl (E.Runs.load rfl rfl hu3 (by first | assumption | exact E.blkc (by assumption) rfl | exact pw_cell_below L (by assumption))) ?_
      refine E.GL.cmp rfl rfl rfl (fun _ h => (E.Runs.lss rfl rfl rfl h)) (fun h67 => ?_) (fun h67 => ?_)
      ·refine E.gr rfl (E.Runs.pick_f rfl rfl rfl) ?_
       refine E.gm rfl rfl rfl (E.gk rfl (E.gk rfl (E.gk rfl (E.gk rfl (E.gk rfl (E.gt rfl rfl rfl rfl (E.gm rfl rfl rfl (E.gk rfl (E.gk rfl ?_)))))))))
       refine E.gk rfl (E.gt rfl rfl rfl rfl (E.gm rfl rfl rfl (E.gk rfl (E.gk rfl (E.gk rfl (E.gt rfl rfl rfl rfl (E.gm rfl rfl rfl (E.gk rfl (E.gk rfl ?_)))))))))
       refine E.gk rfl (E.gt rfl rfl rfl rfl (E.gm rfl rfl rfl (E.gk rfl (E.gk rfl (E.gk rfl (E.gt rfl rfl rfl rfl (E.gd (E.qc (E.CG.cond_t rfl ?_)))))))))
       refine E.cs (E.cl ?_)
       refine E.GL.st rfl rfl rfl (E.ST.call rfl ent9 E.evn ((boxed9 _).mono ?_))
       rintro e w96 ⟨rfl, l96⟩
       refine ⟨_, rfl, ?_⟩
       replace b3 := blk_below b3 l96
       replace b7 := blk_below b7 l96
       replace b8 := blk_below b8 l96
       replace b9 := blk_below b9 l96
       replace L := below_step L l96
       refine E.ga rfl rfl rfl (E.gd (E.qc (E.CG.ret (E.QG.pass_ret ?_))))
       exact E.QG.result rfl rfl ⟨rfl, L⟩
      ·refine E.gr rfl (E.Runs.pick_f rfl rfl rfl) ?_
       refine E.gm rfl rfl rfl (E.gr rfl (E.Runs.fieldAddr rfl rfl hu31 rfl (by assumption) rfl) ?_)
       refine E.gr rfl (E.Runs.load rfl rfl hu3 (by first | assumption | exact E.blkc (by assumption) rfl | exact pw_cell_below L (by assumption))) ?_
       refine E.gr rfl (E.Runs.fieldAddr rfl rfl hu36 rfl (by assumption) rfl) ?_
       refine E.gr rfl (E.Runs.load rfl rfl hu3 (by first | assumption | exact E.blkc (by assumption) rfl | exact pw_cell_below L (by assumption))) ?_
       refine E.GL.cmp rfl rfl rfl (fun _ h => (E.Runs.gtr rfl rfl rfl h)) (fun h74 => ?_) (fun h74 => ?_)
       ·refine E.gr rfl (E.Runs.pick_f rfl rfl rfl) ?_
        refine E.gm rfl rfl rfl (E.gk rfl (E.gk rfl (E.gk rfl (E.gt rfl rfl rfl rfl (E.gm rfl rfl rfl (E.gk rfl (E.gk rfl (E.gk rfl (E.gt rfl rfl rfl rfl ?_)))))))))
        refine E.gm rfl rfl rfl (E.gk rfl (E.gk rfl (E.gk rfl (E.gt rfl rfl rfl rfl (E.gm rfl rfl rfl (E.gk rfl (E.gk rfl (E.gk rfl (E.gt rfl rfl rfl rfl ?_)))))))))
        refine E.gd (E.qc (E.CG.cond_t rfl (E.cs (E.cl ?_))))
        refine E.GL.st rfl rfl rfl (E.ST.call rfl ent9 E.evn ((boxed9 _).mono ?_))
        rintro e w96 ⟨rfl, l96⟩
        refine ⟨_, rfl, ?_⟩
        replace b3 := blk_below b3 l96
        replace b7 := blk_below b7 l96
        replace b8 := blk_below b8 l96
        replace b9 := blk_below b9 l96
        replace L := below_step L l96
        refine E.ga rfl rfl rfl (E.gd (E.qc (E.CG.ret (E.QG.pass_ret ?_))))
        exact E.QG.result rfl rfl ⟨rfl, L⟩
       ·refine E.gr rfl (E.Runs.pick_f rfl rfl rfl) ?_
        refine E.gm rfl rfl rfl (E.gr rfl (E.Runs.fieldAddr rfl rfl hu31 rfl (by assumption) rfl) ?_)
        refine E.gr rfl (E.Runs.load rfl rfl hu3 (by first | assumption | exact E.blkc (by assumption) rfl | exact pw_cell_below L (by assumption))) ?_
        refine E.GL.cmp rfl rfl rfl (fun _ h => (E.Runs.lss rfl rfl rfl h)) (fun h79 => ?_) (fun h79 => ?_)
        ·refine E.gr rfl (E.Runs.pick_f rfl rfl rfl) ?_
         refine E.gm rfl rfl rfl (E.gk rfl (E.gk rfl (E.gk rfl (E.gt rfl rfl rfl rfl (E.gm rfl rfl rfl (E.gk rfl (E.gk rfl (E.gk rfl (E.gt rfl rfl rfl rfl ?_)))))))))
         refine E.gm rfl rfl rfl (E.gk rfl (E.gk rfl (E.gk rfl (E.gt rfl rfl rfl rfl (E.gd (E.qc (E.CG.cond_t rfl (E.cs (E.cl ?_)))))))))
         refine E.GL.st rfl rfl rfl (E.ST.call rfl ent9 E.evn ((boxed9 _).mono ?_))
         rintro e w96 ⟨rfl, l96⟩
         refine ⟨_, rfl, ?_⟩
         replace b3 := blk_below b3 l96
         replace b7 := blk_below b7 l96
         replace b8 := blk_below b8 l96
         replace b9 := blk_below b9 l96
         replace L := below_step L l96
         refine E.ga rfl rfl rfl (E.gd (E.qc (E.CG.ret (E.QG.pass_ret ?_))))
         exact E.QG.result rfl rfl ⟨rfl, L⟩
        ·refine E.gr rfl (E.Runs.pick_f rfl rfl rfl) ?_
         refine E.gm rfl rfl rfl (E.gr rfl (E.Runs.fieldAddr rfl rfl hu31 rfl (by assumption) rfl) ?_)
         refine E.gr rfl (E.Runs.load rfl rfl hu3 (by first | assumption | exact E.blkc (by assumption) rfl | exact pw_cell_below L (by assumption))) ?_
         refine E.GL.cmp rfl rfl rfl (fun _ h => (E.Runs.gtr rfl rfl rfl h)) (fun h84 => ?_) (fun h84 => ?_)
         ·refine E.gr rfl (E.Runs.pick_f rfl rfl rfl) ?_
          refine E.gm rfl rfl rfl (E.gk rfl (E.gk rfl (E.gk rfl (E.gt rfl rfl rfl rfl (E.gm rfl rfl rfl (E.gk rfl (E.gk rfl (E.gk rfl (E.gt rfl rfl rfl rfl ?_)))))))))
          refine E.gd (E.qc (E.CG.cond_t rfl (E.cs (E.cl ?_))))
          refine E.GL.st rfl rfl rfl (E.ST.call rfl ent9 E.evn ((boxed9 _).mono ?_))
          rintro e w96 ⟨rfl, l96⟩
          refine ⟨_, rfl, ?_⟩
          replace b3 := blk_below b3 l96
          replace b7 := blk_below b7 l96
          replace b8 := blk_below b8 l96
          replace b9 := blk_below b9 l96
          replace L := below_step L l96
          refine E.ga rfl rfl rfl (E.gd (E.qc (E.CG.ret (E.QG.pass_ret ?_))))
          exact E.QG.result rfl rfl ⟨rfl, L⟩
         ·refine E.gr rfl (E.Runs.pick_f rfl rfl rfl) ?_
          refine E.gm rfl rfl rfl (E.gr rfl (E.Runs.fieldAddr rfl rfl hu31 rfl (by assumption) rfl) ?_)
          refine E.gr rfl (E.Runs.load rfl rfl hu3 (by first | assumption | exact E.blkc (by assumption) rfl | exact pw_cell_below L (by assumption))) ?_
          refine E.GL.cmp rfl rfl rfl (fun _ h => (E.Runs.lss rfl rfl rfl h)) (fun h89 => ?_) (fun h89 => ?_)
          ·refine E.gr rfl (E.Runs.pick_f rfl rfl rfl) ?_
           refine E.gm rfl rfl rfl (E.gk rfl (E.gk rfl (E.gk rfl (E.gt rfl rfl rfl rfl (E.gd (E.qc (E.CG.cond_t rfl (E.cs (E.cl ?_)))))))))
           refine E.GL.st rfl rfl rfl (E.ST.call rfl ent9 E.evn ((boxed9 _).mono ?_))
           rintro e w96 ⟨rfl, l96⟩
           refine ⟨_, rfl, ?_⟩
           replace b3 := blk_below b3 l96
           replace b7 := blk_below b7 l96
           replace b8 := blk_below b8 l96
           replace b9 := blk_below b9 l96
           replace L := below_step L l96
           refine E.ga rfl rfl rfl (E.gd (E.qc (E.CG.ret (E.QG.pass_ret ?_))))
           exact E.QG.result rfl rfl ⟨rfl, L⟩
          ·refine E.gr rfl (E.Runs.pick_f rfl rfl rfl) ?_
           refine E.gm rfl rfl rfl (E.gr rfl (E.Runs.fieldAddr rfl rfl hu31 rfl (by assumption) rfl) ?_)
           refine E.gr rfl (E.Runs.load rfl rfl hu3 (by first | assumption | exact E.blkc (by assumption) rfl | exact pw_cell_below L (by assumption))) ?_
           refine E.GL.cmp rfl rfl rfl (fun _ h => (E.Runs.gtr rfl rfl rfl h)) (fun h94 => ?_) (fun h94 => ?_)
           ·refine E.gr rfl (E.Runs.pick_f rfl rfl rfl) ?_
            refine E.gd (E.qc (E.CG.cond_t rfl (E.cs (E.cl ?_))))
            refine E.GL.st rfl rfl rfl (E.ST.call rfl ent9 E.evn ((boxed9 _).mono ?_))
            rintro e w96 ⟨rfl, l96⟩
            refine ⟨_, rfl, ?_⟩
            replace b3 := blk_below b3 l96
            replace b7 := blk_below b7 l96
            replace b8 := blk_below b8 l96
            replace b9 := blk_below b9 l96
            replace L := below_step L l96
            refine E.ga rfl rfl rfl (E.gd (E.qc (E.CG.ret (E.QG.pass_ret ?_))))
            exact E.QG.result rfl rfl ⟨rfl, L⟩
           ·refine E.gr rfl (E.Runs.pick_f rfl rfl rfl) ?_
            refine E.gd (E.qc (E.CG.cond_f rfl (E.CG.skip (E.qc (E.cs (E.cl (E.gr rfl (E.Runs.loads (cs := [.slice A ns.length a, .int .i64 hold]) rfl rfl hu24 rfl info24s (blk_cells b3)) ?_)))))))
            refine E.gm rfl rfl rfl (E.gr rfl (E.Runs.fieldAddr rfl rfl hu31 rfl (by assumption) rfl) ?_)
            refine E.gr rfl (E.Runs.load rfl rfl hu3 (by first | assumption | exact E.blkc (by assumption) rfl | exact pw_cell_below L (by assumption))) ?_
            refine E.GL.st rfl rfl rfl (E.ST.call rfl ent10 (E.evc rfl (E.evc rfl (E.evc rfl E.evn))) ((map10 ns hold A a l B b minute _ (Kd.C_below hr L) ok (Kd.C_below hl L) lk ⟨by omega, by omega⟩).mono ?_))
            rintro e w102 ⟨A', c', rows, rfl, hC, hrl, hrw, hrv, l102⟩
            refine ⟨_, rfl, ?_⟩
            replace b3 := blk_below b3 l102
            replace b7 := blk_below b7 l102
            replace b8 := blk_below b8 l102
            replace b9 := blk_below b9 l102
            replace L := below_step L l102
            have lm := Below.refl w102.heap.size w102
            refine E.gm rfl rfl rfl (E.gr rfl (E.Runs.extract rfl rfl rfl) ?_)
            refine E.gr rfl (E.Runs.extract rfl rfl rfl) ?_
            refine E.ga rfl rfl rfl (E.ga rfl rfl rfl (E.gd (E.qc (E.cs (E.cs (E.cl (E.gm rfl rfl rfl (E.gr rfl (E.Runs.neq rfl rfl rfl (E.ne_f rfl)) ?_))))))))
            refine E.gm rfl rfl rfl (E.gm rfl rfl rfl (E.gr rfl (E.Runs.len rfl rfl hu45) ?_))
            refine E.gr rfl (E.Runs.fieldAddr rfl rfl hu24 rfl (by assumption) rfl) ?_
            refine E.gr rfl (E.Runs.load1 rfl rfl hu22 rfl (by first | assumption | exact E.blkc (by assumption) rfl | exact pw_cell_below L (by assumption) | exact pw_cell_below lm (by assumption))) ?_
            refine E.gr rfl (E.Runs.len rfl rfl hu22) ?_
            refine E.gr rfl (E.Runs.neq rfl rfl rfl (E.ne_f (by rw [hrl]))) ?_
            refine E.gr rfl (E.Runs.pick_f rfl rfl rfl) ?_
            refine E.gd (E.qc (E.CG.cond_f rfl (E.CG.skip (E.qc (E.cs ?_)))))
            have hn6 := ok.n
            refine E.cl (E.ga rfl rfl rfl (E.gd (E.qc (E.cs (E.cl ?_)))))
            refine E.GL.st rfl rfl rfl (E.ST.alloc rfl info48z fun g14 w14 e14 b14 l14 => ?_)
            have h14_L : w.heap.size ≤ g14 := by rw [e14]; exact L.size
            have h14_lm : w102.heap.size ≤ g14 := by rw [e14]; exact lm.size
            have n14_b3 : g3 ≠ g14 := by have := blk_lt b3; omega
            have n14_b7 : g7 ≠ g14 := by have := blk_lt b7; omega
            have n14_b8 : g8 ≠ g14 := by have := blk_lt b8; omega
            have n14_b9 : g9 ≠ g14 := by have := blk_lt b9; omega
            replace b3 := blk_below b3 l14
            replace b7 := blk_below b7 l14
            replace b8 := blk_below b8 l14
            replace b9 := blk_below b9 l14
            replace L := below_step L l14
            replace lm := below_step lm l14
            refine E.gd (E.qc (E.cs (E.cs (E.cl (E.ga rfl rfl rfl (E.gd (E.qc (E.CG.block ?_))))))))
            have s11_b3 := b3
            have s11_b7 := b7
            have s11_b8 := b8
            have s11_b9 := b9
            have s11_b14 := b14
            have s11_L := L
            have s11_lm := lm
            refine E.CG.loop2 (fun (i : Nat) (t : Nat × Nat × Nat) => [(1, .slice B l.length b), (3, .pointer (some ⟨g3, 0, none⟩)), (7, .pointer (some ⟨g7, 0, none⟩)), (8, .pointer (some ⟨g8, 0, none⟩)), (11, .slice A' rows.length c'), (13, .int .i64 ((t.1 + t.2.1 + t.2.2 : Nat) : Int)), (14, .pointer (some ⟨g14, 0, none⟩)), (15, .int .i64 (i : Int))]) (fun i t w' => (i ≤ rows.length ∧ t.1 + t.2.1 + t.2.2 ≤ 12 * i) ∧ w'.heap[g3]? = some (.cells #[.slice A ns.length a, .int .i64 hold] 24 (0, 0)) ∧ w'.heap[g7]? = some (.cells #[.int .i64 V.tax, .slice m.A V.cs.length m.a, .slice m.B V.rs.length m.b] 29 (0, 0)) ∧ w'.heap[g8]? = some (.cells #[.int .i64 film, .int .i64 week, .int .i64 price, .int .i64 minute] 31 (0, 0)) ∧ w'.heap[g14]? = some (.cells (rwC [((t.1 : Nat) : Int), ((t.2.1 : Nat) : Int), ((t.2.2 : Nat) : Int)]).toArray 48 (0, 0)) ∧ Below w.heap.size w w' ∧ Below w102.heap.size w102 w') (fun i t => rows.length - i) 0 (0, 0, 0) (E.subc rfl (E.subc rfl (E.subc rfl (E.subc rfl (E.subc rfl (E.subc rfl (E.subc rfl (E.subc rfl E.subn)))))))) ⟨⟨Nat.zero_le _, Nat.le_refl _⟩, b3, b7, b8, b14, L, lm⟩ ?_
            rintro i t w11 ⟨⟨hi, ht⟩, b3, b7, b8, b14, L, lm⟩
            refine E.cs (E.cs (E.cl (E.gm rfl rfl rfl (E.gm rfl rfl rfl (E.gr rfl (E.Runs.len rfl rfl hu45) ?_)))))
            refine E.GL.cmp rfl rfl rfl (fun _ h => (E.Runs.lss rfl rfl rfl h)) (fun h118 => ?_) (fun h118 => ?_)
            ·obtain ⟨li, hli⟩ := get_ex (show i < rows.length by omega)
             obtain ⟨ad, A0, c0, eR, XR, C0⟩ := row2 hC hli
             obtain ⟨xn, hxn⟩ := get_ex (show i < ns.length by omega)
             obtain ⟨adN, eN, XN⟩ := int_at hr hxn
             have hlw := hrw i li xn hli hxn
             have hxr := ok.r xn (mem_of hxn)
             refine E.gd (E.qc (E.CG.cond_t rfl (E.CG.skip (E.qc (E.cs (E.CG.block (E.cs (E.cs (E.CG.quietF (by kernel_rfl) rfl (by kernel_rfl) (by kernel_rfl) ?_)))))))))
             refine E.GQ.run rfl rfl rfl (E.Runs.move rfl rfl) ?_
             refine E.GQ.run rfl rfl rfl (E.Runs.move rfl rfl) ?_
             refine E.GQ.run rfl rfl rfl (E.Runs.indexAddrA (i := i) rfl rfl rfl hu45 z22 o22 (by omega) eR rfl) ?_
             refine E.GQ.run rfl rfl rfl (E.Runs.load1 rfl rfl hu22 rfl (pw_cell_below lm XR)) ?_
             refine E.GQ.run rfl rfl rfl (E.Runs.len rfl rfl hu22) ?_
             refine E.GQ.run rfl rfl rfl (E.Runs.fieldAddr rfl rfl hu24 rfl (by assumption) rfl) ?_
             refine E.GQ.run rfl rfl rfl (E.Runs.load1 rfl rfl hu22 rfl (by first | assumption | exact E.blkc (by assumption) rfl | exact pw_cell_below L (by assumption) | exact pw_cell_below lm (by assumption))) ?_
             refine E.GQ.run rfl rfl rfl (E.Runs.move rfl rfl) ?_
             refine E.GQ.run rfl rfl rfl (E.Runs.indexAddrA (i := i) rfl rfl rfl hu22 z3 o3 (by omega) eN rfl) ?_
             refine E.GQ.run rfl rfl rfl (E.Runs.load rfl rfl hu3 (pw_cell_below L XN)) ?_
             refine E.GQ.run rfl rfl rfl (E.Runs.neq rfl rfl rfl (E.ne_f (hrw i li xn hli hxn))) ?_
             refine E.GQ.doneB fun v13 lD => ?_
             replace b3 := blk_below b3 lD
             replace b7 := blk_below b7 lD
             replace b8 := blk_below b8 lD
             replace b14 := blk_below b14 lD
             replace L := below_step L lD
             replace lm := below_step lm lD
             have lD13 := lD
             clear lD
             refine E.qc (E.CG.cond_f rfl (E.CG.skip (E.qc (E.cs (E.cl (E.ga rfl rfl rfl (E.gd (E.qc (E.CG.block ?_)))))))))
             have s16_b3 := b3
             have s16_b7 := b7
             have s16_b8 := b8
             have s16_b14 := b14
             have s16_L := L
             have s16_lm := lm
             refine E.CG.loop2 (fun (s : Nat) (u : Nat × Nat × Nat) => [(1, .slice B l.length b), (3, .pointer (some ⟨g3, 0, none⟩)), (7, .pointer (some ⟨g7, 0, none⟩)), (8, .pointer (some ⟨g8, 0, none⟩)), (11, .slice A' rows.length c'), (13, .int .i64 ((u.1 + u.2.1 + u.2.2 : Nat) : Int)), (14, .pointer (some ⟨g14, 0, none⟩)), (15, .int .i64 (i : Int)), (16, .int .i64 (s : Int))]) (fun s u w' => (s ≤ li.length ∧ u.1 + u.2.1 + u.2.2 ≤ 12 * i + s) ∧ w'.heap[g3]? = some (.cells #[.slice A ns.length a, .int .i64 hold] 24 (0, 0)) ∧ w'.heap[g7]? = some (.cells #[.int .i64 V.tax, .slice m.A V.cs.length m.a, .slice m.B V.rs.length m.b] 29 (0, 0)) ∧ w'.heap[g8]? = some (.cells #[.int .i64 film, .int .i64 week, .int .i64 price, .int .i64 minute] 31 (0, 0)) ∧ w'.heap[g14]? = some (.cells (rwC [((u.1 : Nat) : Int), ((u.2.1 : Nat) : Int), ((u.2.2 : Nat) : Int)]).toArray 48 (0, 0)) ∧ Below w.heap.size w w' ∧ Below w102.heap.size w102 w') (fun s u => li.length - s) 0 t (E.subc rfl (E.subc rfl (E.subc rfl (E.subc rfl (E.subc rfl (E.subc rfl (E.subc rfl (E.subc rfl (E.subc rfl E.subn))))))))) ⟨⟨Nat.zero_le _, ht⟩, b3, b7, b8, b14, L, lm⟩ ?_
             rintro s u w16 ⟨⟨hs16, hu16⟩, b3, b7, b8, b14, L, lm⟩
             refine E.cs (E.cs (E.cl (E.gm rfl rfl rfl (E.gm rfl rfl rfl (E.gm rfl rfl rfl (E.gr rfl (E.Runs.indexAddrA (i := i) rfl rfl rfl hu45 z22 o22 (by omega) eR rfl) ?_))))))
             refine E.gr rfl (E.Runs.load1 rfl rfl hu22 rfl (pw_cell_below lm XR)) ?_
             refine E.gr rfl (E.Runs.len rfl rfl hu22) ?_
             refine E.GL.cmp rfl rfl rfl (fun _ h => (E.Runs.lss rfl rfl rfl h)) (fun h138 => ?_) (fun h138 => ?_)
             ·obtain ⟨xv, hxv⟩ := get_ex (show s < li.length by omega)
              obtain ⟨adS, eS, XS⟩ := int_at C0 hxv
              have hvr := hrv li (mem_of hli) xv (mem_of hxv)
              refine E.gd (E.qc (E.CG.cond_t rfl (E.CG.skip (E.qc (E.cs (E.CG.block (E.cs (E.cs (E.cl ?_)))))))))
              refine E.gm rfl rfl rfl (E.gm rfl rfl rfl (E.gr rfl (E.Runs.indexAddrA (i := i) rfl rfl rfl hu45 z22 o22 (by omega) eR rfl) ?_))
              refine E.gr rfl (E.Runs.load1 rfl rfl hu22 rfl (pw_cell_below lm XR)) ?_
              refine E.gm rfl rfl rfl (E.gr rfl (E.Runs.indexAddrA (i := s) rfl rfl rfl hu22 z3 o3 (by omega) eS rfl) ?_)
              refine E.gr rfl (E.Runs.load rfl rfl hu3 (pw_cell_below lm XS)) ?_
              refine E.GL.cmp rfl rfl rfl (fun _ h => (E.Runs.lss rfl rfl rfl h)) (fun h148 => ?_) (fun h148 => ?_)
              ·refine E.gd (E.qc (E.CG.cond_t rfl (E.CG.exit (E.QG.pass_exit (E.QG.block_here (E.qc (E.cl (E.gm rfl rfl rfl (E.gr rfl (E.Runs.add rfl rfl rfl (IntWalk.i64_in _ (by omega))) ?_)))))))))
               refine E.ga rfl rfl rfl (E.gd ?_)
               exact E.QG.round2 (d := (0, 0, 0)) (s + 1) u (E.subc rfl (E.subc rfl (E.subc rfl (E.subc rfl (E.subc rfl (E.subc (by first | rfl | (show some (Value.int .i64 _) = some (Value.int .i64 _); congr 2; dsimp only; omega)) (E.subc rfl (E.subc rfl (E.subc rfl E.subn))))))))) ⟨⟨by omega, by first | omega | (dsimp only; omega)⟩, b3, b7, b8, b14, L, lm⟩ (by omega)
              ·obtain ⟨nv, hnv0⟩ := Int.eq_ofNat_of_zero_le (show 0 ≤ xv by omega)
               subst hnv0
               have hnv : inR (nv : Int) 0 99 := ⟨by omega, by omega⟩
               refine E.gd (E.qc (E.CG.cond_f rfl (E.CG.skip (E.qc (E.cs (E.CG.cut2 (fun (g17 : Nat) (o : Od) => [(1, .slice B l.length b), (3, .pointer (some ⟨g3, 0, none⟩)), (7, .pointer (some ⟨g7, 0, none⟩)), (8, .pointer (some ⟨g8, 0, none⟩)), (11, .slice A' rows.length c'), (13, .int .i64 ((u.1 + u.2.1 + u.2.2 : Nat) : Int)), (14, .pointer (some ⟨g14, 0, none⟩)), (15, .int .i64 (i : Int)), (16, .int .i64 (s : Int)), (17, .pointer (some ⟨g17, 0, none⟩)), (18, .int .i64 0)]) (fun g17 o w' => g14 ≠ g17 ∧ w'.heap[g3]? = some (.cells #[.slice A ns.length a, .int .i64 hold] 24 (0, 0)) ∧ w'.heap[g7]? = some (.cells #[.int .i64 V.tax, .slice m.A V.cs.length m.a, .slice m.B V.rs.length m.b] 29 (0, 0)) ∧ w'.heap[g8]? = some (.cells #[.int .i64 film, .int .i64 week, .int .i64 price, .int .i64 minute] 31 (0, 0)) ∧ w'.heap[g14]? = some (.cells (rwC [((u.1 : Nat) : Int), ((u.2.1 : Nat) : Int), ((u.2.2 : Nat) : Int)]).toArray 48 (0, 0)) ∧ w'.heap[g17]? = some (.cells #[.int .i64 o.f0, .int .i64 o.f1, .int .i64 o.f2, .int .i64 o.f3] 50 (0, 0)) ∧ Below w.heap.size w w' ∧ Below w102.heap.size w102 w') ?_ ?_))))))
               ·refine E.CG.heldH (none) (by kernel_rfl) fun v19 lD hh => ?_
                replace b3 := blk_below b3 lD
                replace b7 := blk_below b7 lD
                replace b8 := blk_below b8 lD
                replace b14 := blk_below b14 lD
                replace L := below_step L lD
                replace lm := below_step lm lD
                clear lD
                have s_b3 := b3
                have s_b7 := b7
                have s_b8 := b8
                have s_b14 := b14
                have s_L := L
                have s_lm := lm
                refine E.GH.take (i := 0) rfl (by kernel_rfl) (by kernel_rfl) (by kernel_rfl) E.calm_cut2 rfl rfl rfl (fun w' hS => (E.Runs.loads (cs := [.slice A ns.length a, .int .i64 hold]) rfl rfl hu24 rfl info24s (blk_cells (blk_grown s_b3 hS E.nen)))) ?_
                refine E.GH.take (i := 1) rfl (by kernel_rfl) (by kernel_rfl) (by kernel_rfl) E.calm_cut2 rfl rfl rfl (fun w' hS => (E.Runs.move rfl rfl)) ?_
                refine E.GH.take (i := 2) rfl (by kernel_rfl) (by kernel_rfl) (by kernel_rfl) E.calm_cut2 rfl rfl rfl (fun w' hS => (E.Runs.fieldAddr rfl rfl hu31 rfl (by assumption) rfl)) ?_
                refine E.GH.take (i := 3) rfl (by kernel_rfl) (by kernel_rfl) (by kernel_rfl) E.calm_cut2 rfl rfl rfl (fun w' hS => (E.Runs.load rfl rfl hu3 (by first | exact E.keeps hS (E.blkc (by assumption) rfl) (by first | exact E.nen | exact E.nes (by assumption) | exact E.nes (Ne.symm (by assumption)) | exact Kd.R_ne rv (by assumption) (by decide)) | exact pw_cell_below (below_step s_L (E.belowG hS)) (by assumption) | exact pw_cell_below (below_step s_lm (E.belowG hS)) (by assumption)))) ?_
                refine E.GH.take (i := 4) rfl (by kernel_rfl) (by kernel_rfl) (by kernel_rfl) E.calm_cut2 rfl rfl rfl (fun w' hS => (E.Runs.move rfl rfl)) ?_
                refine E.GH.take (i := 5) rfl (by kernel_rfl) (by kernel_rfl) (by kernel_rfl) E.calm_cut2 rfl rfl rfl (fun w' hS => (E.Runs.move rfl rfl)) ?_
                refine E.GH.take (i := 6) rfl (by kernel_rfl) (by kernel_rfl) (by kernel_rfl) E.calm_cut2 rfl rfl rfl (fun w' hS => (E.Runs.indexAddrA (i := i) rfl rfl rfl hu45 z22 o22 (by omega) eR rfl)) ?_
                refine E.GH.take (i := 7) rfl (by kernel_rfl) (by kernel_rfl) (by kernel_rfl) E.calm_cut2 rfl rfl rfl (fun w' hS => (E.Runs.load1 rfl rfl hu22 rfl (E.keeps hS (pw_cell_below s_lm XR) E.nen))) ?_
                refine E.GH.take (i := 8) rfl (by kernel_rfl) (by kernel_rfl) (by kernel_rfl) E.calm_cut2 rfl rfl rfl (fun w' hS => (E.Runs.move rfl rfl)) ?_
                refine E.GH.take (i := 9) rfl (by kernel_rfl) (by kernel_rfl) (by kernel_rfl) E.calm_cut2 rfl rfl rfl (fun w' hS => (E.Runs.indexAddrA (i := s) rfl rfl rfl hu22 z3 o3 (by omega) eS rfl)) ?_
                refine E.GH.take (i := 10) rfl (by kernel_rfl) (by kernel_rfl) (by kernel_rfl) E.calm_cut2 rfl rfl rfl (fun w' hS => (E.Runs.load rfl rfl hu3 (E.keeps hS (pw_cell_below s_lm XS) E.nen))) ?_
                refine E.GH.all (rs := [11, 15]) (by kernel_rfl) (by simp) (E.GHs.cons rfl ?_ (E.GHs.cons rfl ?_ E.GHs.nil))
                ·refine E.GO.st rfl rfl rfl (E.ST.call rfl ent11 (E.evc rfl (E.evc rfl (E.evc rfl (E.evc rfl E.evn)))) ((order11 ns hold A a l B b minute _ (Kd.C_below hr L) ok (Kd.C_below hl L) lk ⟨by omega, by omega⟩ (nv : Int) hnv).mono ?_))
                 rintro e w161 ⟨S11, l11, o, rfl, _, _, _, l161⟩
                 refine ⟨_, rfl, hh.trans (E.gbB l161), ?_⟩
                 replace hh := hh.trans (E.gbB l161)
                 replace b3 := blk_below b3 l161
                 replace b7 := blk_below b7 l161
                 replace b8 := blk_below b8 l161
                 replace b14 := blk_below b14 l161
                 replace L := below_step L l161
                 replace lm := below_step lm l161
                 refine E.GH.take (i := 12) rfl (by kernel_rfl) (by kernel_rfl) (by kernel_rfl) E.calm_cut2 rfl rfl rfl (fun w' hS => (E.Runs.move rfl rfl)) ?_
                 refine E.GH.take (i := 13) rfl (by kernel_rfl) (by kernel_rfl) (by kernel_rfl) E.calm_cut2 rfl rfl rfl (fun w' hS => (E.Runs.extract rfl rfl rfl)) ?_
                 refine E.GH.take (i := 14) rfl (by kernel_rfl) (by kernel_rfl) (by kernel_rfl) E.calm_cut2 rfl rfl rfl (fun w' hS => (E.Runs.extract rfl rfl rfl)) ?_
                 refine E.GH.one (i := 15) (by kernel_rfl) rfl ?_
                 refine E.GO.st rfl rfl rfl (E.ST.alloc rfl info50z fun g17 w17 e17 b17 l17 => ⟨hh.trans (E.gbB l17), ?_⟩)
                 have hh0 := hh
                 replace hh := hh.trans (E.gbB l17)
                 have h17_hh : v19.heap.size ≤ g17 := by rw [e17]; exact hh0.size
                 have h17_L : w.heap.size ≤ g17 := by rw [e17]; exact L.size
                 have h17_lm : w102.heap.size ≤ g17 := by rw [e17]; exact lm.size
                 have n17_b3 : g3 ≠ g17 := by have := blk_lt b3; omega
                 have n17_b7 : g7 ≠ g17 := by have := blk_lt b7; omega
                 have n17_b8 : g8 ≠ g17 := by have := blk_lt b8; omega
                 have n17_b14 : g14 ≠ g17 := by have := blk_lt b14; omega
                 clear hh0
                 replace b3 := blk_below b3 l17
                 replace b7 := blk_below b7 l17
                 replace b8 := blk_below b8 l17
                 replace b14 := blk_below b14 l17
                 replace L := below_step L l17
                 replace lm := below_step lm l17
                 refine E.GH.one (i := 16) (by kernel_rfl) rfl ?_
                 refine E.GO.sn rfl rfl (E.ST.storeS (off := 0) (cells := [.int .i64 o.f0, .int .i64 o.f1, .int .i64 o.f2, .int .i64 o.f3]) rfl rfl rfl b17 rfl info50s (four_one _ _ _ _) rfl fun wS19_16 c17 lS19_16 => ⟨E.gb_own hh h17_hh lS19_16, ?_⟩)
                 replace hh := E.gb_own hh h17_hh lS19_16
                 replace b3 := blk_grown b3 lS19_16 (E.nes (by first | assumption | exact Ne.symm (by assumption)))
                 replace b7 := blk_grown b7 lS19_16 (E.nes (by first | assumption | exact Ne.symm (by assumption)))
                 replace b8 := blk_grown b8 lS19_16 (E.nes (by first | assumption | exact Ne.symm (by assumption)))
                 replace b14 := blk_grown b14 lS19_16 (E.nes (by first | assumption | exact Ne.symm (by assumption)))
                 replace L := E.below_own L h17_L lS19_16
                 replace lm := E.below_own lm h17_lm lS19_16
                 replace b17 := c17
                 clear c17
                 refine E.GH.take (i := 17) rfl (by kernel_rfl) (by kernel_rfl) (by kernel_rfl) E.calm_cut2 rfl rfl rfl (fun w' hS => (E.Runs.assign rfl rfl)) ?_
                 refine E.GH.done (by kernel_rfl) ?_
                 exact E.QG.meet2 g17 o (E.subc rfl (E.subc rfl (E.subc rfl (E.subc rfl (E.subc rfl (E.subc rfl (E.subc rfl (E.subc rfl (E.subc rfl (E.subc rfl (E.subc rfl (E.subn)))))))))))) ⟨n17_b14, b3, b7, b8, b14, b17, L, lm⟩
                ·refine E.GO.st rfl rfl rfl (E.ST.alloc rfl info50z fun g17 w17 e17 b17 l17 => ⟨hh.trans (E.gbB l17), ?_⟩)
                 have hh0 := hh
                 replace hh := hh.trans (E.gbB l17)
                 have h17_hh : v19.heap.size ≤ g17 := by rw [e17]; exact hh0.size
                 have h17_L : w.heap.size ≤ g17 := by rw [e17]; exact L.size
                 have h17_lm : w102.heap.size ≤ g17 := by rw [e17]; exact lm.size
                 have n17_b3 : g3 ≠ g17 := by have := blk_lt b3; omega
                 have n17_b7 : g7 ≠ g17 := by have := blk_lt b7; omega
                 have n17_b8 : g8 ≠ g17 := by have := blk_lt b8; omega
                 have n17_b14 : g14 ≠ g17 := by have := blk_lt b14; omega
                 clear hh0
                 replace b3 := blk_below b3 l17
                 replace b7 := blk_below b7 l17
                 replace b8 := blk_below b8 l17
                 replace b14 := blk_below b14 l17
                 replace L := below_step L l17
                 replace lm := below_step lm l17
                 refine E.GH.one (i := 11) (by kernel_rfl) rfl ?_
                 refine E.GO.st rfl rfl rfl (E.ST.call rfl ent11 (E.evc rfl (E.evc rfl (E.evc rfl (E.evc rfl E.evn)))) ((order11 ns hold A a l B b minute _ (Kd.C_below hr L) ok (Kd.C_below hl L) lk ⟨by omega, by omega⟩ (nv : Int) hnv).mono ?_))
                 rintro e w161 ⟨S11, l11, o, rfl, _, _, _, l161⟩
                 refine ⟨_, rfl, hh.trans (E.gbB l161), ?_⟩
                 replace hh := hh.trans (E.gbB l161)
                 replace b3 := blk_below b3 l161
                 replace b7 := blk_below b7 l161
                 replace b8 := blk_below b8 l161
                 replace b14 := blk_below b14 l161
                 replace b17 := blk_below b17 l161
                 replace L := below_step L l161
                 replace lm := below_step lm l161
                 refine E.GH.take (i := 12) rfl (by kernel_rfl) (by kernel_rfl) (by kernel_rfl) E.calm_cut2 rfl rfl rfl (fun w' hS => (E.Runs.move rfl rfl)) ?_
                 refine E.GH.take (i := 13) rfl (by kernel_rfl) (by kernel_rfl) (by kernel_rfl) E.calm_cut2 rfl rfl rfl (fun w' hS => (E.Runs.extract rfl rfl rfl)) ?_
                 refine E.GH.take (i := 14) rfl (by kernel_rfl) (by kernel_rfl) (by kernel_rfl) E.calm_cut2 rfl rfl rfl (fun w' hS => (E.Runs.extract rfl rfl rfl)) ?_
                 refine E.GH.one (i := 16) (by kernel_rfl) rfl ?_
                 refine E.GO.sn rfl rfl (E.ST.storeS (off := 0) (cells := [.int .i64 o.f0, .int .i64 o.f1, .int .i64 o.f2, .int .i64 o.f3]) rfl rfl rfl b17 rfl info50s (four_one _ _ _ _) rfl fun wS19_16 c17 lS19_16 => ⟨E.gb_own hh h17_hh lS19_16, ?_⟩)
                 replace hh := E.gb_own hh h17_hh lS19_16
                 replace b3 := blk_grown b3 lS19_16 (E.nes (by first | assumption | exact Ne.symm (by assumption)))
                 replace b7 := blk_grown b7 lS19_16 (E.nes (by first | assumption | exact Ne.symm (by assumption)))
                 replace b8 := blk_grown b8 lS19_16 (E.nes (by first | assumption | exact Ne.symm (by assumption)))
                 replace b14 := blk_grown b14 lS19_16 (E.nes (by first | assumption | exact Ne.symm (by assumption)))
                 replace L := E.below_own L h17_L lS19_16
                 replace lm := E.below_own lm h17_lm lS19_16
                 replace b17 := c17
                 clear c17
                 refine E.GH.take (i := 17) rfl (by kernel_rfl) (by kernel_rfl) (by kernel_rfl) E.calm_cut2 rfl rfl rfl (fun w' hS => (E.Runs.assign rfl rfl)) ?_
                 refine E.GH.done (by kernel_rfl) ?_
                 exact E.QG.meet2 g17 o (E.subc rfl (E.subc rfl (E.subc rfl (E.subc rfl (E.subc rfl (E.subc rfl (E.subc rfl (E.subc rfl (E.subc rfl (E.subc rfl (E.subc rfl (E.subn)))))))))))) ⟨n17_b14, b3, b7, b8, b14, b17, L, lm⟩
               intro g17 o w19 ⟨n17_b14, b3, b7, b8, b14, b17, L, lm⟩
               refine E.qc (E.cs (E.cs (E.cl (E.gm rfl rfl rfl (E.gr rfl (E.Runs.neq rfl rfl rfl (E.ne_f rfl)) ?_)))))
               refine E.gd (E.qc (E.CG.cond_f rfl (E.CG.skip (E.qc (E.cs (E.cl (E.gr rfl (E.Runs.fieldAddr rfl rfl hu50 rfl (by assumption) rfl) ?_)))))))
               refine E.gr rfl (E.Runs.load rfl rfl hu3 (by first | assumption | exact E.blkc (by assumption) rfl | exact pw_cell_below L (by assumption) | exact pw_cell_below lm (by assumption))) ?_
               refine E.GL.cmp rfl rfl rfl (fun _ h => (E.Runs.eql rfl rfl rfl h)) (fun h168 => ?_) (fun h168 => ?_)
               ·refine E.gd (E.qc (E.CG.cond_t rfl (E.cs (E.cl (E.gm rfl rfl rfl (E.gr rfl (E.Runs.add rfl rfl rfl (IntWalk.i64_in _ (by omega))) ?_))))))
                refine E.ga rfl rfl rfl (E.gd (E.qc (E.cl (E.gm rfl rfl rfl (E.gm rfl rfl rfl (E.gr rfl (E.Runs.indexAddrA (i := i) rfl rfl rfl hu45 z22 o22 (by omega) eR rfl) ?_))))))
                refine E.gr rfl (E.Runs.load1 rfl rfl hu22 rfl (pw_cell_below lm XR)) ?_
                refine E.gm rfl rfl rfl (E.gr rfl (E.Runs.indexAddrA (i := s) rfl rfl rfl hu22 z3 o3 (by omega) eS rfl) ?_)
                refine E.gr rfl (E.Runs.load rfl rfl hu3 (pw_cell_below lm XS)) ?_
                rcases (show nv % 3 = 0 ∨ nv % 3 = 1 ∨ nv % 3 = 2 by omega) with hm3 | hm3 | hm3
                ·refine E.gr rfl (E.Runs.rem (r := 0) rfl rfl rfl (by decide) (by rw [Int.tmod_eq_emod_of_nonneg (by omega)]; omega)) ?_
                 refine E.gr rfl (E.Runs.indexArr (i := 0) (q := ⟨g14, 0, none⟩) rfl rfl rfl hu48 z3 o3 (by decide) (by decide) rfl) ?_
                 refine E.gr rfl (E.Runs.load rfl rfl hu3 (by first | assumption | exact E.blkc (by assumption) rfl | exact pw_cell_below L (by assumption) | exact pw_cell_below lm (by assumption))) ?_
                 refine E.gr rfl (E.Runs.add rfl rfl rfl (IntWalk.i64_in _ (by omega))) ?_
                 refine E.gr rfl (E.Runs.indexArr (i := 0) (q := ⟨g14, 0, none⟩) rfl rfl rfl hu48 z3 o3 (by decide) (by decide) rfl) ?_
                 refine E.GL.sn rfl rfl (E.ST.store rfl (by assumption) (by assumption) rfl rfl b14 rfl (show _ = #[Value.int .i64 (((u.1 : Nat) : Int) + 1), Value.int .i64 ((u.2.1 : Nat) : Int), Value.int .i64 ((u.2.2 : Nat) : Int)] from rfl) fun wS24_12 c14 lS24_12 => ?_)
                 replace b3 := blk_grown b3 lS24_12 (E.nes (by first | assumption | exact Ne.symm (by assumption)))
                 replace b7 := blk_grown b7 lS24_12 (E.nes (by first | assumption | exact Ne.symm (by assumption)))
                 replace b8 := blk_grown b8 lS24_12 (E.nes (by first | assumption | exact Ne.symm (by assumption)))
                 replace b17 := blk_grown b17 lS24_12 (E.nes (by first | assumption | exact Ne.symm (by assumption)))
                 replace L := E.below_own L h14_L lS24_12
                 replace lm := E.below_own lm h14_lm lS24_12
                 replace b14 := c14
                 clear c14
                 refine E.gd (E.QG.block_normal (E.qc (E.cl (E.gm rfl rfl rfl (E.gr rfl (E.Runs.add rfl rfl rfl (IntWalk.i64_in _ (by omega))) ?_)))))
                 refine E.ga rfl rfl rfl (E.gd ?_)
                 exact E.QG.round2 (d := (0, 0, 0)) (s + 1) (u.1 + 1, u.2.1, u.2.2) (E.subc rfl (E.subc rfl (E.subc rfl (E.subc rfl (E.subc rfl (E.subc (by first | rfl | (show some (Value.int .i64 _) = some (Value.int .i64 _); congr 2; dsimp only; omega)) (E.subc rfl (E.subc rfl (E.subc rfl E.subn))))))))) ⟨⟨by omega, by first | omega | (dsimp only; omega)⟩, b3, b7, b8, b14, L, lm⟩ (by omega)
                ·refine E.gr rfl (E.Runs.rem (r := 1) rfl rfl rfl (by decide) (by rw [Int.tmod_eq_emod_of_nonneg (by omega)]; omega)) ?_
                 refine E.gr rfl (E.Runs.indexArr (i := 1) (q := ⟨g14, 1, none⟩) rfl rfl rfl hu48 z3 o3 (by decide) (by decide) rfl) ?_
                 refine E.gr rfl (E.Runs.load rfl rfl hu3 (by first | assumption | exact E.blkc (by assumption) rfl | exact pw_cell_below L (by assumption) | exact pw_cell_below lm (by assumption))) ?_
                 refine E.gr rfl (E.Runs.add rfl rfl rfl (IntWalk.i64_in _ (by omega))) ?_
                 refine E.gr rfl (E.Runs.indexArr (i := 1) (q := ⟨g14, 1, none⟩) rfl rfl rfl hu48 z3 o3 (by decide) (by decide) rfl) ?_
                 refine E.GL.sn rfl rfl (E.ST.store rfl (by assumption) (by assumption) rfl rfl b14 rfl (show _ = #[Value.int .i64 ((u.1 : Nat) : Int), Value.int .i64 (((u.2.1 : Nat) : Int) + 1), Value.int .i64 ((u.2.2 : Nat) : Int)] from rfl) fun wS24_12 c14 lS24_12 => ?_)
                 replace b3 := blk_grown b3 lS24_12 (E.nes (by first | assumption | exact Ne.symm (by assumption)))
                 replace b7 := blk_grown b7 lS24_12 (E.nes (by first | assumption | exact Ne.symm (by assumption)))
                 replace b8 := blk_grown b8 lS24_12 (E.nes (by first | assumption | exact Ne.symm (by assumption)))
                 replace b17 := blk_grown b17 lS24_12 (E.nes (by first | assumption | exact Ne.symm (by assumption)))
                 replace L := E.below_own L h14_L lS24_12
                 replace lm := E.below_own lm h14_lm lS24_12
                 replace b14 := c14
                 clear c14
                 refine E.gd (E.QG.block_normal (E.qc (E.cl (E.gm rfl rfl rfl (E.gr rfl (E.Runs.add rfl rfl rfl (IntWalk.i64_in _ (by omega))) ?_)))))
                 refine E.ga rfl rfl rfl (E.gd ?_)
                 exact E.QG.round2 (d := (0, 0, 0)) (s + 1) (u.1, u.2.1 + 1, u.2.2) (E.subc rfl (E.subc rfl (E.subc rfl (E.subc rfl (E.subc rfl (E.subc (by first | rfl | (show some (Value.int .i64 _) = some (Value.int .i64 _); congr 2; dsimp only; omega)) (E.subc rfl (E.subc rfl (E.subc rfl E.subn))))))))) ⟨⟨by omega, by first | omega | (dsimp only; omega)⟩, b3, b7, b8, b14, L, lm⟩ (by omega)
                ·refine E.gr rfl (E.Runs.rem (r := 2) rfl rfl rfl (by decide) (by rw [Int.tmod_eq_emod_of_nonneg (by omega)]; omega)) ?_
                 refine E.gr rfl (E.Runs.indexArr (i := 2) (q := ⟨g14, 2, none⟩) rfl rfl rfl hu48 z3 o3 (by decide) (by decide) rfl) ?_
                 refine E.gr rfl (E.Runs.load rfl rfl hu3 (by first | assumption | exact E.blkc (by assumption) rfl | exact pw_cell_below L (by assumption) | exact pw_cell_below lm (by assumption))) ?_
                 refine E.gr rfl (E.Runs.add rfl rfl rfl (IntWalk.i64_in _ (by omega))) ?_
                 refine E.gr rfl (E.Runs.indexArr (i := 2) (q := ⟨g14, 2, none⟩) rfl rfl rfl hu48 z3 o3 (by decide) (by decide) rfl) ?_
                 refine E.GL.sn rfl rfl (E.ST.store rfl (by assumption) (by assumption) rfl rfl b14 rfl (show _ = #[Value.int .i64 ((u.1 : Nat) : Int), Value.int .i64 ((u.2.1 : Nat) : Int), Value.int .i64 (((u.2.2 : Nat) : Int) + 1)] from rfl) fun wS24_12 c14 lS24_12 => ?_)
                 replace b3 := blk_grown b3 lS24_12 (E.nes (by first | assumption | exact Ne.symm (by assumption)))
                 replace b7 := blk_grown b7 lS24_12 (E.nes (by first | assumption | exact Ne.symm (by assumption)))
                 replace b8 := blk_grown b8 lS24_12 (E.nes (by first | assumption | exact Ne.symm (by assumption)))
                 replace b17 := blk_grown b17 lS24_12 (E.nes (by first | assumption | exact Ne.symm (by assumption)))
                 replace L := E.below_own L h14_L lS24_12
                 replace lm := E.below_own lm h14_lm lS24_12
                 replace b14 := c14
                 clear c14
                 refine E.gd (E.QG.block_normal (E.qc (E.cl (E.gm rfl rfl rfl (E.gr rfl (E.Runs.add rfl rfl rfl (IntWalk.i64_in _ (by omega))) ?_)))))
                 refine E.ga rfl rfl rfl (E.gd ?_)
                 exact E.QG.round2 (d := (0, 0, 0)) (s + 1) (u.1, u.2.1, u.2.2 + 1) (E.subc rfl (E.subc rfl (E.subc rfl (E.subc rfl (E.subc rfl (E.subc (by first | rfl | (show some (Value.int .i64 _) = some (Value.int .i64 _); congr 2; dsimp only; omega)) (E.subc rfl (E.subc rfl (E.subc rfl E.subn))))))))) ⟨⟨by omega, by first | omega | (dsimp only; omega)⟩, b3, b7, b8, b14, L, lm⟩ (by omega)
               ·refine E.gd (E.qc (E.CG.cond_f rfl (E.CG.skip (E.QG.block_normal (E.qc (E.cl (E.gm rfl rfl rfl (E.gr rfl (E.Runs.add rfl rfl rfl (IntWalk.i64_in _ (by omega))) ?_))))))))
                refine E.ga rfl rfl rfl (E.gd ?_)
                exact E.QG.round2 (d := (0, 0, 0)) (s + 1) u (E.subc rfl (E.subc rfl (E.subc rfl (E.subc rfl (E.subc rfl (E.subc (by first | rfl | (show some (Value.int .i64 _) = some (Value.int .i64 _); congr 2; dsimp only; omega)) (E.subc rfl (E.subc rfl (E.subc rfl E.subn))))))))) ⟨⟨by omega, by first | omega | (dsimp only; omega)⟩, b3, b7, b8, b14, L, lm⟩ (by omega)
             ·refine E.gd (E.qc (E.CG.cond_f rfl (E.CG.exit (E.QG.pass_exit (E.QG.pass_exit (E.QG.block_here (E.QG.block_normal (E.qc (E.cl ?_)))))))))
              refine E.gm rfl rfl rfl (E.gr rfl (E.Runs.add rfl rfl rfl (IntWalk.i64_in _ (by omega))) ?_)
              refine E.ga rfl rfl rfl (E.gd ?_)
              exact E.QG.round2 (d := (0, 0, 0)) (i + 1) u (E.subc rfl (E.subc rfl (E.subc rfl (E.subc rfl (E.subc rfl (E.subc rfl (E.subc rfl (E.subc rfl E.subn)))))))) ⟨⟨by omega, by omega⟩, b3, b7, b8, b14, L, lm⟩ (by omega)
            ·refine E.gd (E.qc (E.CG.cond_f rfl (E.CG.exit (E.QG.pass_exit (E.QG.pass_exit (E.QG.block_here (E.qc (E.cs ?_))))))))
             have hps := mul_small (show 0 ≤ price by omega) (show price ≤ 1000 by omega) (show 0 ≤ ((t.1 + t.2.1 + t.2.2 : Nat) : Int) by omega) (show ((t.1 + t.2.1 + t.2.2 : Nat) : Int) ≤ 72 by omega)
             refine E.cl (E.gr rfl (E.Runs.loads (cs := [.int .i64 V.tax, .slice m.A V.cs.length m.a, .slice m.B V.rs.length m.b]) rfl rfl hu29 rfl info29s (blk_cells b7)) ?_)
             refine E.GL.st rfl rfl rfl (E.ST.call rfl ent12 (E.evc rfl E.evn) ((copy_r V m _ (hM.below L) hs).mono ?_))
             rintro e w184 ⟨m1, rfl, hR1, l184⟩
             refine ⟨_, rfl, ?_⟩
             replace b3 := blk_below b3 l184
             replace b7 := blk_below b7 l184
             replace b8 := blk_below b8 l184
             replace b14 := blk_below b14 l184
             replace L := below_step L l184
             replace lm := below_step lm l184
             have k1 := Below.refl w184.heap.size w184
             refine E.GL.st rfl rfl rfl (E.ST.alloc rfl info29z fun g19 w19 e19 b19 l19 => ?_)
             have h19_L : w.heap.size ≤ g19 := by rw [e19]; exact L.size
             have h19_lm : w102.heap.size ≤ g19 := by rw [e19]; exact lm.size
             have h19_k1 : w184.heap.size ≤ g19 := by rw [e19]; exact k1.size
             have n19_b3 : g3 ≠ g19 := by have := blk_lt b3; omega
             have n19_b7 : g7 ≠ g19 := by have := blk_lt b7; omega
             have n19_b8 : g8 ≠ g19 := by have := blk_lt b8; omega
             have n19_b14 : g14 ≠ g19 := by have := blk_lt b14; omega
             replace b3 := blk_below b3 l19
             replace b7 := blk_below b7 l19
             replace b8 := blk_below b8 l19
             replace b14 := blk_below b14 l19
             replace L := below_step L l19
             replace lm := below_step lm l19
             replace k1 := below_step k1 l19
             refine E.GL.store_whole rfl rfl rfl rfl rfl b19 rfl info29s (books_one _ _ _ _ _ _ _) fun wS25_3 c19 lS25_3 => ?_
             replace b3 := blk_grown b3 lS25_3 (E.nes (by first | assumption | exact Ne.symm (by assumption)))
             replace b7 := blk_grown b7 lS25_3 (E.nes (by first | assumption | exact Ne.symm (by assumption)))
             replace b8 := blk_grown b8 lS25_3 (E.nes (by first | assumption | exact Ne.symm (by assumption)))
             replace b14 := blk_grown b14 lS25_3 (E.nes (by first | assumption | exact Ne.symm (by assumption)))
             replace L := E.below_own L h19_L lS25_3
             replace lm := E.below_own lm h19_lm lS25_3
             replace k1 := E.below_own k1 h19_k1 lS25_3
             replace b19 := c19
             clear c19
             refine E.gd (E.qc (E.cs (E.cl (E.gr rfl (E.Runs.fieldAddr rfl rfl hu29 rfl (by assumption) rfl) ?_))))
             refine E.GL.sn rfl rfl (E.ST.storeSl (cs := [.int .i64 V.tax, .slice m1.A V.cs.length m1.a, .slice m1.B V.rs.length m1.b]) (cs' := [.int .i64 V.tax, .slice m1.A V.cs.length m1.a, .slice none 0 0]) rfl z27 o27 rfl rfl b19 rfl rfl fun wN cN lN => ?_)
             replace b3 := blk_grown b3 lN (E.nes (by first | assumption | exact Ne.symm (by assumption)))
             replace b7 := blk_grown b7 lN (E.nes (by first | assumption | exact Ne.symm (by assumption)))
             replace b8 := blk_grown b8 lN (E.nes (by first | assumption | exact Ne.symm (by assumption)))
             replace b14 := blk_grown b14 lN (E.nes (by first | assumption | exact Ne.symm (by assumption)))
             replace L := E.below_own L h19_L lN
             replace lm := E.below_own lm h19_lm lN
             replace k1 := E.below_own k1 h19_k1 lN
             replace b19 : wN.heap[g19]? = some (.cells #[.int .i64 V.tax, .slice m1.A V.cs.length m1.a, .slice none 0 0] 29 (0, 0)) := cN
             refine E.gd (E.qc (E.cs (E.cs (E.cl (E.ga rfl rfl rfl (E.gd (E.qc (E.CG.block ?_))))))))
             have s28_b3 := b3
             have s28_b7 := b7
             have s28_b8 := b8
             have s28_b14 := b14
             have s28_b19 := b19
             have s28_L := L
             have s28_lm := lm
             have s28_k1 := k1
             refine E.CG.loop2 (fun (k : Nat) (vr : Value) => [(3, .pointer (some ⟨g3, 0, none⟩)), (7, .pointer (some ⟨g7, 0, none⟩)), (8, .pointer (some ⟨g8, 0, none⟩)), (13, .int .i64 ((t.1 + t.2.1 + t.2.2 : Nat) : Int)), (14, .pointer (some ⟨g14, 0, none⟩)), (19, .pointer (some ⟨g19, 0, none⟩)), (20, .int .i64 (k : Int))]) (fun k vr w' => k ≤ 3 ∧ w'.heap[g3]? = some (.cells #[.slice A ns.length a, .int .i64 hold] 24 (0, 0)) ∧ w'.heap[g7]? = some (.cells #[.int .i64 V.tax, .slice m.A V.cs.length m.a, .slice m.B V.rs.length m.b] 29 (0, 0)) ∧ w'.heap[g8]? = some (.cells #[.int .i64 film, .int .i64 week, .int .i64 price, .int .i64 minute] 31 (0, 0)) ∧ w'.heap[g14]? = some (.cells (rwC [((t.1 : Nat) : Int), ((t.2.1 : Nat) : Int), ((t.2.2 : Nat) : Int)]).toArray 48 (0, 0)) ∧ w'.heap[g19]? = some (.cells #[.int .i64 V.tax, .slice m1.A V.cs.length m1.a, vr] 29 (0, 0)) ∧ Kd.R k55 55 w' w184.heap.size (fun _ => True) vr ((tR film week (price * ((t.1 : Nat) : Int)) (price * ((t.2.1 : Nat) : Int)) (price * ((t.2.2 : Nat) : Int))).take k) ∧ Below w.heap.size w w' ∧ Below w184.heap.size w184 w') (fun k vr => 3 - k) 0 (.slice none 0 0) (E.subc rfl (E.subc rfl (E.subc rfl (E.subc rfl (E.subc rfl (E.subc rfl (E.subc rfl E.subn))))))) ⟨Nat.zero_le _, b3, b7, b8, b14, b19, Kd.R_nil _ _ _ _ _, L, k1⟩ ?_
             rintro k vr w28 ⟨hk28, b3, b7, b8, b14, b19, rv, L, k1⟩
             refine E.cs (E.cs (E.cl (E.gm rfl rfl rfl ?_)))
             refine E.GL.cmp rfl rfl rfl (fun _ h => (E.Runs.lss rfl rfl rfl h)) (fun h187 => ?_) (fun h187 => ?_)
             ·obtain ⟨x, hx, hx3⟩ := three_at (t0 := ((t.1 : Nat) : Int)) (t1 := ((t.2.1 : Nat) : Int)) (t2 := ((t.2.2 : Nat) : Int)) (show k < 3 by omega)
              have hrk := tR_at (F := film) (W := week) (a := 0) (b := 0) (c := 0) (p := price) hx
              have hpx := mul_small (show 0 ≤ price by omega) (show price ≤ 1000 by omega) (show 0 ≤ x by omega) (show x ≤ 72 by omega)
              refine E.gd (E.qc (E.CG.cond_t rfl (E.CG.skip (E.qc (E.cs (E.CG.block (E.CG.heldJ 19 (fun v W => v.grownBy W (vr.ownBlock)) (fun _ _ => True) (by kernel_rfl) (by kernel_rfl) (fun v => World.grownBy.refl _ _) fun v30 lD => ?_)))))))
              replace b3 := blk_below b3 lD
              replace b7 := blk_below b7 lD
              replace b8 := blk_below b8 lD
              replace b14 := blk_below b14 lD
              replace b19 := blk_below b19 lD
              replace L := below_step L lD
              replace k1 := below_step k1 lD
              have lD30 := lD
              clear lD
              replace rv := Kd.R_below rv lD30
              have s_b3 := b3
              have s_b7 := b7
              have s_b8 := b8
              have s_b14 := b14
              have s_b19 := b19
              have s_L := L
              have s_k1 := k1
              have hh : v30.grownBy v30 (vr.ownBlock) := World.grownBy.refl _ _
              refine E.GJ.take1 (i := 0) rfl (by kernel_rfl) (by kernel_rfl) (by kernel_rfl) (by kernel_rfl) rfl (by kernel_rfl) (by kernel_rfl) (by intro c a d v w h; first | (cases d <;> exact h) | exact nomatch (show _ ∧ _ from h).1) rfl rfl rfl (fun w' hS => (E.Runs.fieldAddr rfl rfl hu29 rfl (by assumption) rfl)) ?_
              refine E.GJ.take1 (i := 1) rfl (by kernel_rfl) (by kernel_rfl) (by kernel_rfl) (by kernel_rfl) rfl (by kernel_rfl) (by kernel_rfl) (by intro c a d v w h; first | (cases d <;> exact h) | exact nomatch (show _ ∧ _ from h).1) rfl rfl rfl (fun w' hS => (E.Runs.load1 rfl rfl hu27 rfl (by first | exact E.keeps hS (E.blkc (by assumption) rfl) (by first | exact E.nen | exact E.nes (by assumption) | exact E.nes (Ne.symm (by assumption)) | exact Kd.R_ne rv (by assumption) (by decide)) | exact pw_cell_below (below_step s_L (E.belowG hS)) (by assumption) | exact pw_cell_below (below_step s_k1 (E.belowG hS)) (by assumption)))) ?_
              refine E.GJ.take1 (i := 2) rfl (by kernel_rfl) (by kernel_rfl) (by kernel_rfl) (by kernel_rfl) rfl (by kernel_rfl) (by kernel_rfl) (by intro c a d v w h; first | (cases d <;> exact h) | exact nomatch (show _ ∧ _ from h).1) rfl rfl rfl (fun w' hS => (E.Runs.move rfl rfl)) ?_
              refine E.GJ.take1 (i := 3) rfl (by kernel_rfl) (by kernel_rfl) (by kernel_rfl) (by kernel_rfl) rfl (by kernel_rfl) (by kernel_rfl) (by intro c a d v w h; first | (cases d <;> exact h) | exact nomatch (show _ ∧ _ from h).1) rfl rfl rfl (fun w' hS => (E.Runs.sub rfl rfl rfl (IntWalk.i64_in _ (by omega)))) ?_
              refine E.GJ.take1 (i := 4) rfl (by kernel_rfl) (by kernel_rfl) (by kernel_rfl) (by kernel_rfl) rfl (by kernel_rfl) (by kernel_rfl) (by intro c a d v w h; first | (cases d <;> exact h) | exact nomatch (show _ ∧ _ from h).1) rfl rfl rfl (fun w' hS => (E.Runs.fieldAddr rfl rfl hu31 rfl (by assumption) rfl)) ?_
              refine E.GJ.take1 (i := 5) rfl (by kernel_rfl) (by kernel_rfl) (by kernel_rfl) (by kernel_rfl) rfl (by kernel_rfl) (by kernel_rfl) (by intro c a d v w h; first | (cases d <;> exact h) | exact nomatch (show _ ∧ _ from h).1) rfl rfl rfl (fun w' hS => (E.Runs.load rfl rfl hu3 (by first | exact E.keeps hS (E.blkc (by assumption) rfl) (by first | exact E.nen | exact E.nes (by assumption) | exact E.nes (Ne.symm (by assumption)) | exact Kd.R_ne rv (by assumption) (by decide)) | exact pw_cell_below (below_step s_L (E.belowG hS)) (by assumption) | exact pw_cell_below (below_step s_k1 (E.belowG hS)) (by assumption)))) ?_
              refine E.GJ.take1 (i := 6) rfl (by kernel_rfl) (by kernel_rfl) (by kernel_rfl) (by kernel_rfl) rfl (by kernel_rfl) (by kernel_rfl) (by intro c a d v w h; first | (cases d <;> exact h) | exact nomatch (show _ ∧ _ from h).1) rfl rfl rfl (fun w' hS => (E.Runs.fieldAddr rfl rfl hu31 rfl (by assumption) rfl)) ?_
              refine E.GJ.take1 (i := 7) rfl (by kernel_rfl) (by kernel_rfl) (by kernel_rfl) (by kernel_rfl) rfl (by kernel_rfl) (by kernel_rfl) (by intro c a d v w h; first | (cases d <;> exact h) | exact nomatch (show _ ∧ _ from h).1) rfl rfl rfl (fun w' hS => (E.Runs.load rfl rfl hu3 (by first | exact E.keeps hS (E.blkc (by assumption) rfl) (by first | exact E.nen | exact E.nes (by assumption) | exact E.nes (Ne.symm (by assumption)) | exact Kd.R_ne rv (by assumption) (by decide)) | exact pw_cell_below (below_step s_L (E.belowG hS)) (by assumption) | exact pw_cell_below (below_step s_k1 (E.belowG hS)) (by assumption)))) ?_
              refine E.GJ.take1 (i := 8) rfl (by kernel_rfl) (by kernel_rfl) (by kernel_rfl) (by kernel_rfl) rfl (by kernel_rfl) (by kernel_rfl) (by intro c a d v w h; first | (cases d <;> exact h) | exact nomatch (show _ ∧ _ from h).1) rfl rfl rfl (fun w' hS => (E.Runs.move rfl rfl)) ?_
              refine E.GJ.take1 (i := 9) rfl (by kernel_rfl) (by kernel_rfl) (by kernel_rfl) (by kernel_rfl) rfl (by kernel_rfl) (by kernel_rfl) (by intro c a d v w h; first | (cases d <;> exact h) | exact nomatch (show _ ∧ _ from h).1) rfl rfl rfl (fun w' hS => (E.Runs.fieldAddr rfl rfl hu31 rfl (by assumption) rfl)) ?_
              refine E.GJ.take1 (i := 10) rfl (by kernel_rfl) (by kernel_rfl) (by kernel_rfl) (by kernel_rfl) rfl (by kernel_rfl) (by kernel_rfl) (by intro c a d v w h; first | (cases d <;> exact h) | exact nomatch (show _ ∧ _ from h).1) rfl rfl rfl (fun w' hS => (E.Runs.load rfl rfl hu3 (by first | exact E.keeps hS (E.blkc (by assumption) rfl) (by first | exact E.nen | exact E.nes (by assumption) | exact E.nes (Ne.symm (by assumption)) | exact Kd.R_ne rv (by assumption) (by decide)) | exact pw_cell_below (below_step s_L (E.belowG hS)) (by assumption) | exact pw_cell_below (below_step s_k1 (E.belowG hS)) (by assumption)))) ?_
              refine E.GJ.take1 (i := 11) rfl (by kernel_rfl) (by kernel_rfl) (by kernel_rfl) (by kernel_rfl) rfl (by kernel_rfl) (by kernel_rfl) (by intro c a d v w h; first | (cases d <;> exact h) | exact nomatch (show _ ∧ _ from h).1) rfl rfl rfl (fun w' hS => (E.Runs.move rfl rfl)) ?_
              refine E.GJ.take1 (i := 12) rfl (by kernel_rfl) (by kernel_rfl) (by kernel_rfl) (by kernel_rfl) rfl (by kernel_rfl) (by kernel_rfl) (by intro c a d v w h; first | (cases d <;> exact h) | exact nomatch (show _ ∧ _ from h).1) rfl rfl rfl (fun w' hS => (E.Runs.indexArr (i := (k : Int)) (q := ⟨g14, k, none⟩) rfl rfl rfl hu48 z3 o3 (by omega) (by omega) (by rw [Int.toNat_natCast]; exact add1 _ _))) ?_
              refine E.GJ.take1 (i := 13) rfl (by kernel_rfl) (by kernel_rfl) (by kernel_rfl) (by kernel_rfl) rfl (by kernel_rfl) (by kernel_rfl) (by intro c a d v w h; first | (cases d <;> exact h) | exact nomatch (show _ ∧ _ from h).1) rfl rfl rfl (fun w' hS => (E.Runs.load rfl rfl hu3 (E.keeps hS (row_at' s_b14 hx) (Kd.R_ne rv s_b14 (by decide))))) ?_
              refine E.GJ.take1 (i := 14) rfl (by kernel_rfl) (by kernel_rfl) (by kernel_rfl) (by kernel_rfl) rfl (by kernel_rfl) (by kernel_rfl) (by intro c a d v w h; first | (cases d <;> exact h) | exact nomatch (show _ ∧ _ from h).1) rfl rfl rfl (fun w' hS => (E.Runs.mul rfl rfl rfl (IntWalk.i64_in _ (by omega)))) ?_
              refine E.GJ.take1 (i := 15) rfl (by kernel_rfl) (by kernel_rfl) (by kernel_rfl) (by kernel_rfl) rfl (by kernel_rfl) (by kernel_rfl) (by intro c a d v w h; first | (cases d <;> exact h) | exact nomatch (show _ ∧ _ from h).1) rfl rfl rfl (fun w' hS => (E.Runs.build rfl (E.epc rfl (E.epc rfl (E.epc rfl (E.epc rfl (E.epc rfl (E.epc rfl E.epn)))))) (build55f _ _ _ _ _ _))) ?_
              refine E.GJ.one (i := 16) (by kernel_rfl) (E.OJ.st rfl rfl rfl rfl (E.ST.lit rfl (E.epc rfl E.epn) (lit27_1 (⟨3 - (k : Int), 1, film, week, (k : Int), price * x⟩ : S55)) ⟨(E.SJ.before (by kernel_rfl)).mpr (World.grownBy_alloc _ _ _), ?_⟩))
              refine E.GJ.one (i := 17) (by kernel_rfl) (E.OJ.st rfl rfl rfl rfl (E.ST.appendW k55 w184.heap.size (w0 := w184) (s := .tmp 191) (x := .tmp 206) rfl hu27 info55 rfl (by decide) (by decide) (⟨3 - (k : Int), 1, film, week, (k : Int), price * x⟩ : S55) rfl rfl (k55_mkM _ _ _ _) (fun _ _ => trivial) rv k1 k1.size (by rw [List.length_take]; have := Nat.min_le_left k (tR film week (price * ((t.1 : Nat) : Int)) (price * ((t.2.1 : Nat) : Int)) (price * ((t.2.2 : Nat) : Int))).length; omega) fun u207 w207 r207 k207 g207 o207 => ⟨(E.SJ.before (by kernel_rfl)).mpr (g207), ?_⟩))
              have bz19 := blk_grown b19 g207 (Kd.R_ne rv b19 (by decide))
              replace b3 := blk_grown b3 g207 (Kd.R_ne rv b3 (by decide))
              replace b7 := blk_grown b7 g207 (Kd.R_ne rv b7 (by decide))
              replace b8 := blk_grown b8 g207 (Kd.R_ne rv b8 (by decide))
              replace b14 := blk_grown b14 g207 (Kd.R_ne rv b14 (by decide))
              replace L := L.grown g207 L.size (fun k e => by have := Kd.R_base rv k e; omega)
              replace k1 := k207
              obtain ⟨A207, c207, hu207⟩ := Kd.R_slice r207
              subst hu207
              refine E.GJ.take1 (i := 18) rfl (by kernel_rfl) (by kernel_rfl) (by kernel_rfl) (by kernel_rfl) rfl (by kernel_rfl) (by kernel_rfl) (by intro c a d v w h; first | (cases d <;> exact h) | exact nomatch (show _ ∧ _ from h).1) rfl rfl rfl (fun w' hS => (E.Runs.fieldAddr rfl rfl hu29 rfl (by assumption) rfl)) ?_
              refine E.GJ.one (i := 19) (by kernel_rfl) (E.OJ.sn rfl rfl rfl (E.ST.storeSl (cs := [.int .i64 V.tax, .slice m1.A V.cs.length m1.a, vr]) (cs' := [.int .i64 V.tax, .slice m1.A V.cs.length m1.a, .slice A207 ((tR film week (price * ((t.1 : Nat) : Int)) (price * ((t.2.1 : Nat) : Int)) (price * ((t.2.2 : Nat) : Int))).take k ++ [(⟨3 - (k : Int), 1, film, week, (k : Int), price * x⟩ : S55)]).length c207]) rfl z27 o27 rfl rfl bz19 rfl rfl fun wX cX lX => ⟨(E.SJ.behind (by kernel_rfl)).mpr trivial, ?_⟩))
              have rv2 := Kd.R_grown1 r207 rfl lX (Kd.R_ne r207 bz19 (by decide))
              rw [E.take_snoc hrk] at rv2 cX
              replace cX : wX.heap[g19]? = some (.cells #[.int .i64 V.tax, .slice m1.A V.cs.length m1.a, .slice A207 ((tR film week (price * ((t.1 : Nat) : Int)) (price * ((t.2.1 : Nat) : Int)) (price * ((t.2.2 : Nat) : Int))).take (k + 1)).length c207] 29 (0, 0)) := cX
              replace b3 := blk_grown b3 lX (E.nes n19_b3)
              replace b7 := blk_grown b7 lX (E.nes n19_b7)
              replace b8 := blk_grown b8 lX (E.nes n19_b8)
              replace b14 := blk_grown b14 lX (E.nes n19_b14)
              replace L := E.below_own L h19_L lX
              replace k1 := E.below_own k1 h19_k1 lX
              refine E.GJ.done (by kernel_rfl) ?_
              refine E.QG.block_normal (E.qc (E.cl (E.gm rfl rfl rfl (E.gr rfl (E.Runs.add rfl rfl rfl (IntWalk.i64_in _ (by omega))) ?_))))
              refine E.ga rfl rfl rfl (E.gd ?_)
              exact E.QG.round2 (d := .slice none 0 0) (k + 1) (.slice A207 ((tR film week (price * ((t.1 : Nat) : Int)) (price * ((t.2.1 : Nat) : Int)) (price * ((t.2.2 : Nat) : Int))).take (k + 1)).length c207) (E.subc rfl (E.subc rfl (E.subc rfl (E.subc rfl (E.subc rfl (E.subc rfl (E.subc rfl E.subn))))))) ⟨by omega, b3, b7, b8, b14, cX, rv2, L, k1⟩ (by omega)
             ·obtain rfl : k = 3 := by omega
              rw [show (tR film week (price * ((t.1 : Nat) : Int)) (price * ((t.2.1 : Nat) : Int)) (price * ((t.2.2 : Nat) : Int))).take 3 = (tR film week (price * ((t.1 : Nat) : Int)) (price * ((t.2.1 : Nat) : Int)) (price * ((t.2.2 : Nat) : Int))) from rfl] at rv
              obtain ⟨gR, cR, hvR, hgR, _, _⟩ := Kd.R_form rv (by show 0 < 3; omega)
              subst hvR
              have Cr := (Kd.R_reads' rv).2.2
              obtain ⟨_, eR0, X0⟩ := rep_at Cr (i := 0) rfl
              cases eR0
              obtain ⟨_, eR1, X1⟩ := rep_at Cr (i := 1) rfl
              cases eR1
              obtain ⟨_, eR2, X2⟩ := rep_at Cr (i := 2) rfl
              cases eR2
              have kx := Below.refl w28.heap.size w28
              have hww : inR week c.f1 c.f2 := ⟨by omega, by omega⟩
              have hb0 : inR (price * ((t.1 : Nat) : Int)) 0 10000000 := by have := mul_small (show 0 ≤ price by omega) (show price ≤ 1000 by omega) (show 0 ≤ ((t.1 : Nat) : Int) by omega) (show ((t.1 : Nat) : Int) ≤ 72 by omega); exact ⟨this.1, by omega⟩
              have hb1 : inR (price * ((t.2.1 : Nat) : Int)) 0 10000000 := by have := mul_small (show 0 ≤ price by omega) (show price ≤ 1000 by omega) (show 0 ≤ ((t.2.1 : Nat) : Int) by omega) (show ((t.2.1 : Nat) : Int) ≤ 72 by omega); exact ⟨this.1, by omega⟩
              have hb2 : inR (price * ((t.2.2 : Nat) : Int)) 0 10000000 := by have := mul_small (show 0 ≤ price by omega) (show price ≤ 1000 by omega) (show 0 ≤ ((t.2.2 : Nat) : Int) by omega) (show ((t.2.2 : Nat) : Int) ≤ 72 by omega); exact ⟨this.1, by omega⟩
              have hbs : inR (price * ((t.1 + t.2.1 + t.2.2 : Nat) : Int)) 0 10000000 := ⟨hps.1, by omega⟩
              refine E.gd (E.qc (E.CG.cond_f rfl (E.CG.exit (E.QG.pass_exit (E.QG.pass_exit (E.QG.block_here (E.qc (E.cs ?_))))))))
              have hs1 : Sz ⟨V.tax, V.cs, (tR film week (price * ((t.1 : Nat) : Int)) (price * ((t.2.1 : Nat) : Int)) (price * ((t.2.2 : Nat) : Int)))⟩ := ⟨hs.c, hs.s, hs.t, by show (3 : Nat) ≤ 1000000; omega⟩
              refine E.cl (E.gr rfl (E.Runs.loads (cs := [.int .i64 V.tax, .slice m1.A V.cs.length m1.a, .slice (some ⟨gR, 0, none⟩) 3 cR]) rfl rfl hu29 rfl info29s (blk_cells b19)) ?_)
              refine E.GL.st rfl rfl rfl (E.ST.call rfl ent12 (E.evc rfl E.evn) ((copy_r ⟨V.tax, V.cs, (tR film week (price * ((t.1 : Nat) : Int)) (price * ((t.2.1 : Nat) : Int)) (price * ((t.2.2 : Nat) : Int)))⟩ ⟨m1.A, m1.a, some ⟨gR, 0, none⟩, cR⟩ _ ⟨Kd.C_below hR1.bm.cs k1, Kd.C_below Cr kx⟩ hs1).mono ?_))
              rintro e w210 ⟨m2, rfl, hR2, l210⟩
              refine ⟨_, rfl, ?_⟩
              replace b3 := blk_below b3 l210
              replace b7 := blk_below b7 l210
              replace b8 := blk_below b8 l210
              replace b14 := blk_below b14 l210
              replace b19 := blk_below b19 l210
              replace L := below_step L l210
              replace k1 := below_step k1 l210
              replace kx := below_step kx l210
              have k2 := Below.refl w210.heap.size w210
              refine E.GL.st rfl rfl rfl (E.ST.alloc rfl info29z fun g21 w21 e21 b21 l21 => ?_)
              have h21_L : w.heap.size ≤ g21 := by rw [e21]; exact L.size
              have h21_k1 : w184.heap.size ≤ g21 := by rw [e21]; exact k1.size
              have h21_kx : w28.heap.size ≤ g21 := by rw [e21]; exact kx.size
              have h21_k2 : w210.heap.size ≤ g21 := by rw [e21]; exact k2.size
              have n21_b3 : g3 ≠ g21 := by have := blk_lt b3; omega
              have n21_b7 : g7 ≠ g21 := by have := blk_lt b7; omega
              have n21_b8 : g8 ≠ g21 := by have := blk_lt b8; omega
              have n21_b14 : g14 ≠ g21 := by have := blk_lt b14; omega
              have n21_b19 : g19 ≠ g21 := by have := blk_lt b19; omega
              replace b3 := blk_below b3 l21
              replace b7 := blk_below b7 l21
              replace b8 := blk_below b8 l21
              replace b14 := blk_below b14 l21
              replace b19 := blk_below b19 l21
              replace L := below_step L l21
              replace k1 := below_step k1 l21
              replace kx := below_step kx l21
              replace k2 := below_step k2 l21
              refine E.GL.store_whole rfl rfl rfl rfl rfl b21 rfl info29s (books_one _ _ _ _ _ _ _) fun wS31_3 c21 lS31_3 => ?_
              replace b3 := blk_grown b3 lS31_3 (E.nes (by first | assumption | exact Ne.symm (by assumption)))
              replace b7 := blk_grown b7 lS31_3 (E.nes (by first | assumption | exact Ne.symm (by assumption)))
              replace b8 := blk_grown b8 lS31_3 (E.nes (by first | assumption | exact Ne.symm (by assumption)))
              replace b14 := blk_grown b14 lS31_3 (E.nes (by first | assumption | exact Ne.symm (by assumption)))
              replace b19 := blk_grown b19 lS31_3 (E.nes (by first | assumption | exact Ne.symm (by assumption)))
              replace L := E.below_own L h21_L lS31_3
              replace k1 := E.below_own k1 h21_k1 lS31_3
              replace kx := E.below_own kx h21_kx lS31_3
              replace k2 := E.below_own k2 h21_k2 lS31_3
              replace b21 := c21
              clear c21
              refine E.gd (E.qc (E.cs (E.CG.heldJ 18 (fun v W => v.grownBy W (none)) (fun _ _ => True) (by kernel_rfl) (by kernel_rfl) (fun v => World.grownBy.refl _ _) fun v32 lD => ?_)))
              replace b3 := blk_below b3 lD
              replace b7 := blk_below b7 lD
              replace b8 := blk_below b8 lD
              replace b14 := blk_below b14 lD
              replace b19 := blk_below b19 lD
              replace b21 := blk_below b21 lD
              replace L := below_step L lD
              replace k1 := below_step k1 lD
              replace kx := below_step kx lD
              replace k2 := below_step k2 lD
              have lD32 := lD
              clear lD
              have s_b3 := b3
              have s_b7 := b7
              have s_b8 := b8
              have s_b14 := b14
              have s_b19 := b19
              have s_b21 := b21
              have s_L := L
              have s_k1 := k1
              have s_kx := kx
              have s_k2 := k2
              have hh : v32.grownBy v32 (none) := World.grownBy.refl _ _
              refine E.GJ.take1 (i := 0) rfl (by kernel_rfl) (by kernel_rfl) (by kernel_rfl) (by kernel_rfl) rfl (by kernel_rfl) (by kernel_rfl) (by intro c a d v w h; first | (cases d <;> exact h) | exact nomatch (show _ ∧ _ from h).1) rfl rfl rfl (fun w' hS => (E.Runs.fieldAddr rfl rfl hu29 rfl (by assumption) rfl)) ?_
              refine E.GJ.take1 (i := 1) rfl (by kernel_rfl) (by kernel_rfl) (by kernel_rfl) (by kernel_rfl) rfl (by kernel_rfl) (by kernel_rfl) (by intro c a d v w h; first | (cases d <;> exact h) | exact nomatch (show _ ∧ _ from h).1) rfl rfl rfl (fun w' hS => (E.Runs.load1 rfl rfl hu27 rfl (by first | exact E.keeps hS (E.blkc (by assumption) rfl) (by first | exact E.nen | exact E.nes (by assumption) | exact E.nes (Ne.symm (by assumption)) | exact Kd.R_ne rv (by assumption) (by decide)) | exact pw_cell_below (below_step s_L (E.belowG hS)) (by assumption) | exact pw_cell_below (below_step s_k1 (E.belowG hS)) (by assumption) | exact pw_cell_below (below_step s_kx (E.belowG hS)) (by assumption) | exact pw_cell_below (below_step s_k2 (E.belowG hS)) (by assumption)))) ?_
              refine E.GJ.take1 (i := 2) rfl (by kernel_rfl) (by kernel_rfl) (by kernel_rfl) (by kernel_rfl) rfl (by kernel_rfl) (by kernel_rfl) (by intro c a d v w h; first | (cases d <;> exact h) | exact nomatch (show _ ∧ _ from h).1) rfl rfl rfl (fun w' hS => (E.Runs.indexAddrA (i := 1) rfl rfl rfl hu27 z55 o55 (by show _ < ((3 : Nat) : Int); omega) rfl rfl)) ?_
              refine E.GJ.take1 (i := 3) rfl (by kernel_rfl) (by kernel_rfl) (by kernel_rfl) (by kernel_rfl) rfl (by kernel_rfl) (by kernel_rfl) (by intro c a d v w h; first | (cases d <;> exact h) | exact nomatch (show _ ∧ _ from h).1) rfl rfl rfl (fun w' hS => (E.Runs.loads (cs := rC ⟨2, 1, film, week, 1, price * ((t.2.1 : Nat) : Int)⟩) rfl rfl hu55 rfl info55s (fun j v hv => E.keeps hS (pw_cell_below s_kx (X1 j v hv)) E.nen))) ?_
              refine E.GJ.take1 (i := 4) rfl (by kernel_rfl) (by kernel_rfl) (by kernel_rfl) (by kernel_rfl) rfl (by kernel_rfl) (by kernel_rfl) (by intro c a d v w h; first | (cases d <;> exact h) | exact nomatch (show _ ∧ _ from h).1) rfl rfl rfl (fun w' hS => (E.Runs.fieldAddr rfl rfl hu29 rfl (by assumption) rfl)) ?_
              refine E.GJ.take1 (i := 5) rfl (by kernel_rfl) (by kernel_rfl) (by kernel_rfl) (by kernel_rfl) rfl (by kernel_rfl) (by kernel_rfl) (by intro c a d v w h; first | (cases d <;> exact h) | exact nomatch (show _ ∧ _ from h).1) rfl rfl rfl (fun w' hS => (E.Runs.load1 rfl rfl hu27 rfl (by first | exact E.keeps hS (E.blkc (by assumption) rfl) (by first | exact E.nen | exact E.nes (by assumption) | exact E.nes (Ne.symm (by assumption)) | exact Kd.R_ne rv (by assumption) (by decide)) | exact pw_cell_below (below_step s_L (E.belowG hS)) (by assumption) | exact pw_cell_below (below_step s_k1 (E.belowG hS)) (by assumption) | exact pw_cell_below (below_step s_kx (E.belowG hS)) (by assumption) | exact pw_cell_below (below_step s_k2 (E.belowG hS)) (by assumption)))) ?_
              refine E.GJ.take1 (i := 6) rfl (by kernel_rfl) (by kernel_rfl) (by kernel_rfl) (by kernel_rfl) rfl (by kernel_rfl) (by kernel_rfl) (by intro c a d v w h; first | (cases d <;> exact h) | exact nomatch (show _ ∧ _ from h).1) rfl rfl rfl (fun w' hS => (E.Runs.indexAddrA (i := 2) rfl rfl rfl hu27 z55 o55 (by show _ < ((3 : Nat) : Int); omega) rfl rfl)) ?_
              refine E.GJ.take1 (i := 7) rfl (by kernel_rfl) (by kernel_rfl) (by kernel_rfl) (by kernel_rfl) rfl (by kernel_rfl) (by kernel_rfl) (by intro c a d v w h; first | (cases d <;> exact h) | exact nomatch (show _ ∧ _ from h).1) rfl rfl rfl (fun w' hS => (E.Runs.loads (cs := rC ⟨1, 1, film, week, 2, price * ((t.2.2 : Nat) : Int)⟩) rfl rfl hu55 rfl info55s (fun j v hv => E.keeps hS (pw_cell_below s_kx (X2 j v hv)) E.nen))) ?_
              refine E.GJ.take1 (i := 8) rfl (by kernel_rfl) (by kernel_rfl) (by kernel_rfl) (by kernel_rfl) rfl (by kernel_rfl) (by kernel_rfl) (by intro c a d v w h; first | (cases d <;> exact h) | exact nomatch (show _ ∧ _ from h).1) rfl rfl rfl (fun w' hS => (E.Runs.fieldAddr rfl rfl hu29 rfl (by assumption) rfl)) ?_
              refine E.GJ.take1 (i := 9) rfl (by kernel_rfl) (by kernel_rfl) (by kernel_rfl) (by kernel_rfl) rfl (by kernel_rfl) (by kernel_rfl) (by intro c a d v w h; first | (cases d <;> exact h) | exact nomatch (show _ ∧ _ from h).1) rfl rfl rfl (fun w' hS => (E.Runs.load1 rfl rfl hu27 rfl (by first | exact E.keeps hS (E.blkc (by assumption) rfl) (by first | exact E.nen | exact E.nes (by assumption) | exact E.nes (Ne.symm (by assumption)) | exact Kd.R_ne rv (by assumption) (by decide)) | exact pw_cell_below (below_step s_L (E.belowG hS)) (by assumption) | exact pw_cell_below (below_step s_k1 (E.belowG hS)) (by assumption) | exact pw_cell_below (below_step s_kx (E.belowG hS)) (by assumption) | exact pw_cell_below (below_step s_k2 (E.belowG hS)) (by assumption)))) ?_
              refine E.GJ.take1 (i := 10) rfl (by kernel_rfl) (by kernel_rfl) (by kernel_rfl) (by kernel_rfl) rfl (by kernel_rfl) (by kernel_rfl) (by intro c a d v w h; first | (cases d <;> exact h) | exact nomatch (show _ ∧ _ from h).1) rfl rfl rfl (fun w' hS => (E.Runs.indexAddrA (i := 0) rfl rfl rfl hu27 z55 o55 (by show _ < ((3 : Nat) : Int); omega) rfl rfl)) ?_
              refine E.GJ.take1 (i := 11) rfl (by kernel_rfl) (by kernel_rfl) (by kernel_rfl) (by kernel_rfl) rfl (by kernel_rfl) (by kernel_rfl) (by intro c a d v w h; first | (cases d <;> exact h) | exact nomatch (show _ ∧ _ from h).1) rfl rfl rfl (fun w' hS => (E.Runs.loads (cs := rC ⟨3, 1, film, week, 0, price * ((t.1 : Nat) : Int)⟩) rfl rfl hu55 rfl info55s (fun j v hv => E.keeps hS (pw_cell_below s_kx (X0 j v hv)) E.nen))) ?_
              refine E.GJ.take1 (i := 12) rfl (by kernel_rfl) (by kernel_rfl) (by kernel_rfl) (by kernel_rfl) rfl (by kernel_rfl) (by kernel_rfl) (by intro c a d v w h; first | (cases d <;> exact h) | exact nomatch (show _ ∧ _ from h).1) rfl rfl rfl (fun w' hS => (E.Runs.fieldAddr rfl rfl hu29 rfl (by assumption) rfl)) ?_
              refine E.GJ.take1 (i := 13) rfl (by kernel_rfl) (by kernel_rfl) (by kernel_rfl) (by kernel_rfl) rfl (by kernel_rfl) (by kernel_rfl) (by intro c a d v w h; first | (cases d <;> exact h) | exact nomatch (show _ ∧ _ from h).1) rfl rfl rfl (fun w' hS => (E.Runs.load1 rfl rfl hu27 rfl (by first | exact E.keeps hS (E.blkc (by assumption) rfl) (by first | exact E.nen | exact E.nes (by assumption) | exact E.nes (Ne.symm (by assumption)) | exact Kd.R_ne rv (by assumption) (by decide)) | exact pw_cell_below (below_step s_L (E.belowG hS)) (by assumption) | exact pw_cell_below (below_step s_k1 (E.belowG hS)) (by assumption) | exact pw_cell_below (below_step s_kx (E.belowG hS)) (by assumption) | exact pw_cell_below (below_step s_k2 (E.belowG hS)) (by assumption)))) ?_
              refine E.GJ.take1 (i := 14) rfl (by kernel_rfl) (by kernel_rfl) (by kernel_rfl) (by kernel_rfl) rfl (by kernel_rfl) (by kernel_rfl) (by intro c a d v w h; first | (cases d <;> exact h) | exact nomatch (show _ ∧ _ from h).1) rfl rfl rfl (fun w' hS => (E.Runs.indexAddrA (i := 2) rfl rfl rfl hu27 z55 o55 (by show _ < ((3 : Nat) : Int); omega) rfl rfl)) ?_
              refine E.GJ.take1 (i := 15) rfl (by kernel_rfl) (by kernel_rfl) (by kernel_rfl) (by kernel_rfl) rfl (by kernel_rfl) (by kernel_rfl) (by intro c a d v w h; first | (cases d <;> exact h) | exact nomatch (show _ ∧ _ from h).1) rfl rfl rfl (fun w' hS => (E.Runs.loads (cs := rC ⟨1, 1, film, week, 2, price * ((t.2.2 : Nat) : Int)⟩) rfl rfl hu55 rfl info55s (fun j v hv => E.keeps hS (pw_cell_below s_kx (X2 j v hv)) E.nen))) ?_
              refine E.GJ.one (i := 16) (by kernel_rfl) (E.OJ.st rfl rfl rfl rfl (E.ST.lit rfl (E.epc rfl (E.epc rfl (E.epc rfl (E.epc rfl E.epn)))) (lit27_4 ⟨2, 1, film, week, 1, price * ((t.2.1 : Nat) : Int)⟩ ⟨1, 1, film, week, 2, price * ((t.2.2 : Nat) : Int)⟩ ⟨3, 1, film, week, 0, price * ((t.1 : Nat) : Int)⟩ ⟨1, 1, film, week, 2, price * ((t.2.2 : Nat) : Int)⟩) ⟨(E.SJ.before (by kernel_rfl)).mpr (World.grownBy_alloc _ _ _), ?_⟩))
              obtain ⟨wL, hwL⟩ : ∃ W, World.alloc v32 (.cells (([⟨2, 1, film, week, 1, price * ((t.2.1 : Nat) : Int)⟩, ⟨1, 1, film, week, 2, price * ((t.2.2 : Nat) : Int)⟩, ⟨3, 1, film, week, 0, price * ((t.1 : Nat) : Int)⟩, ⟨1, 1, film, week, 2, price * ((t.2.2 : Nat) : Int)⟩] : List S55).flatMap rC).toArray 55 (0, 0)) = W := ⟨_, rfl⟩
              have bL : wL.heap[v32.heap.size]? = some (.cells ((tA film week (price * ((t.1 : Nat) : Int)) (price * ((t.2.1 : Nat) : Int)) (price * ((t.2.2 : Nat) : Int))).flatMap rC).toArray 55 (0, 0)) := by rw [← hwL]; exact blk_new _ _
              have lL : Below v32.heap.size v32 wL := by rw [← hwL]; exact below_alloc (Below.refl _ _) _
              rw [hwL]
              obtain ⟨gA, hgA⟩ : ∃ g, v32.heap.size = g := ⟨_, rfl⟩
              rw [hgA] at bL ⊢
              replace b3 := blk_below b3 lL
              replace b7 := blk_below b7 lL
              replace b8 := blk_below b8 lL
              replace b14 := blk_below b14 lL
              replace b19 := blk_below b19 lL
              replace b21 := blk_below b21 lL
              replace L := below_step L lL
              replace k1 := below_step k1 lL
              replace kx := below_step kx lL
              replace k2 := below_step k2 lL
              refine E.GJ.take1 (i := 17) rfl (by kernel_rfl) (by kernel_rfl) (by kernel_rfl) (by kernel_rfl) rfl (by kernel_rfl) (by kernel_rfl) (by intro c a d v w h; first | (cases d <;> exact h) | exact nomatch (show _ ∧ _ from h).1) rfl rfl rfl (fun w' hS => (E.Runs.fieldAddr rfl rfl hu29 rfl (by assumption) rfl)) ?_
              refine E.GJ.one (i := 18) (by kernel_rfl) (E.OJ.sn rfl rfl rfl (E.ST.storeSl (cs := [.int .i64 V.tax, .slice m2.A V.cs.length m2.a, .slice m2.B (tR film week (price * ((t.1 : Nat) : Int)) (price * ((t.2.1 : Nat) : Int)) (price * ((t.2.2 : Nat) : Int))).length m2.b]) (cs' := [.int .i64 V.tax, .slice m2.A V.cs.length m2.a, .slice (some ⟨gA, 0, none⟩) 4 4]) rfl z27 o27 rfl rfl b21 rfl rfl fun wX cX lX => ⟨(E.SJ.behind (by kernel_rfl)).mpr trivial, ?_⟩))
              have bA2 := blk_grown bL lX (E.nes (blk_ne bL b21 (by decide)))
              replace b3 := blk_grown b3 lX (E.nes (by first | assumption | exact Ne.symm (by assumption)))
              replace b7 := blk_grown b7 lX (E.nes (by first | assumption | exact Ne.symm (by assumption)))
              replace b8 := blk_grown b8 lX (E.nes (by first | assumption | exact Ne.symm (by assumption)))
              replace b14 := blk_grown b14 lX (E.nes (by first | assumption | exact Ne.symm (by assumption)))
              replace b19 := blk_grown b19 lX (E.nes (by first | assumption | exact Ne.symm (by assumption)))
              replace L := E.below_own L h21_L lX
              replace k1 := E.below_own k1 h21_k1 lX
              replace kx := E.below_own kx h21_kx lX
              replace k2 := E.below_own k2 h21_k2 lX
              replace b21 : wX.heap[g21]? = some (.cells #[.int .i64 V.tax, .slice m2.A V.cs.length m2.a, .slice (some ⟨gA, 0, none⟩) 4 4] 29 (0, 0)) := cX
              have hCA : Kd.C k55 wX (some ⟨gA, 0, none⟩) (tA film week (price * ((t.1 : Nat) : Int)) (price * ((t.2.1 : Nat) : Int)) (price * ((t.2.2 : Nat) : Int))).length (tA film week (price * ((t.1 : Nat) : Int)) (price * ((t.2.1 : Nat) : Int)) (price * ((t.2.2 : Nat) : Int))) := C_flat k55_mk (fun _ => rfl) (tA film week (price * ((t.1 : Nat) : Int)) (price * ((t.2.1 : Nat) : Int)) (price * ((t.2.2 : Nat) : Int))) bA2 (by show (4 : Nat) ≤ 1000000; omega)
              have ka := Below.refl wX.heap.size wX
              have hsL := L.size
              have hsk1 := k1.size
              have hskx := kx.size
              have hsk2 := k2.size
              refine E.GJ.done (by kernel_rfl) ?_
              refine E.qc (E.cs (E.cl (E.gr rfl (E.Runs.loads (cs := [.int .i64 V.tax, .slice m1.A V.cs.length m1.a, .slice (some ⟨gR, 0, none⟩) 3 cR]) rfl rfl hu29 rfl info29s (blk_cells b19)) ?_)))
              refine E.GL.st rfl rfl rfl (E.ST.call rfl ent12 (E.evc rfl E.evn) ((copy_r ⟨V.tax, V.cs, (tR film week (price * ((t.1 : Nat) : Int)) (price * ((t.2.1 : Nat) : Int)) (price * ((t.2.2 : Nat) : Int)))⟩ ⟨m1.A, m1.a, some ⟨gR, 0, none⟩, cR⟩ _ ⟨Kd.C_below hR1.bm.cs k1, Kd.C_below Cr kx⟩ hs1).mono ?_))
              rintro e w230 ⟨m3, rfl, hR3, l230⟩
              refine ⟨_, rfl, ?_⟩
              replace b3 := blk_below b3 l230
              replace b7 := blk_below b7 l230
              replace b8 := blk_below b8 l230
              replace b14 := blk_below b14 l230
              replace b19 := blk_below b19 l230
              replace b21 := blk_below b21 l230
              replace L := below_step L l230
              replace k1 := below_step k1 l230
              replace kx := below_step kx l230
              replace k2 := below_step k2 l230
              replace ka := below_step ka l230
              have R3 := hR3.rs
              have Q3 := hR3.cs
              refine E.GL.st rfl rfl rfl (E.ST.alloc rfl info29z fun g22 w22 e22 b22 l22 => ?_)
              have h22_L : w.heap.size ≤ g22 := by rw [e22]; exact L.size
              have h22_k1 : w184.heap.size ≤ g22 := by rw [e22]; exact k1.size
              have h22_kx : w28.heap.size ≤ g22 := by rw [e22]; exact kx.size
              have h22_k2 : w210.heap.size ≤ g22 := by rw [e22]; exact k2.size
              have h22_ka : wX.heap.size ≤ g22 := by rw [e22]; exact ka.size
              have n22_b3 : g3 ≠ g22 := by have := blk_lt b3; omega
              have n22_b7 : g7 ≠ g22 := by have := blk_lt b7; omega
              have n22_b8 : g8 ≠ g22 := by have := blk_lt b8; omega
              have n22_b14 : g14 ≠ g22 := by have := blk_lt b14; omega
              have n22_b19 : g19 ≠ g22 := by have := blk_lt b19; omega
              have n22_b21 : g21 ≠ g22 := by have := blk_lt b21; omega
              replace b3 := blk_below b3 l22
              replace b7 := blk_below b7 l22
              replace b8 := blk_below b8 l22
              replace b14 := blk_below b14 l22
              replace b19 := blk_below b19 l22
              replace b21 := blk_below b21 l22
              replace L := below_step L l22
              replace k1 := below_step k1 l22
              replace kx := below_step kx l22
              replace k2 := below_step k2 l22
              replace ka := below_step ka l22
              replace R3 := Kd.R_below R3 l22
              replace Q3 := Kd.R_below Q3 l22
              have p22 := b22
              refine E.GL.store_whole rfl rfl rfl rfl rfl b22 rfl info29s (books_one _ _ _ _ _ _ _) fun wS33_3 c22 lS33_3 => ?_
              replace b3 := blk_grown b3 lS33_3 (E.nes (by first | assumption | exact Ne.symm (by assumption)))
              replace b7 := blk_grown b7 lS33_3 (E.nes (by first | assumption | exact Ne.symm (by assumption)))
              replace b8 := blk_grown b8 lS33_3 (E.nes (by first | assumption | exact Ne.symm (by assumption)))
              replace b14 := blk_grown b14 lS33_3 (E.nes (by first | assumption | exact Ne.symm (by assumption)))
              replace b19 := blk_grown b19 lS33_3 (E.nes (by first | assumption | exact Ne.symm (by assumption)))
              replace b21 := blk_grown b21 lS33_3 (E.nes (by first | assumption | exact Ne.symm (by assumption)))
              replace L := E.below_own L h22_L lS33_3
              replace k1 := E.below_own k1 h22_k1 lS33_3
              replace kx := E.below_own kx h22_kx lS33_3
              replace k2 := E.below_own k2 h22_k2 lS33_3
              replace ka := E.below_own ka h22_ka lS33_3
              replace b22 := c22
              clear c22
              replace R3 := E.R_over R3 p22 (by decide) lS33_3
              replace Q3 := E.R_over Q3 p22 (by decide) lS33_3
              refine E.gd (E.qc (E.cs (E.cl (E.gr rfl (E.Runs.fieldAddr rfl rfl hu29 rfl (by assumption) rfl) ?_))))
              refine E.gr rfl (E.Runs.load1 rfl rfl hu27 rfl (by first | assumption | exact E.blkc (by assumption) rfl | exact pw_cell_below L (by assumption) | exact pw_cell_below k1 (by assumption) | exact pw_cell_below kx (by assumption) | exact pw_cell_below k2 (by assumption) | exact pw_cell_below ka (by assumption))) ?_
              refine E.gr rfl (E.Runs.fieldAddr rfl rfl hu31 rfl (by assumption) rfl) ?_
              refine E.gr rfl (E.Runs.load rfl rfl hu3 (by first | assumption | exact E.blkc (by assumption) rfl | exact pw_cell_below L (by assumption) | exact pw_cell_below k1 (by assumption) | exact pw_cell_below kx (by assumption) | exact pw_cell_below k2 (by assumption) | exact pw_cell_below ka (by assumption))) ?_
              refine E.gr rfl (E.Runs.fieldAddr rfl rfl hu31 rfl (by assumption) rfl) ?_
              refine E.gr rfl (E.Runs.load rfl rfl hu3 (by first | assumption | exact E.blkc (by assumption) rfl | exact pw_cell_below L (by assumption) | exact pw_cell_below k1 (by assumption) | exact pw_cell_below kx (by assumption) | exact pw_cell_below k2 (by assumption) | exact pw_cell_below ka (by assumption))) ?_
              refine E.gr rfl (E.Runs.fieldAddr rfl rfl hu31 rfl (by assumption) rfl) ?_
              refine E.gr rfl (E.Runs.load rfl rfl hu3 (by first | assumption | exact E.blkc (by assumption) rfl | exact pw_cell_below L (by assumption) | exact pw_cell_below k1 (by assumption) | exact pw_cell_below kx (by assumption) | exact pw_cell_below k2 (by assumption) | exact pw_cell_below ka (by assumption))) ?_
              refine E.gm rfl rfl rfl (E.gr rfl (E.Runs.mul rfl rfl rfl (IntWalk.i64_in _ (by omega))) ?_)
              refine E.gr rfl (E.Runs.build rfl (E.epc rfl (E.epc rfl (E.epc rfl (E.epc rfl (E.epc rfl E.epn))))) (build55e _ _ _ _ _)) ?_
              refine E.GL.st rfl rfl rfl (E.ST.lit rfl (E.epc rfl E.epn) (lit27_1 (⟨4, 2, film, week, 0, price * ((t.1 + t.2.1 + t.2.2 : Nat) : Int)⟩ : S55)) ?_)
              refine E.GL.st rfl rfl rfl (E.ST.appendW k55 wX.heap.size (w0 := wX) (s := .tmp 232) (x := .tmp 242) rfl hu27 info55 rfl (by decide) (by decide) (⟨4, 2, film, week, 0, price * ((t.1 + t.2.1 + t.2.2 : Nat) : Int)⟩ : S55) rfl rfl (k55_mkM _ _ _ _) (fun _ _ => trivial) R3 ka ka.size (by show (3 + 1) * 48 ≤ 140737488355328; omega) fun u243 w243 r243 k243 g243 o243 => ?_)
              replace b3 := blk_grown b3 g243 (Kd.R_ne R3 b3 (by decide))
              replace b7 := blk_grown b7 g243 (Kd.R_ne R3 b7 (by decide))
              replace b8 := blk_grown b8 g243 (Kd.R_ne R3 b8 (by decide))
              replace b14 := blk_grown b14 g243 (Kd.R_ne R3 b14 (by decide))
              replace b19 := blk_grown b19 g243 (Kd.R_ne R3 b19 (by decide))
              replace b21 := blk_grown b21 g243 (Kd.R_ne R3 b21 (by decide))
              replace b22 := blk_grown b22 g243 (Kd.R_ne R3 b22 (by decide))
              replace L := L.grown g243 L.size (fun k e => by have := Kd.R_base R3 k e; omega)
              replace k1 := k1.grown g243 k1.size (fun k e => by have := Kd.R_base R3 k e; omega)
              replace kx := kx.grown g243 kx.size (fun k e => by have := Kd.R_base R3 k e; omega)
              replace k2 := k2.grown g243 k2.size (fun k e => by have := Kd.R_base R3 k e; omega)
              replace ka := k243
              replace Q3 := E.R_over' Q3 R3 (by decide) g243
              obtain ⟨A243, c243, hu243⟩ := Kd.R_slice r243
              subst hu243
              refine E.gr rfl (E.Runs.fieldAddr rfl rfl hu29 rfl (by assumption) rfl) ?_
              refine E.GL.sn rfl rfl (E.ST.storeSl (cs := [.int .i64 V.tax, .slice m3.A V.cs.length m3.a, .slice m3.B (tR film week (price * ((t.1 : Nat) : Int)) (price * ((t.2.1 : Nat) : Int)) (price * ((t.2.2 : Nat) : Int))).length m3.b]) (cs' := [.int .i64 V.tax, .slice m3.A V.cs.length m3.a, .slice A243 ((tR film week (price * ((t.1 : Nat) : Int)) (price * ((t.2.1 : Nat) : Int)) (price * ((t.2.2 : Nat) : Int))) ++ [(⟨4, 2, film, week, 0, price * ((t.1 + t.2.1 + t.2.2 : Nat) : Int)⟩ : S55)]).length c243]) rfl z27 o27 rfl rfl b22 rfl rfl fun wY cY lY => ?_)
              have p22 := b22
              replace b3 := blk_grown b3 lY (E.nes (by first | assumption | exact Ne.symm (by assumption)))
              replace b7 := blk_grown b7 lY (E.nes (by first | assumption | exact Ne.symm (by assumption)))
              replace b8 := blk_grown b8 lY (E.nes (by first | assumption | exact Ne.symm (by assumption)))
              replace b14 := blk_grown b14 lY (E.nes (by first | assumption | exact Ne.symm (by assumption)))
              replace b19 := blk_grown b19 lY (E.nes (by first | assumption | exact Ne.symm (by assumption)))
              replace b21 := blk_grown b21 lY (E.nes (by first | assumption | exact Ne.symm (by assumption)))
              replace L := E.below_own L h22_L lY
              replace k1 := E.below_own k1 h22_k1 lY
              replace kx := E.below_own kx h22_kx lY
              replace k2 := E.below_own k2 h22_k2 lY
              replace ka := E.below_own ka h22_ka lY
              replace b22 : wY.heap[g22]? = some (.cells #[.int .i64 V.tax, .slice m3.A V.cs.length m3.a, .slice A243 ((tR film week (price * ((t.1 : Nat) : Int)) (price * ((t.2.1 : Nat) : Int)) (price * ((t.2.2 : Nat) : Int))) ++ [(⟨4, 2, film, week, 0, price * ((t.1 + t.2.1 + t.2.2 : Nat) : Int)⟩ : S55)]).length c243] 29 (0, 0)) := cY
              have hC3 := (Kd.R_reads' (E.R_over Q3 p22 (by decide) lY)).2.2
              have hCU := (Kd.R_reads' (E.R_over r243 p22 (by decide) lY)).2.2
              have ky := Below.refl wY.heap.size wY
              refine E.gd (E.qc (E.cs ?_))
              subst hcf
              refine E.cl (E.gr rfl (E.Runs.loads (cs := [.int .i64 V.tax, .slice m1.A V.cs.length m1.a, .slice (some ⟨gR, 0, none⟩) 3 cR]) rfl rfl hu29 rfl info29s (blk_cells b19)) ?_)
              refine E.gr rfl (E.Runs.fieldAddr rfl rfl hu31 rfl (by assumption) rfl) ?_
              refine E.gr rfl (E.Runs.load rfl rfl hu3 (by first | assumption | exact E.blkc (by assumption) rfl | exact pw_cell_below L (by assumption) | exact pw_cell_below k1 (by assumption) | exact pw_cell_below kx (by assumption) | exact pw_cell_below k2 (by assumption) | exact pw_cell_below ka (by assumption) | exact pw_cell_below ky (by assumption))) ?_
              refine E.gr rfl (E.Runs.fieldAddr rfl rfl hu31 rfl (by assumption) rfl) ?_
              refine E.gr rfl (E.Runs.load rfl rfl hu3 (by first | assumption | exact E.blkc (by assumption) rfl | exact pw_cell_below L (by assumption) | exact pw_cell_below k1 (by assumption) | exact pw_cell_below kx (by assumption) | exact pw_cell_below k2 (by assumption) | exact pw_cell_below ka (by assumption) | exact pw_cell_below ky (by assumption))) ?_
              refine E.GL.st rfl rfl rfl (E.ST.call rfl ent13 (E.evc rfl (E.evc rfl (E.evc rfl E.evn))) ((week_g V.tax V.cs (tR c.f0 week (price * ((t.1 : Nat) : Int)) (price * ((t.2.1 : Nat) : Int)) (price * ((t.2.2 : Nat) : Int))) ⟨m1.A, m1.a, some ⟨gR, 0, none⟩, cR⟩ c _ ⟨Kd.C_below hR1.bm.cs k1, Kd.C_below Cr kx⟩ bok (rs_tR bok.d hcm hww hb0 hb1 hb2) hR1.cap hcm week hww _ ((gro_tR _ _ _ _ _).trans (sum_mul _ _ _ _))).mono ?_))
              rintro e w251 ⟨rfl, l251⟩
              refine ⟨_, rfl, ?_⟩
              replace b3 := blk_below b3 l251
              replace b7 := blk_below b7 l251
              replace b8 := blk_below b8 l251
              replace b14 := blk_below b14 l251
              replace b19 := blk_below b19 l251
              replace b21 := blk_below b21 l251
              replace b22 := blk_below b22 l251
              replace L := below_step L l251
              replace k1 := below_step k1 l251
              replace kx := below_step kx l251
              replace k2 := below_step k2 l251
              replace ka := below_step ka l251
              replace ky := below_step ky l251
              refine E.gm rfl rfl rfl (E.gr rfl (E.Runs.extract rfl rfl rfl) ?_)
              refine E.gr rfl (E.Runs.extract rfl rfl rfl) ?_
              refine E.GL.st rfl rfl rfl (E.ST.alloc rfl info57z fun g23 w23 e23 b23 l23 => ?_)
              have h23_L : w.heap.size ≤ g23 := by rw [e23]; exact L.size
              have h23_k1 : w184.heap.size ≤ g23 := by rw [e23]; exact k1.size
              have h23_kx : w28.heap.size ≤ g23 := by rw [e23]; exact kx.size
              have h23_k2 : w210.heap.size ≤ g23 := by rw [e23]; exact k2.size
              have h23_ka : wX.heap.size ≤ g23 := by rw [e23]; exact ka.size
              have h23_ky : wY.heap.size ≤ g23 := by rw [e23]; exact ky.size
              have n23_b3 : g3 ≠ g23 := by have := blk_lt b3; omega
              have n23_b7 : g7 ≠ g23 := by have := blk_lt b7; omega
              have n23_b8 : g8 ≠ g23 := by have := blk_lt b8; omega
              have n23_b14 : g14 ≠ g23 := by have := blk_lt b14; omega
              have n23_b19 : g19 ≠ g23 := by have := blk_lt b19; omega
              have n23_b21 : g21 ≠ g23 := by have := blk_lt b21; omega
              have n23_b22 : g22 ≠ g23 := by have := blk_lt b22; omega
              replace b3 := blk_below b3 l23
              replace b7 := blk_below b7 l23
              replace b8 := blk_below b8 l23
              replace b14 := blk_below b14 l23
              replace b19 := blk_below b19 l23
              replace b21 := blk_below b21 l23
              replace b22 := blk_below b22 l23
              replace L := below_step L l23
              replace k1 := below_step k1 l23
              replace kx := below_step kx l23
              replace k2 := below_step k2 l23
              replace ka := below_step ka l23
              replace ky := below_step ky l23
              refine E.GL.store_whole rfl rfl rfl rfl rfl b23 rfl info57s (int6_one _ _ _ _ _ _) fun wS35_10 c23 lS35_10 => ?_
              replace b3 := blk_grown b3 lS35_10 (E.nes (by first | assumption | exact Ne.symm (by assumption)))
              replace b7 := blk_grown b7 lS35_10 (E.nes (by first | assumption | exact Ne.symm (by assumption)))
              replace b8 := blk_grown b8 lS35_10 (E.nes (by first | assumption | exact Ne.symm (by assumption)))
              replace b14 := blk_grown b14 lS35_10 (E.nes (by first | assumption | exact Ne.symm (by assumption)))
              replace b19 := blk_grown b19 lS35_10 (E.nes (by first | assumption | exact Ne.symm (by assumption)))
              replace b21 := blk_grown b21 lS35_10 (E.nes (by first | assumption | exact Ne.symm (by assumption)))
              replace b22 := blk_grown b22 lS35_10 (E.nes (by first | assumption | exact Ne.symm (by assumption)))
              replace L := E.below_own L h23_L lS35_10
              replace k1 := E.below_own k1 h23_k1 lS35_10
              replace kx := E.below_own kx h23_kx lS35_10
              replace k2 := E.below_own k2 h23_k2 lS35_10
              replace ka := E.below_own ka h23_ka lS35_10
              replace ky := E.below_own ky h23_ky lS35_10
              replace b23 := c23
              clear c23
              refine E.ga rfl rfl rfl (E.gd (E.qc (E.cs (E.cl (E.gr rfl (E.Runs.loads (cs := [.int .i64 V.tax, .slice m2.A V.cs.length m2.a, .slice (some ⟨gA, 0, none⟩) 4 4]) rfl rfl hu29 rfl info29s (blk_cells b21)) ?_)))))
              refine E.gr rfl (E.Runs.fieldAddr rfl rfl hu31 rfl (by assumption) rfl) ?_
              refine E.gr rfl (E.Runs.load rfl rfl hu3 (by first | assumption | exact E.blkc (by assumption) rfl | exact pw_cell_below L (by assumption) | exact pw_cell_below k1 (by assumption) | exact pw_cell_below kx (by assumption) | exact pw_cell_below k2 (by assumption) | exact pw_cell_below ka (by assumption) | exact pw_cell_below ky (by assumption))) ?_
              refine E.gr rfl (E.Runs.fieldAddr rfl rfl hu31 rfl (by assumption) rfl) ?_
              refine E.gr rfl (E.Runs.load rfl rfl hu3 (by first | assumption | exact E.blkc (by assumption) rfl | exact pw_cell_below L (by assumption) | exact pw_cell_below k1 (by assumption) | exact pw_cell_below kx (by assumption) | exact pw_cell_below k2 (by assumption) | exact pw_cell_below ka (by assumption) | exact pw_cell_below ky (by assumption))) ?_
              refine E.GL.st rfl rfl rfl (E.ST.call rfl ent13 (E.evc rfl (E.evc rfl (E.evc rfl E.evn))) ((week_g V.tax V.cs (tA c.f0 week (price * ((t.1 : Nat) : Int)) (price * ((t.2.1 : Nat) : Int)) (price * ((t.2.2 : Nat) : Int))) ⟨m2.A, m2.a, some ⟨gA, 0, none⟩, 4⟩ c _ ⟨Kd.C_below hR2.bm.cs k2, Kd.C_below hCA ka⟩ bok (rs_tA bok.d hcm hww hb0 hb1 hb2) hR2.cap hcm week hww _ ((gro_tA _ _ _ _ _).trans (sum_mul _ _ _ _))).mono ?_))
              rintro e w260 ⟨rfl, l260⟩
              refine ⟨_, rfl, ?_⟩
              replace b3 := blk_below b3 l260
              replace b7 := blk_below b7 l260
              replace b8 := blk_below b8 l260
              replace b14 := blk_below b14 l260
              replace b19 := blk_below b19 l260
              replace b21 := blk_below b21 l260
              replace b22 := blk_below b22 l260
              replace b23 := blk_below b23 l260
              replace L := below_step L l260
              replace k1 := below_step k1 l260
              replace kx := below_step kx l260
              replace k2 := below_step k2 l260
              replace ka := below_step ka l260
              replace ky := below_step ky l260
              refine E.gm rfl rfl rfl (E.gr rfl (E.Runs.extract rfl rfl rfl) ?_)
              refine E.gr rfl (E.Runs.extract rfl rfl rfl) ?_
              refine E.GL.st rfl rfl rfl (E.ST.alloc rfl info57z fun g25 w25 e25 b25 l25 => ?_)
              have h25_L : w.heap.size ≤ g25 := by rw [e25]; exact L.size
              have h25_k1 : w184.heap.size ≤ g25 := by rw [e25]; exact k1.size
              have h25_kx : w28.heap.size ≤ g25 := by rw [e25]; exact kx.size
              have h25_k2 : w210.heap.size ≤ g25 := by rw [e25]; exact k2.size
              have h25_ka : wX.heap.size ≤ g25 := by rw [e25]; exact ka.size
              have h25_ky : wY.heap.size ≤ g25 := by rw [e25]; exact ky.size
              have n25_b3 : g3 ≠ g25 := by have := blk_lt b3; omega
              have n25_b7 : g7 ≠ g25 := by have := blk_lt b7; omega
              have n25_b8 : g8 ≠ g25 := by have := blk_lt b8; omega
              have n25_b14 : g14 ≠ g25 := by have := blk_lt b14; omega
              have n25_b19 : g19 ≠ g25 := by have := blk_lt b19; omega
              have n25_b21 : g21 ≠ g25 := by have := blk_lt b21; omega
              have n25_b22 : g22 ≠ g25 := by have := blk_lt b22; omega
              have n25_b23 : g23 ≠ g25 := by have := blk_lt b23; omega
              replace b3 := blk_below b3 l25
              replace b7 := blk_below b7 l25
              replace b8 := blk_below b8 l25
              replace b14 := blk_below b14 l25
              replace b19 := blk_below b19 l25
              replace b21 := blk_below b21 l25
              replace b22 := blk_below b22 l25
              replace b23 := blk_below b23 l25
              replace L := below_step L l25
              replace k1 := below_step k1 l25
              replace kx := below_step kx l25
              replace k2 := below_step k2 l25
              replace ka := below_step ka l25
              replace ky := below_step ky l25
              refine E.GL.store_whole rfl rfl rfl rfl rfl b25 rfl info57s (int6_one _ _ _ _ _ _) fun wS36_10 c25 lS36_10 => ?_
              replace b3 := blk_grown b3 lS36_10 (E.nes (by first | assumption | exact Ne.symm (by assumption)))
              replace b7 := blk_grown b7 lS36_10 (E.nes (by first | assumption | exact Ne.symm (by assumption)))
              replace b8 := blk_grown b8 lS36_10 (E.nes (by first | assumption | exact Ne.symm (by assumption)))
              replace b14 := blk_grown b14 lS36_10 (E.nes (by first | assumption | exact Ne.symm (by assumption)))
              replace b19 := blk_grown b19 lS36_10 (E.nes (by first | assumption | exact Ne.symm (by assumption)))
              replace b21 := blk_grown b21 lS36_10 (E.nes (by first | assumption | exact Ne.symm (by assumption)))
              replace b22 := blk_grown b22 lS36_10 (E.nes (by first | assumption | exact Ne.symm (by assumption)))
              replace b23 := blk_grown b23 lS36_10 (E.nes (by first | assumption | exact Ne.symm (by assumption)))
              replace L := E.below_own L h25_L lS36_10
              replace k1 := E.below_own k1 h25_k1 lS36_10
              replace kx := E.below_own kx h25_kx lS36_10
              replace k2 := E.below_own k2 h25_k2 lS36_10
              replace ka := E.below_own ka h25_ka lS36_10
              replace ky := E.below_own ky h25_ky lS36_10
              replace b25 := c25
              clear c25
              refine E.ga rfl rfl rfl (E.gd (E.qc (E.cs (E.cl (E.gr rfl (E.Runs.loads (cs := [.int .i64 V.tax, .slice m3.A V.cs.length m3.a, .slice A243 ((tR c.f0 week (price * ((t.1 : Nat) : Int)) (price * ((t.2.1 : Nat) : Int)) (price * ((t.2.2 : Nat) : Int))) ++ [(⟨4, 2, c.f0, week, 0, price * ((t.1 + t.2.1 + t.2.2 : Nat) : Int)⟩ : S55)]).length c243]) rfl rfl hu29 rfl info29s (blk_cells b22)) ?_)))))
              refine E.gr rfl (E.Runs.fieldAddr rfl rfl hu31 rfl (by assumption) rfl) ?_
              refine E.gr rfl (E.Runs.load rfl rfl hu3 (by first | assumption | exact E.blkc (by assumption) rfl | exact pw_cell_below L (by assumption) | exact pw_cell_below k1 (by assumption) | exact pw_cell_below kx (by assumption) | exact pw_cell_below k2 (by assumption) | exact pw_cell_below ka (by assumption) | exact pw_cell_below ky (by assumption))) ?_
              refine E.gr rfl (E.Runs.fieldAddr rfl rfl hu31 rfl (by assumption) rfl) ?_
              refine E.gr rfl (E.Runs.load rfl rfl hu3 (by first | assumption | exact E.blkc (by assumption) rfl | exact pw_cell_below L (by assumption) | exact pw_cell_below k1 (by assumption) | exact pw_cell_below kx (by assumption) | exact pw_cell_below k2 (by assumption) | exact pw_cell_below ka (by assumption) | exact pw_cell_below ky (by assumption))) ?_
              refine E.GL.st rfl rfl rfl (E.ST.call rfl ent13 (E.evc rfl (E.evc rfl (E.evc rfl E.evn))) ((week_g V.tax V.cs (tU c.f0 week (price * ((t.1 : Nat) : Int)) (price * ((t.2.1 : Nat) : Int)) (price * ((t.2.2 : Nat) : Int)) (price * ((t.1 + t.2.1 + t.2.2 : Nat) : Int))) ⟨m3.A, m3.a, A243, c243⟩ c _ ⟨Kd.C_below hC3 ky, Kd.C_below hCU ky⟩ bok (rs_tU bok.d hcm hww hb0 hb1 hb2 hbs) hR3.cap hcm week hww _ (gro_tU _ _ _ _ _ _)).mono ?_))
              rintro e w269 ⟨rfl, l269⟩
              refine ⟨_, rfl, ?_⟩
              replace b3 := blk_below b3 l269
              replace b7 := blk_below b7 l269
              replace b8 := blk_below b8 l269
              replace b14 := blk_below b14 l269
              replace b19 := blk_below b19 l269
              replace b21 := blk_below b21 l269
              replace b22 := blk_below b22 l269
              replace b23 := blk_below b23 l269
              replace b25 := blk_below b25 l269
              replace L := below_step L l269
              replace k1 := below_step k1 l269
              replace kx := below_step kx l269
              replace k2 := below_step k2 l269
              replace ka := below_step ka l269
              replace ky := below_step ky l269
              refine E.gm rfl rfl rfl (E.gr rfl (E.Runs.extract rfl rfl rfl) ?_)
              refine E.gr rfl (E.Runs.extract rfl rfl rfl) ?_
              refine E.GL.st rfl rfl rfl (E.ST.alloc rfl info57z fun g27 w27 e27 b27 l27 => ?_)
              have h27_L : w.heap.size ≤ g27 := by rw [e27]; exact L.size
              have h27_k1 : w184.heap.size ≤ g27 := by rw [e27]; exact k1.size
              have h27_kx : w28.heap.size ≤ g27 := by rw [e27]; exact kx.size
              have h27_k2 : w210.heap.size ≤ g27 := by rw [e27]; exact k2.size
              have h27_ka : wX.heap.size ≤ g27 := by rw [e27]; exact ka.size
              have h27_ky : wY.heap.size ≤ g27 := by rw [e27]; exact ky.size
              have n27_b3 : g3 ≠ g27 := by have := blk_lt b3; omega
              have n27_b7 : g7 ≠ g27 := by have := blk_lt b7; omega
              have n27_b8 : g8 ≠ g27 := by have := blk_lt b8; omega
              have n27_b14 : g14 ≠ g27 := by have := blk_lt b14; omega
              have n27_b19 : g19 ≠ g27 := by have := blk_lt b19; omega
              have n27_b21 : g21 ≠ g27 := by have := blk_lt b21; omega
              have n27_b22 : g22 ≠ g27 := by have := blk_lt b22; omega
              have n27_b23 : g23 ≠ g27 := by have := blk_lt b23; omega
              have n27_b25 : g25 ≠ g27 := by have := blk_lt b25; omega
              replace b3 := blk_below b3 l27
              replace b7 := blk_below b7 l27
              replace b8 := blk_below b8 l27
              replace b14 := blk_below b14 l27
              replace b19 := blk_below b19 l27
              replace b21 := blk_below b21 l27
              replace b22 := blk_below b22 l27
              replace b23 := blk_below b23 l27
              replace b25 := blk_below b25 l27
              replace L := below_step L l27
              replace k1 := below_step k1 l27
              replace kx := below_step kx l27
              replace k2 := below_step k2 l27
              replace ka := below_step ka l27
              replace ky := below_step ky l27
              refine E.GL.store_whole rfl rfl rfl rfl rfl b27 rfl info57s (int6_one _ _ _ _ _ _) fun wS37_10 c27 lS37_10 => ?_
              replace b3 := blk_grown b3 lS37_10 (E.nes (by first | assumption | exact Ne.symm (by assumption)))
              replace b7 := blk_grown b7 lS37_10 (E.nes (by first | assumption | exact Ne.symm (by assumption)))
              replace b8 := blk_grown b8 lS37_10 (E.nes (by first | assumption | exact Ne.symm (by assumption)))
              replace b14 := blk_grown b14 lS37_10 (E.nes (by first | assumption | exact Ne.symm (by assumption)))
              replace b19 := blk_grown b19 lS37_10 (E.nes (by first | assumption | exact Ne.symm (by assumption)))
              replace b21 := blk_grown b21 lS37_10 (E.nes (by first | assumption | exact Ne.symm (by assumption)))
              replace b22 := blk_grown b22 lS37_10 (E.nes (by first | assumption | exact Ne.symm (by assumption)))
              replace b23 := blk_grown b23 lS37_10 (E.nes (by first | assumption | exact Ne.symm (by assumption)))
              replace b25 := blk_grown b25 lS37_10 (E.nes (by first | assumption | exact Ne.symm (by assumption)))
              replace L := E.below_own L h27_L lS37_10
              replace k1 := E.below_own k1 h27_k1 lS37_10
              replace kx := E.below_own kx h27_kx lS37_10
              replace k2 := E.below_own k2 h27_k2 lS37_10
              replace ka := E.below_own ka h27_ka lS37_10
              replace ky := E.below_own ky h27_ky lS37_10
              replace b27 := c27
              clear c27
              refine E.ga rfl rfl rfl (E.gd (E.qc (E.cs (E.cl (E.gm rfl rfl rfl (E.gr rfl (E.Runs.eql rfl rfl rfl (decide_eq_true rfl)) ?_))))))
              refine E.gm rfl rfl rfl (E.gm rfl rfl rfl (E.gr rfl (E.Runs.eql rfl rfl rfl (decide_eq_true rfl)) ?_))
              refine E.gt rfl rfl rfl rfl (E.gm rfl rfl rfl (E.gm rfl rfl rfl (E.gr rfl (E.Runs.eql rfl rfl rfl (decide_eq_true rfl)) ?_)))
              refine E.gt rfl rfl rfl rfl (E.gm rfl rfl rfl (E.gr rfl (E.Runs.fieldAddr rfl rfl hu57 rfl (by assumption) rfl) ?_))
              refine E.gr rfl (E.Runs.load rfl rfl hu3 (by first | assumption | exact E.blkc (by assumption) rfl | exact pw_cell_below L (by assumption) | exact pw_cell_below k1 (by assumption) | exact pw_cell_below kx (by assumption) | exact pw_cell_below k2 (by assumption) | exact pw_cell_below ka (by assumption) | exact pw_cell_below ky (by assumption))) ?_
              refine E.gr rfl (E.Runs.fieldAddr rfl rfl hu31 rfl (by assumption) rfl) ?_
              refine E.gr rfl (E.Runs.load rfl rfl hu3 (by first | assumption | exact E.blkc (by assumption) rfl | exact pw_cell_below L (by assumption) | exact pw_cell_below k1 (by assumption) | exact pw_cell_below kx (by assumption) | exact pw_cell_below k2 (by assumption) | exact pw_cell_below ka (by assumption) | exact pw_cell_below ky (by assumption))) ?_
              refine E.gm rfl rfl rfl (E.gr rfl (E.Runs.mul rfl rfl rfl (IntWalk.i64_in _ (by omega))) ?_)
              refine E.gr rfl (E.Runs.eql rfl rfl rfl (decide_eq_true rfl)) ?_
              refine E.gt rfl rfl rfl rfl (E.gm rfl rfl rfl (E.gr rfl (E.Runs.loads (cs := [.int .i64 (accV V.tax c week (price * ((t.1 + t.2.1 + t.2.2 : Nat) : Int))).f0, .int .i64 (accV V.tax c week (price * ((t.1 + t.2.1 + t.2.2 : Nat) : Int))).f1, .int .i64 (accV V.tax c week (price * ((t.1 + t.2.1 + t.2.2 : Nat) : Int))).f2, .int .i64 (accV V.tax c week (price * ((t.1 + t.2.1 + t.2.2 : Nat) : Int))).f3, .int .i64 (accV V.tax c week (price * ((t.1 + t.2.1 + t.2.2 : Nat) : Int))).f4, .int .i64 (accV V.tax c week (price * ((t.1 + t.2.1 + t.2.2 : Nat) : Int))).f5]) rfl rfl hu57 rfl info57s (blk_cells b23)) ?_))
              refine E.gr rfl (E.Runs.loads (cs := [.int .i64 (accV V.tax c week (price * ((t.1 + t.2.1 + t.2.2 : Nat) : Int))).f0, .int .i64 (accV V.tax c week (price * ((t.1 + t.2.1 + t.2.2 : Nat) : Int))).f1, .int .i64 (accV V.tax c week (price * ((t.1 + t.2.1 + t.2.2 : Nat) : Int))).f2, .int .i64 (accV V.tax c week (price * ((t.1 + t.2.1 + t.2.2 : Nat) : Int))).f3, .int .i64 (accV V.tax c week (price * ((t.1 + t.2.1 + t.2.2 : Nat) : Int))).f4, .int .i64 (accV V.tax c week (price * ((t.1 + t.2.1 + t.2.2 : Nat) : Int))).f5]) rfl rfl hu57 rfl info57s (blk_cells b25)) ?_
              refine E.gr rfl (E.Runs.eqlv rfl rfl rfl rfl (fun _ _ W => run_eqGuard_agg W _ _ _ _ _ _ Try.eqGuardType57) (fun W => (equal57 (accV V.tax c week (price * ((t.1 + t.2.1 + t.2.2 : Nat) : Int))) (accV V.tax c week (price * ((t.1 + t.2.1 + t.2.2 : Nat) : Int))) W).trans (by rw [decide_eq_true rfl]))) ?_
              refine E.gt rfl rfl rfl rfl (E.gm rfl rfl rfl (E.gr rfl (E.Runs.loads (cs := [.int .i64 (accV V.tax c week (price * ((t.1 + t.2.1 + t.2.2 : Nat) : Int))).f0, .int .i64 (accV V.tax c week (price * ((t.1 + t.2.1 + t.2.2 : Nat) : Int))).f1, .int .i64 (accV V.tax c week (price * ((t.1 + t.2.1 + t.2.2 : Nat) : Int))).f2, .int .i64 (accV V.tax c week (price * ((t.1 + t.2.1 + t.2.2 : Nat) : Int))).f3, .int .i64 (accV V.tax c week (price * ((t.1 + t.2.1 + t.2.2 : Nat) : Int))).f4, .int .i64 (accV V.tax c week (price * ((t.1 + t.2.1 + t.2.2 : Nat) : Int))).f5]) rfl rfl hu57 rfl info57s (blk_cells b23)) ?_))
              refine E.gr rfl (E.Runs.loads (cs := [.int .i64 (accV V.tax c week (price * ((t.1 + t.2.1 + t.2.2 : Nat) : Int))).f0, .int .i64 (accV V.tax c week (price * ((t.1 + t.2.1 + t.2.2 : Nat) : Int))).f1, .int .i64 (accV V.tax c week (price * ((t.1 + t.2.1 + t.2.2 : Nat) : Int))).f2, .int .i64 (accV V.tax c week (price * ((t.1 + t.2.1 + t.2.2 : Nat) : Int))).f3, .int .i64 (accV V.tax c week (price * ((t.1 + t.2.1 + t.2.2 : Nat) : Int))).f4, .int .i64 (accV V.tax c week (price * ((t.1 + t.2.1 + t.2.2 : Nat) : Int))).f5]) rfl rfl hu57 rfl info57s (blk_cells b27)) ?_
              refine E.gr rfl (E.Runs.eqlv rfl rfl rfl rfl (fun _ _ W => run_eqGuard_agg W _ _ _ _ _ _ Try.eqGuardType57) (fun W => (equal57 (accV V.tax c week (price * ((t.1 + t.2.1 + t.2.2 : Nat) : Int))) (accV V.tax c week (price * ((t.1 + t.2.1 + t.2.2 : Nat) : Int))) W).trans (by rw [decide_eq_true rfl]))) ?_
              refine E.gt rfl rfl rfl rfl (E.gm rfl rfl rfl ?_)
              refine E.GL.st rfl rfl rfl (E.ST.call rfl ent9 E.evn ((boxed9 _).mono ?_))
              rintro e w302 ⟨rfl, l302⟩
              refine ⟨_, rfl, ?_⟩
              replace b3 := blk_below b3 l302
              replace b7 := blk_below b7 l302
              replace b8 := blk_below b8 l302
              replace b14 := blk_below b14 l302
              replace b19 := blk_below b19 l302
              replace b21 := blk_below b21 l302
              replace b22 := blk_below b22 l302
              replace b23 := blk_below b23 l302
              replace b25 := blk_below b25 l302
              replace b27 := blk_below b27 l302
              replace L := below_step L l302
              replace k1 := below_step k1 l302
              replace kx := below_step kx l302
              replace k2 := below_step k2 l302
              replace ka := below_step ka l302
              replace ky := below_step ky l302
              refine E.gt rfl rfl rfl rfl (E.ga rfl rfl rfl (E.gd (E.qc (E.CG.ret ?_))))
              exact E.QG.result rfl rfl ⟨rfl, L⟩
   ·refine E.gr rfl (E.Runs.pick_f rfl rfl rfl) ?_
    refine E.gm rfl rfl rfl (E.gk rfl (E.gk rfl (E.gk rfl (E.gt rfl rfl rfl rfl (E.gm rfl rfl rfl (E.gk rfl (E.gk rfl (E.gt rfl rfl rfl rfl (E.gm rfl rfl rfl ?_)))))))))
    refine E.gk rfl (E.gk rfl (E.gk rfl (E.gk rfl (E.gk rfl (E.gt rfl rfl rfl rfl (E.gm rfl rfl rfl (E.gk rfl (E.gk rfl (E.gk rfl ?_)))))))))
    refine E.gk rfl (E.gk rfl (E.gt rfl rfl rfl rfl (E.gm rfl rfl rfl (E.gk rfl (E.gk rfl (E.gk rfl (E.gt rfl rfl rfl rfl (E.gm rfl rfl rfl (E.gk rfl ?_)))))))))
    refine E.gk rfl (E.gk rfl (E.gt rfl rfl rfl rfl (E.gm rfl rfl rfl (E.gk rfl (E.gk rfl (E.gk rfl (E.gt rfl rfl rfl rfl (E.gm rfl rfl rfl (E.gk rfl ?_)))))))))
    refine E.gk rfl (E.gk rfl (E.gt rfl rfl rfl rfl (E.gd (E.qc (E.CG.cond_t rfl (E.cs (E.cl ?_)))))))
    refine E.GL.st rfl rfl rfl (E.ST.call rfl ent9 E.evn ((boxed9 _).mono ?_))
    rintro e w96 ⟨rfl, l96⟩
    refine ⟨_, rfl, ?_⟩
    replace b3 := blk_below b3 l96
    replace b7 := blk_below b7 l96
    replace b8 := blk_below b8 l96
    replace b9 := blk_below b9 l96
    replace L := below_step L l96
    refine E.ga rfl rfl rfl (E.gd (E.qc (E.CG.ret (E.QG.pass_ret ?_))))
    exact E.QG.result rfl rfl ⟨rfl, L⟩
 ·refine E.gm rfl rfl rfl (E.gk rfl (E.gk rfl (E.gk rfl (E.gk rfl (E.gt rfl rfl rfl rfl (E.gm rfl rfl rfl (E.gk rfl (E.gk rfl (E.gt rfl rfl rfl rfl ?_)))))))))
  refine E.gm rfl rfl rfl (E.gk rfl (E.gk rfl (E.gk rfl (E.gt rfl rfl rfl rfl (E.gm rfl rfl rfl (E.gk rfl (E.gk rfl (E.gt rfl rfl rfl rfl (E.gm rfl rfl rfl ?_)))))))))
  refine E.gk rfl (E.gk rfl (E.gk rfl (E.gk rfl (E.gk rfl (E.gt rfl rfl rfl rfl (E.gm rfl rfl rfl (E.gk rfl (E.gk rfl (E.gk rfl ?_)))))))))
  refine E.gk rfl (E.gk rfl (E.gt rfl rfl rfl rfl (E.gm rfl rfl rfl (E.gk rfl (E.gk rfl (E.gk rfl (E.gt rfl rfl rfl rfl (E.gm rfl rfl rfl (E.gk rfl ?_)))))))))
  refine E.gk rfl (E.gk rfl (E.gt rfl rfl rfl rfl (E.gm rfl rfl rfl (E.gk rfl (E.gk rfl (E.gk rfl (E.gt rfl rfl rfl rfl (E.gm rfl rfl rfl (E.gk rfl ?_)))))))))
  refine E.gk rfl (E.gk rfl (E.gt rfl rfl rfl rfl (E.gd (E.qc (E.CG.cond_t rfl (E.cs (E.cl ?_)))))))
  refine E.GL.st rfl rfl rfl (E.ST.call rfl ent9 E.evn ((boxed9 _).mono ?_))
  rintro e w96 ⟨rfl, l96⟩
  refine ⟨_, rfl, ?_⟩
  replace b3 := blk_below b3 l96
  replace b7 := blk_below b7 l96
  replace b8 := blk_below b8 l96
  replace b9 := blk_below b9 l96
  replace L := below_step L l96
  refine E.ga rfl rfl rfl (E.gd (E.qc (E.CG.ret (E.QG.pass_ret ?_))))
  exact E.QG.result rfl rfl ⟨rfl, L⟩

end Go.Proofs.Ytkjefnlhhfpllaa.T
namespace Go.Proofs.Ytkjefnlhhfpllaa.T
open Go.ChangeShapes Go.WideShapes Go.ChangeAt Go.Deep
open Go.RowKit Go.Proofs.YtkjefnlhhfpllaaW.PrintWords Go.Proofs.YtkjefnlhhfpllaaW.PrintMore
open Go.Proofs.Ytkjefnlhhfpllaa.P
set_option linter.unusedVariables false
set_option linter.unusedSimpArgs false

section
variable {X : Type} {enc : TypeId × Value → X} {w : World} {base : Nat} {spare : Nat → Bool} {held : Bool}
theorem fld {fs : Array Field} {n : Nat} {cs : List Value} {xs : List (DataW X × List MemPlace)} (hlen : xs.length = fs.size) (hg : ∀ (i : Nat) (f : Field), fs[i]? = some f → DataW.trod enc Try.prog w base spare held n f.type ((cs.drop f.offset).take (Try.prog.cellsOf f.type)) = xs[i]?) (i : Nat) (f : Field) (hf : fs[i]? = some f)
  (ty : TypeId) (off k : Nat) (h1 : f.type = ty) (h2 : f.offset = off) (h3 : Try.prog.cellsOf ty = k) :
  ∃ y, DataW.trod enc Try.prog w base spare held n ty ((cs.drop off).take k) = some y := by
 have hi : i < xs.length := by rw [hlen]; exact (Array.getElem?_eq_some_iff.1 hf).1
 subst h1 h2 h3
 exact ⟨_, (hg i f hf).trans (List.getElem?_eq_getElem hi)⟩

theorem ocells3 : Try.prog.cellsOf 3 = 1 := by kernel_rfl

theorem trod3 {n : Nat} {cs : List Value} {x : DataW X × List MemPlace} (h : DataW.trod enc Try.prog w base spare held n 3 cs = some x) : ∃ (a : Int), cs = [.int .i64 a] := by
 obtain ⟨a, hc, _⟩ := DataW.trod_int Try.underlying3 h
 exact ⟨a, hc⟩

theorem ocells24 : Try.prog.cellsOf 24 = 2 := by kernel_rfl

theorem ocells22 : Try.prog.cellsOf 22 = 1 := by kernel_rfl

theorem trod22 {n : Nat} {cs : List Value} {x : DataW X × List MemPlace} (h : DataW.trod enc Try.prog w base spare held n 22 cs = some x) : ∃ (aA : Option Addr) (ac : Nat) (al : List Int), cs = [.slice aA al.length ac] ∧ al.length ≤ ac ∧ Kd.C (Kd.int .i64) w aA al.length al := by
 rcases open_slice Try.underlying22 h with ⟨rfl, _⟩ | ⟨a, len, cap, m, k, D, Pl, rfl, hb, hl, hm, hmm, hx, hi⟩
 ·exact ⟨none, 0, [], rfl, Nat.le_refl _, rfl, by simp, fun h => absurd h (by simp)⟩
 ·have hlm : len ≤ m := by rw [hmm]; split <;> omega
  have H : ∀ i, i < len → ∃ s : Int, w.cells? base (a.add (i * 1)) 1 = some [.int .i64 s] := by
   intro i hil
   obtain ⟨cs', hc, ht⟩ := hi i (by omega)
   obtain ⟨a, rfl⟩ := trod3 ht
   rw [ocells3] at hc
   exact ⟨a, hc⟩
  obtain ⟨F, hF⟩ : ∃ F : Nat → Int, ∀ i, i < len → w.cells? base (a.add (i * 1)) 1 = some [.int .i64 (F i)] := by
   refine ⟨fun i => if h : i < len then (H i h).choose else 0, fun i h => ?_⟩
   simp only [dif_pos h]
   exact (H i h).choose_spec
  refine ⟨some a, cap, (List.range len).map F, by simp, by simpa using hl, ?_, ?_, ?_⟩
  ·rfl
  ·simp only [List.length_map, List.length_range]
   unfold maxLen at hm
   omega
  ·intro _
   refine ⟨a, rfl, fun j p hj => ?_⟩
   have hjl : j < len := by
    have := (List.getElem?_eq_some_iff.1 hj).1
    simpa using this
   have hp : p = F j := by
    rw [List.getElem?_map, List.getElem?_range hjl] at hj
    simpa using hj.symm
   subst hp
   refine ⟨[.int .i64 (F j)], rfl, rfl, ?_⟩
   intro i u hu
   obtain ⟨_, hcl, hat⟩ := World.cells?_some (hF j hjl)
   have hil : i < 1 := (List.getElem?_eq_some_iff.1 hu).1
   have := hat i hil
   rw [Go.Deep.add_add] at this
   rw [show j * ((Kd.int .i64)).sz + i = j * 1 + i from rfl, this, hu]

theorem list_of2 {cs : List Value} (h : cs.length = 2) : ∃ v0 v1, cs = [v0, v1] := by
 match cs, h with
 | [v0, v1], _ => exact ⟨v0, v1, rfl⟩

theorem trod24 {n : Nat} {cs : List Value} {x : DataW X × List MemPlace} (h : DataW.trod enc Try.prog w base spare held n 24 cs = some x) : ∃ (a_0A : Option Addr) (a_0c : Nat) (a_0l : List Int) (a_1 : Int), cs = [.slice a_0A a_0l.length a_0c, .int .i64 a_1] ∧ a_0l.length ≤ a_0c ∧ Kd.C (Kd.int .i64) w a_0A a_0l.length a_0l := by
 obtain ⟨xs, m, _, hx, hl, hlen, hg⟩ := DataW.trod_struct Try.underlying24 h
 rw [ocells24] at hl
 obtain ⟨v0, v1, rfl⟩ := list_of2 hl
 obtain ⟨y0, h0⟩ := fld hlen hg 0 _ rfl 22 0 1 rfl rfl ocells22
 obtain ⟨y1, h1⟩ := fld hlen hg 1 _ rfl 3 1 1 rfl rfl ocells3
 obtain ⟨a_0A, a_0c, a_0l, e0, f0_0, f0_1⟩ := trod22 h0
 obtain ⟨a_1, e1⟩ := trod3 h1
 simp only [List.drop_zero, List.take_succ_cons, List.take_zero, List.drop_succ_cons, List.cons.injEq, and_true] at e0 e1
 subst e0 e1
 exact ⟨a_0A, a_0c, a_0l, a_1, rfl, f0_0, f0_1⟩

set_option maxRecDepth 100000 in
theorem hall_open {r : Reach} {b0 : Nat} {v : Value} {d : DataW X} {p : List MemPlace} (hval : Value.okWide Try.prog w r b0 24 v) (h : DataW.Trod enc Try.prog w base spare held 24 v d p) : ∃ (a_0A : Option Addr) (a_0c : Nat) (a_0l : List Int) (a_1 : Int), v = .agg #[.slice a_0A a_0l.length a_0c, .int .i64 a_1] ∧ a_0l.length ≤ a_0c ∧ Kd.C (Kd.int .i64) w a_0A a_0l.length a_0l := by
 obtain ⟨cs, rfl, hsz⟩ := okWide_struct Try.underlying24 hval
 obtain ⟨n, hn⟩ := h
 obtain ⟨a_0A, a_0c, a_0l, a_1, hH, f0, f1⟩ := trod24 hn
 obtain ⟨l⟩ := cs
 obtain rfl : l = _ := hH
 exact ⟨a_0A, a_0c, a_0l, a_1, rfl, f0, f1⟩

theorem ocells64 : Try.prog.cellsOf 64 = 5 := by kernel_rfl

theorem list_of5 {cs : List Value} (h : cs.length = 5) : ∃ v0 v1 v2 v3 v4, cs = [v0, v1, v2, v3, v4] := by
 match cs, h with
 | [v0, v1, v2, v3, v4], _ => exact ⟨v0, v1, v2, v3, v4, rfl⟩

theorem trod64 {n : Nat} {cs : List Value} {x : DataW X × List MemPlace} (h : DataW.trod enc Try.prog w base spare held n 64 cs = some x) : ∃ (a_0 : Int) (a_1 : Int) (a_2 : Int) (a_3 : Int) (a_4 : Int), cs = [.int .i64 a_0, .int .i64 a_1, .int .i64 a_2, .int .i64 a_3, .int .i64 a_4] := by
 obtain ⟨xs, m, _, hx, hl, hlen, hg⟩ := DataW.trod_struct Try.underlying64 h
 rw [ocells64] at hl
 obtain ⟨v0, v1, v2, v3, v4, rfl⟩ := list_of5 hl
 obtain ⟨y0, h0⟩ := fld hlen hg 0 _ rfl 3 0 1 rfl rfl ocells3
 obtain ⟨y1, h1⟩ := fld hlen hg 1 _ rfl 3 1 1 rfl rfl ocells3
 obtain ⟨y2, h2⟩ := fld hlen hg 2 _ rfl 3 2 1 rfl rfl ocells3
 obtain ⟨y3, h3⟩ := fld hlen hg 3 _ rfl 3 3 1 rfl rfl ocells3
 obtain ⟨y4, h4⟩ := fld hlen hg 4 _ rfl 3 4 1 rfl rfl ocells3
 obtain ⟨a_0, e0⟩ := trod3 h0
 obtain ⟨a_1, e1⟩ := trod3 h1
 obtain ⟨a_2, e2⟩ := trod3 h2
 obtain ⟨a_3, e3⟩ := trod3 h3
 obtain ⟨a_4, e4⟩ := trod3 h4
 simp only [List.drop_zero, List.take_succ_cons, List.take_zero, List.drop_succ_cons, List.cons.injEq, and_true] at e0 e1 e2 e3 e4
 subst e0 e1 e2 e3 e4
 exact ⟨a_0, a_1, a_2, a_3, a_4, rfl⟩

theorem trod25 {n : Nat} {cs : List Value} {x : DataW X × List MemPlace} (h : DataW.trod enc Try.prog w base spare held n 25 cs = some x) : ∃ (aA : Option Addr) (ac : Nat) (al : List S64), cs = [.slice aA al.length ac] ∧ al.length ≤ ac ∧ Kd.C k64 w aA al.length al := by
 rcases open_slice Try.underlying25 h with ⟨rfl, _⟩ | ⟨a, len, cap, m, k, D, Pl, rfl, hb, hl, hm, hmm, hx, hi⟩
 ·exact ⟨none, 0, [], rfl, Nat.le_refl _, rfl, by simp, fun h => absurd h (by simp)⟩
 ·have hlm : len ≤ m := by rw [hmm]; split <;> omega
  have H : ∀ i, i < len → ∃ s : S64, w.cells? base (a.add (i * 5)) 5 = some [.int .i64 s.f0, .int .i64 s.f1, .int .i64 s.f2, .int .i64 s.f3, .int .i64 s.f4] := by
   intro i hil
   obtain ⟨cs', hc, ht⟩ := hi i (by omega)
   obtain ⟨a_0, a_1, a_2, a_3, a_4, rfl⟩ := trod64 ht
   rw [ocells64] at hc
   exact ⟨⟨a_0, a_1, a_2, a_3, a_4⟩, hc⟩
  obtain ⟨F, hF⟩ : ∃ F : Nat → S64, ∀ i, i < len → w.cells? base (a.add (i * 5)) 5 = some [.int .i64 (F i).f0, .int .i64 (F i).f1, .int .i64 (F i).f2, .int .i64 (F i).f3, .int .i64 (F i).f4] := by
   refine ⟨fun i => if h : i < len then (H i h).choose else P.z64, fun i h => ?_⟩
   simp only [dif_pos h]
   exact (H i h).choose_spec
  refine ⟨some a, cap, (List.range len).map F, by simp, by simpa using hl, ?_, ?_, ?_⟩
  ·rfl
  ·simp only [List.length_map, List.length_range]
   unfold maxLen at hm
   omega
  ·intro _
   refine ⟨a, rfl, fun j p hj => ?_⟩
   have hjl : j < len := by
    have := (List.getElem?_eq_some_iff.1 hj).1
    simpa using this
   have hp : p = F j := by
    rw [List.getElem?_map, List.getElem?_range hjl] at hj
    simpa using hj.symm
   subst hp
   refine ⟨[.int .i64 (F j).f0, .int .i64 (F j).f1, .int .i64 (F j).f2, .int .i64 (F j).f3, .int .i64 (F j).f4], rfl, k64_mk w (F j), ?_⟩
   intro i u hu
   obtain ⟨_, hcl, hat⟩ := World.cells?_some (hF j hjl)
   have hil : i < 5 := (List.getElem?_eq_some_iff.1 hu).1
   have := hat i hil
   rw [Go.Deep.add_add] at this
   rw [show j * (k64).sz + i = j * 5 + i from rfl, this, hu]

set_option maxRecDepth 100000 in
theorem calls_open {r : Reach} {b0 : Nat} {v : Value} {d : DataW X} {p : List MemPlace} (hval : Value.okWide Try.prog w r b0 25 v) (h : DataW.Trod enc Try.prog w base spare held 25 v d p) : ∃ (aA : Option Addr) (ac : Nat) (al : List S64), v = .slice aA al.length ac ∧ al.length ≤ ac ∧ Kd.C k64 w aA al.length al := by
 obtain ⟨A, n, c, rfl⟩ := okWide_slice Try.underlying25 hval
 obtain ⟨k, hk⟩ := h
 obtain ⟨A', c', l, he, h1, h2⟩ := trod25 hk
 simp only [Value.cells, List.cons.injEq, Value.slice.injEq, and_true] at he
 obtain ⟨rfl, rfl, rfl⟩ := he
 exact ⟨A, c, l, rfl, h1, h2⟩

theorem ocells33 : Try.prog.cellsOf 33 = 7 := by kernel_rfl

theorem ocells29 : Try.prog.cellsOf 29 = 3 := by kernel_rfl

theorem ocells26 : Try.prog.cellsOf 26 = 1 := by kernel_rfl

theorem ocells36 : Try.prog.cellsOf 36 = 9 := by kernel_rfl

theorem ocells34 : Try.prog.cellsOf 34 = 1 := by kernel_rfl

theorem ocells86 : Try.prog.cellsOf 86 = 2 := by kernel_rfl

theorem trod86 {n : Nat} {cs : List Value} {x : DataW X × List MemPlace} (h : DataW.trod enc Try.prog w base spare held n 86 cs = some x) : ∃ (a_0 : Int) (a_1 : Int), cs = [.int .i64 a_0, .int .i64 a_1] := by
 obtain ⟨xs, m, _, hx, hl, hlen, hg⟩ := DataW.trod_struct Try.underlying86 h
 rw [ocells86] at hl
 obtain ⟨v0, v1, rfl⟩ := list_of2 hl
 obtain ⟨y0, h0⟩ := fld hlen hg 0 _ rfl 3 0 1 rfl rfl ocells3
 obtain ⟨y1, h1⟩ := fld hlen hg 1 _ rfl 3 1 1 rfl rfl ocells3
 obtain ⟨a_0, e0⟩ := trod3 h0
 obtain ⟨a_1, e1⟩ := trod3 h1
 simp only [List.drop_zero, List.take_succ_cons, List.take_zero, List.drop_succ_cons, List.cons.injEq, and_true] at e0 e1
 subst e0 e1
 exact ⟨a_0, a_1, rfl⟩

theorem trod34 {n : Nat} {cs : List Value} {x : DataW X × List MemPlace} (h : DataW.trod enc Try.prog w base spare held n 34 cs = some x) : ∃ (aA : Option Addr) (ac : Nat) (al : List S86), cs = [.slice aA al.length ac] ∧ al.length ≤ ac ∧ Kd.C k86 w aA al.length al := by
 rcases open_slice Try.underlying34 h with ⟨rfl, _⟩ | ⟨a, len, cap, m, k, D, Pl, rfl, hb, hl, hm, hmm, hx, hi⟩
 ·exact ⟨none, 0, [], rfl, Nat.le_refl _, rfl, by simp, fun h => absurd h (by simp)⟩
 ·have hlm : len ≤ m := by rw [hmm]; split <;> omega
  have H : ∀ i, i < len → ∃ s : S86, w.cells? base (a.add (i * 2)) 2 = some [.int .i64 s.f0, .int .i64 s.f1] := by
   intro i hil
   obtain ⟨cs', hc, ht⟩ := hi i (by omega)
   obtain ⟨a_0, a_1, rfl⟩ := trod86 ht
   rw [ocells86] at hc
   exact ⟨⟨a_0, a_1⟩, hc⟩
  obtain ⟨F, hF⟩ : ∃ F : Nat → S86, ∀ i, i < len → w.cells? base (a.add (i * 2)) 2 = some [.int .i64 (F i).f0, .int .i64 (F i).f1] := by
   refine ⟨fun i => if h : i < len then (H i h).choose else P.z86, fun i h => ?_⟩
   simp only [dif_pos h]
   exact (H i h).choose_spec
  refine ⟨some a, cap, (List.range len).map F, by simp, by simpa using hl, ?_, ?_, ?_⟩
  ·rfl
  ·simp only [List.length_map, List.length_range]
   unfold maxLen at hm
   omega
  ·intro _
   refine ⟨a, rfl, fun j p hj => ?_⟩
   have hjl : j < len := by
    have := (List.getElem?_eq_some_iff.1 hj).1
    simpa using this
   have hp : p = F j := by
    rw [List.getElem?_map, List.getElem?_range hjl] at hj
    simpa using hj.symm
   subst hp
   refine ⟨[.int .i64 (F j).f0, .int .i64 (F j).f1], rfl, k86_mk w (F j), ?_⟩
   intro i u hu
   obtain ⟨_, hcl, hat⟩ := World.cells?_some (hF j hjl)
   have hil : i < 2 := (List.getElem?_eq_some_iff.1 hu).1
   have := hat i hil
   rw [Go.Deep.add_add] at this
   rw [show j * (k86).sz + i = j * 2 + i from rfl, this, hu]

theorem list_of9 {cs : List Value} (h : cs.length = 9) : ∃ v0 v1 v2 v3 v4 v5 v6 v7 v8, cs = [v0, v1, v2, v3, v4, v5, v6, v7, v8] := by
 match cs, h with
 | [v0, v1, v2, v3, v4, v5, v6, v7, v8], _ => exact ⟨v0, v1, v2, v3, v4, v5, v6, v7, v8, rfl⟩

theorem trod36 {n : Nat} {cs : List Value} {x : DataW X × List MemPlace} (h : DataW.trod enc Try.prog w base spare held n 36 cs = some x) : ∃ (a_0 : Int) (a_1 : Int) (a_2 : Int) (a_3A : Option Addr) (a_3c : Nat) (a_3l : List Int) (a_4A : Option Addr) (a_4c : Nat) (a_4l : List S86) (a_5 : Int) (a_6 : Int) (a_7 : Int) (a_8 : Int), cs = [.int .i64 a_0, .int .i64 a_1, .int .i64 a_2, .slice a_3A a_3l.length a_3c, .slice a_4A a_4l.length a_4c, .int .i64 a_5, .int .i64 a_6, .int .i64 a_7, .int .i64 a_8] ∧ a_3l.length ≤ a_3c ∧ Kd.C (Kd.int .i64) w a_3A a_3l.length a_3l ∧ a_4l.length ≤ a_4c ∧ Kd.C k86 w a_4A a_4l.length a_4l := by
 obtain ⟨xs, m, _, hx, hl, hlen, hg⟩ := DataW.trod_struct Try.underlying36 h
 rw [ocells36] at hl
 obtain ⟨v0, v1, v2, v3, v4, v5, v6, v7, v8, rfl⟩ := list_of9 hl
 obtain ⟨y0, h0⟩ := fld hlen hg 0 _ rfl 3 0 1 rfl rfl ocells3
 obtain ⟨y1, h1⟩ := fld hlen hg 1 _ rfl 3 1 1 rfl rfl ocells3
 obtain ⟨y2, h2⟩ := fld hlen hg 2 _ rfl 3 2 1 rfl rfl ocells3
 obtain ⟨y3, h3⟩ := fld hlen hg 3 _ rfl 22 3 1 rfl rfl ocells22
 obtain ⟨y4, h4⟩ := fld hlen hg 4 _ rfl 34 4 1 rfl rfl ocells34
 obtain ⟨y5, h5⟩ := fld hlen hg 5 _ rfl 3 5 1 rfl rfl ocells3
 obtain ⟨y6, h6⟩ := fld hlen hg 6 _ rfl 3 6 1 rfl rfl ocells3
 obtain ⟨y7, h7⟩ := fld hlen hg 7 _ rfl 3 7 1 rfl rfl ocells3
 obtain ⟨y8, h8⟩ := fld hlen hg 8 _ rfl 3 8 1 rfl rfl ocells3
 obtain ⟨a_0, e0⟩ := trod3 h0
 obtain ⟨a_1, e1⟩ := trod3 h1
 obtain ⟨a_2, e2⟩ := trod3 h2
 obtain ⟨a_3A, a_3c, a_3l, e3, f3_0, f3_1⟩ := trod22 h3
 obtain ⟨a_4A, a_4c, a_4l, e4, f4_0, f4_1⟩ := trod34 h4
 obtain ⟨a_5, e5⟩ := trod3 h5
 obtain ⟨a_6, e6⟩ := trod3 h6
 obtain ⟨a_7, e7⟩ := trod3 h7
 obtain ⟨a_8, e8⟩ := trod3 h8
 simp only [List.drop_zero, List.take_succ_cons, List.take_zero, List.drop_succ_cons, List.cons.injEq, and_true] at e0 e1 e2 e3 e4 e5 e6 e7 e8
 subst e0 e1 e2 e3 e4 e5 e6 e7 e8
 exact ⟨a_0, a_1, a_2, a_3A, a_3c, a_3l, a_4A, a_4c, a_4l, a_5, a_6, a_7, a_8, rfl, f3_0, f3_1, f4_0, f4_1⟩

theorem trod26 {n : Nat} {cs : List Value} {x : DataW X × List MemPlace} (h : DataW.trod enc Try.prog w base spare held n 26 cs = some x) : ∃ (aA : Option Addr) (ac : Nat) (al : List S36), cs = [.slice aA al.length ac] ∧ al.length ≤ ac ∧ Kd.C k36 w aA al.length al := by
 rcases open_slice Try.underlying26 h with ⟨rfl, _⟩ | ⟨a, len, cap, m, k, D, Pl, rfl, hb, hl, hm, hmm, hx, hi⟩
 ·exact ⟨none, 0, [], rfl, Nat.le_refl _, rfl, by simp, fun h => absurd h (by simp)⟩
 ·have hlm : len ≤ m := by rw [hmm]; split <;> omega
  have H : ∀ i, i < len → ∃ p : S36 × List Value, w.cells? base (a.add (i * 9)) 9 = some p.2 ∧ Kd.K k36 w p.1 p.2 := by
   intro i hil
   obtain ⟨cs', hc, ht⟩ := hi i (by omega)
   obtain ⟨a_0, a_1, a_2, a_3A, a_3c, a_3l, a_4A, a_4c, a_4l, a_5, a_6, a_7, a_8, rfl, q0, q1, q2, q3⟩ := trod36 ht
   rw [ocells36] at hc
   exact ⟨((⟨a_0, a_1, a_2, a_3l, a_4l, a_5, a_6, a_7, a_8⟩ : S36), _), hc, k36_mk w _ q0 q1 q2 q3⟩
  obtain ⟨F, hF⟩ : ∃ F : Nat → S36 × List Value, ∀ i, i < len → w.cells? base (a.add (i * 9)) 9 = some (F i).2 ∧ Kd.K k36 w (F i).1 (F i).2 := by
   refine ⟨fun i => if h : i < len then (H i h).choose else (P.z36, []), fun i h => ?_⟩
   simp only [dif_pos h]
   exact (H i h).choose_spec
  refine ⟨some a, cap, (List.range len).map (fun i => (F i).1), by simp, by simpa using hl, ?_, ?_, ?_⟩
  ·rfl
  ·simp only [List.length_map, List.length_range]
   unfold maxLen at hm
   omega
  ·intro _
   refine ⟨a, rfl, fun j p hj => ?_⟩
   have hjl : j < len := by
    have := (List.getElem?_eq_some_iff.1 hj).1
    simpa using this
   have hp : p = (F j).1 := by
    rw [List.getElem?_map, List.getElem?_range hjl] at hj
    simpa using hj.symm
   subst hp
   refine ⟨(F j).2, Kd.K_len _ (hF j hjl).2, (hF j hjl).2, ?_⟩
   intro i u hu
   obtain ⟨_, hcl, hat⟩ := World.cells?_some (hF j hjl).1
   have hil : i < 9 := by
    have h1 := (List.getElem?_eq_some_iff.1 hu).1
    have h2 : (F j).2.length = 9 := Kd.K_len _ (hF j hjl).2
    omega
   have := hat i hil
   rw [Go.Deep.add_add] at this
   rw [show j * (Kd.sz k36) + i = j * 9 + i from rfl, this, hu]

theorem ocells27 : Try.prog.cellsOf 27 = 1 := by kernel_rfl

theorem ocells55 : Try.prog.cellsOf 55 = 6 := by kernel_rfl

theorem list_of6 {cs : List Value} (h : cs.length = 6) : ∃ v0 v1 v2 v3 v4 v5, cs = [v0, v1, v2, v3, v4, v5] := by
 match cs, h with
 | [v0, v1, v2, v3, v4, v5], _ => exact ⟨v0, v1, v2, v3, v4, v5, rfl⟩

theorem trod55 {n : Nat} {cs : List Value} {x : DataW X × List MemPlace} (h : DataW.trod enc Try.prog w base spare held n 55 cs = some x) : ∃ (a_0 : Int) (a_1 : Int) (a_2 : Int) (a_3 : Int) (a_4 : Int) (a_5 : Int), cs = [.int .i64 a_0, .int .i64 a_1, .int .i64 a_2, .int .i64 a_3, .int .i64 a_4, .int .i64 a_5] := by
 obtain ⟨xs, m, _, hx, hl, hlen, hg⟩ := DataW.trod_struct Try.underlying55 h
 rw [ocells55] at hl
 obtain ⟨v0, v1, v2, v3, v4, v5, rfl⟩ := list_of6 hl
 obtain ⟨y0, h0⟩ := fld hlen hg 0 _ rfl 3 0 1 rfl rfl ocells3
 obtain ⟨y1, h1⟩ := fld hlen hg 1 _ rfl 3 1 1 rfl rfl ocells3
 obtain ⟨y2, h2⟩ := fld hlen hg 2 _ rfl 3 2 1 rfl rfl ocells3
 obtain ⟨y3, h3⟩ := fld hlen hg 3 _ rfl 3 3 1 rfl rfl ocells3
 obtain ⟨y4, h4⟩ := fld hlen hg 4 _ rfl 3 4 1 rfl rfl ocells3
 obtain ⟨y5, h5⟩ := fld hlen hg 5 _ rfl 3 5 1 rfl rfl ocells3
 obtain ⟨a_0, e0⟩ := trod3 h0
 obtain ⟨a_1, e1⟩ := trod3 h1
 obtain ⟨a_2, e2⟩ := trod3 h2
 obtain ⟨a_3, e3⟩ := trod3 h3
 obtain ⟨a_4, e4⟩ := trod3 h4
 obtain ⟨a_5, e5⟩ := trod3 h5
 simp only [List.drop_zero, List.take_succ_cons, List.take_zero, List.drop_succ_cons, List.cons.injEq, and_true] at e0 e1 e2 e3 e4 e5
 subst e0 e1 e2 e3 e4 e5
 exact ⟨a_0, a_1, a_2, a_3, a_4, a_5, rfl⟩

theorem trod27 {n : Nat} {cs : List Value} {x : DataW X × List MemPlace} (h : DataW.trod enc Try.prog w base spare held n 27 cs = some x) : ∃ (aA : Option Addr) (ac : Nat) (al : List S55), cs = [.slice aA al.length ac] ∧ al.length ≤ ac ∧ Kd.C k55 w aA al.length al := by
 rcases open_slice Try.underlying27 h with ⟨rfl, _⟩ | ⟨a, len, cap, m, k, D, Pl, rfl, hb, hl, hm, hmm, hx, hi⟩
 ·exact ⟨none, 0, [], rfl, Nat.le_refl _, rfl, by simp, fun h => absurd h (by simp)⟩
 ·have hlm : len ≤ m := by rw [hmm]; split <;> omega
  have H : ∀ i, i < len → ∃ s : S55, w.cells? base (a.add (i * 6)) 6 = some [.int .i64 s.f0, .int .i64 s.f1, .int .i64 s.f2, .int .i64 s.f3, .int .i64 s.f4, .int .i64 s.f5] := by
   intro i hil
   obtain ⟨cs', hc, ht⟩ := hi i (by omega)
   obtain ⟨a_0, a_1, a_2, a_3, a_4, a_5, rfl⟩ := trod55 ht
   rw [ocells55] at hc
   exact ⟨⟨a_0, a_1, a_2, a_3, a_4, a_5⟩, hc⟩
  obtain ⟨F, hF⟩ : ∃ F : Nat → S55, ∀ i, i < len → w.cells? base (a.add (i * 6)) 6 = some [.int .i64 (F i).f0, .int .i64 (F i).f1, .int .i64 (F i).f2, .int .i64 (F i).f3, .int .i64 (F i).f4, .int .i64 (F i).f5] := by
   refine ⟨fun i => if h : i < len then (H i h).choose else P.z55, fun i h => ?_⟩
   simp only [dif_pos h]
   exact (H i h).choose_spec
  refine ⟨some a, cap, (List.range len).map F, by simp, by simpa using hl, ?_, ?_, ?_⟩
  ·rfl
  ·simp only [List.length_map, List.length_range]
   unfold maxLen at hm
   omega
  ·intro _
   refine ⟨a, rfl, fun j p hj => ?_⟩
   have hjl : j < len := by
    have := (List.getElem?_eq_some_iff.1 hj).1
    simpa using this
   have hp : p = F j := by
    rw [List.getElem?_map, List.getElem?_range hjl] at hj
    simpa using hj.symm
   subst hp
   refine ⟨[.int .i64 (F j).f0, .int .i64 (F j).f1, .int .i64 (F j).f2, .int .i64 (F j).f3, .int .i64 (F j).f4, .int .i64 (F j).f5], rfl, k55_mk w (F j), ?_⟩
   intro i u hu
   obtain ⟨_, hcl, hat⟩ := World.cells?_some (hF j hjl)
   have hil : i < 6 := (List.getElem?_eq_some_iff.1 hu).1
   have := hat i hil
   rw [Go.Deep.add_add] at this
   rw [show j * (k55).sz + i = j * 6 + i from rfl, this, hu]

theorem list_of3 {cs : List Value} (h : cs.length = 3) : ∃ v0 v1 v2, cs = [v0, v1, v2] := by
 match cs, h with
 | [v0, v1, v2], _ => exact ⟨v0, v1, v2, rfl⟩

theorem trod29 {n : Nat} {cs : List Value} {x : DataW X × List MemPlace} (h : DataW.trod enc Try.prog w base spare held n 29 cs = some x) : ∃ (a_0 : Int) (a_1A : Option Addr) (a_1c : Nat) (a_1l : List S36) (a_2A : Option Addr) (a_2c : Nat) (a_2l : List S55), cs = [.int .i64 a_0, .slice a_1A a_1l.length a_1c, .slice a_2A a_2l.length a_2c] ∧ a_1l.length ≤ a_1c ∧ Kd.C k36 w a_1A a_1l.length a_1l ∧ a_2l.length ≤ a_2c ∧ Kd.C k55 w a_2A a_2l.length a_2l := by
 obtain ⟨xs, m, _, hx, hl, hlen, hg⟩ := DataW.trod_struct Try.underlying29 h
 rw [ocells29] at hl
 obtain ⟨v0, v1, v2, rfl⟩ := list_of3 hl
 obtain ⟨y0, h0⟩ := fld hlen hg 0 _ rfl 3 0 1 rfl rfl ocells3
 obtain ⟨y1, h1⟩ := fld hlen hg 1 _ rfl 26 1 1 rfl rfl ocells26
 obtain ⟨y2, h2⟩ := fld hlen hg 2 _ rfl 27 2 1 rfl rfl ocells27
 obtain ⟨a_0, e0⟩ := trod3 h0
 obtain ⟨a_1A, a_1c, a_1l, e1, f1_0, f1_1⟩ := trod26 h1
 obtain ⟨a_2A, a_2c, a_2l, e2, f2_0, f2_1⟩ := trod27 h2
 simp only [List.drop_zero, List.take_succ_cons, List.take_zero, List.drop_succ_cons, List.cons.injEq, and_true] at e0 e1 e2
 subst e0 e1 e2
 exact ⟨a_0, a_1A, a_1c, a_1l, a_2A, a_2c, a_2l, rfl, f1_0, f1_1, f2_0, f2_1⟩

theorem ocells31 : Try.prog.cellsOf 31 = 4 := by kernel_rfl

theorem list_of4 {cs : List Value} (h : cs.length = 4) : ∃ v0 v1 v2 v3, cs = [v0, v1, v2, v3] := by
 match cs, h with
 | [v0, v1, v2, v3], _ => exact ⟨v0, v1, v2, v3, rfl⟩

theorem trod31 {n : Nat} {cs : List Value} {x : DataW X × List MemPlace} (h : DataW.trod enc Try.prog w base spare held n 31 cs = some x) : ∃ (a_0 : Int) (a_1 : Int) (a_2 : Int) (a_3 : Int), cs = [.int .i64 a_0, .int .i64 a_1, .int .i64 a_2, .int .i64 a_3] := by
 obtain ⟨xs, m, _, hx, hl, hlen, hg⟩ := DataW.trod_struct Try.underlying31 h
 rw [ocells31] at hl
 obtain ⟨v0, v1, v2, v3, rfl⟩ := list_of4 hl
 obtain ⟨y0, h0⟩ := fld hlen hg 0 _ rfl 3 0 1 rfl rfl ocells3
 obtain ⟨y1, h1⟩ := fld hlen hg 1 _ rfl 3 1 1 rfl rfl ocells3
 obtain ⟨y2, h2⟩ := fld hlen hg 2 _ rfl 3 2 1 rfl rfl ocells3
 obtain ⟨y3, h3⟩ := fld hlen hg 3 _ rfl 3 3 1 rfl rfl ocells3
 obtain ⟨a_0, e0⟩ := trod3 h0
 obtain ⟨a_1, e1⟩ := trod3 h1
 obtain ⟨a_2, e2⟩ := trod3 h2
 obtain ⟨a_3, e3⟩ := trod3 h3
 simp only [List.drop_zero, List.take_succ_cons, List.take_zero, List.drop_succ_cons, List.cons.injEq, and_true] at e0 e1 e2 e3
 subst e0 e1 e2 e3
 exact ⟨a_0, a_1, a_2, a_3, rfl⟩

theorem list_of7 {cs : List Value} (h : cs.length = 7) : ∃ v0 v1 v2 v3 v4 v5 v6, cs = [v0, v1, v2, v3, v4, v5, v6] := by
 match cs, h with
 | [v0, v1, v2, v3, v4, v5, v6], _ => exact ⟨v0, v1, v2, v3, v4, v5, v6, rfl⟩

theorem trod33 {n : Nat} {cs : List Value} {x : DataW X × List MemPlace} (h : DataW.trod enc Try.prog w base spare held n 33 cs = some x) : ∃ (a_0_0 : Int) (a_0_1A : Option Addr) (a_0_1c : Nat) (a_0_1l : List S36) (a_0_2A : Option Addr) (a_0_2c : Nat) (a_0_2l : List S55) (a_1_0 : Int) (a_1_1 : Int) (a_1_2 : Int) (a_1_3 : Int), cs = [.int .i64 a_0_0, .slice a_0_1A a_0_1l.length a_0_1c, .slice a_0_2A a_0_2l.length a_0_2c, .int .i64 a_1_0, .int .i64 a_1_1, .int .i64 a_1_2, .int .i64 a_1_3] ∧ a_0_1l.length ≤ a_0_1c ∧ Kd.C k36 w a_0_1A a_0_1l.length a_0_1l ∧ a_0_2l.length ≤ a_0_2c ∧ Kd.C k55 w a_0_2A a_0_2l.length a_0_2l := by
 obtain ⟨xs, m, _, hx, hl, hlen, hg⟩ := DataW.trod_struct Try.underlying33 h
 rw [ocells33] at hl
 obtain ⟨v0, v1, v2, v3, v4, v5, v6, rfl⟩ := list_of7 hl
 obtain ⟨y0, h0⟩ := fld hlen hg 0 _ rfl 29 0 3 rfl rfl ocells29
 obtain ⟨y1, h1⟩ := fld hlen hg 1 _ rfl 31 3 4 rfl rfl ocells31
 obtain ⟨a_0_0, a_0_1A, a_0_1c, a_0_1l, a_0_2A, a_0_2c, a_0_2l, e0, f0_0, f0_1, f0_2, f0_3⟩ := trod29 h0
 obtain ⟨a_1_0, a_1_1, a_1_2, a_1_3, e1⟩ := trod31 h1
 simp only [List.drop_zero, List.take_succ_cons, List.take_zero, List.drop_succ_cons, List.cons.injEq, and_true] at e0 e1
 obtain ⟨e0_0, e0_1, e0_2⟩ := e0
 obtain ⟨e1_0, e1_1, e1_2, e1_3⟩ := e1
 subst e0_0 e0_1 e0_2 e1_0 e1_1 e1_2 e1_3
 exact ⟨a_0_0, a_0_1A, a_0_1c, a_0_1l, a_0_2A, a_0_2c, a_0_2l, a_1_0, a_1_1, a_1_2, a_1_3, rfl, f0_0, f0_1, f0_2, f0_3⟩

set_option maxRecDepth 100000 in
theorem office_open {r : Reach} {b0 : Nat} {v : Value} {d : DataW X} {p : List MemPlace} (hval : Value.okWide Try.prog w r b0 33 v) (h : DataW.Trod enc Try.prog w base spare held 33 v d p) : ∃ (a_0_0 : Int) (a_0_1A : Option Addr) (a_0_1c : Nat) (a_0_1l : List S36) (a_0_2A : Option Addr) (a_0_2c : Nat) (a_0_2l : List S55) (a_1_0 : Int) (a_1_1 : Int) (a_1_2 : Int) (a_1_3 : Int), v = .agg #[.int .i64 a_0_0, .slice a_0_1A a_0_1l.length a_0_1c, .slice a_0_2A a_0_2l.length a_0_2c, .int .i64 a_1_0, .int .i64 a_1_1, .int .i64 a_1_2, .int .i64 a_1_3] ∧ a_0_1l.length ≤ a_0_1c ∧ Kd.C k36 w a_0_1A a_0_1l.length a_0_1l ∧ a_0_2l.length ≤ a_0_2c ∧ Kd.C k55 w a_0_2A a_0_2l.length a_0_2l := by
 obtain ⟨cs, rfl, hsz⟩ := okWide_struct Try.underlying33 hval
 obtain ⟨n, hn⟩ := h
 obtain ⟨a_0_0, a_0_1A, a_0_1c, a_0_1l, a_0_2A, a_0_2c, a_0_2l, a_1_0, a_1_1, a_1_2, a_1_3, hH, f0, f1, f2, f3⟩ := trod33 hn
 obtain ⟨l⟩ := cs
 obtain rfl : l = _ := hH
 exact ⟨a_0_0, a_0_1A, a_0_1c, a_0_1l, a_0_2A, a_0_2c, a_0_2l, a_1_0, a_1_1, a_1_2, a_1_3, rfl, f0, f1, f2, f3⟩

end

end Go.Proofs.Ytkjefnlhhfpllaa.T
