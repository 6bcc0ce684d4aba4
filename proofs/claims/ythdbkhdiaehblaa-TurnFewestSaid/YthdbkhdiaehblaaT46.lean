/- Whether there are teams with which nobody is late: the reference's search. -/
import Derived.Test.YthdbkhdiaehblaaT45
namespace Go.Proofs.Ythdbkhdiaehblaa.T
open Go.RowKit Go.Proofs.YthdbkhdiaehblaaW.PrintWords Go.Proofs.YthdbkhdiaehblaaW.PrintMore
open Go.Proofs.Ythdbkhdiaehblaa.P
set_option linter.unusedVariables false
set_option linter.unusedSimpArgs false

/-- Some teams, of so many, that begin as told, let no show be late. -/
def CanX (H : Hs) (l : List S36) (m : Int) (us : List Int) : Prop := ∃ ts, Tms m l ts ∧ us <+: ts ∧ okT (pcL H) H (dayAt 6 4) (withT l ts)
theorem with_at (l : List S36) (ts : List Int) (n : Nat) (A1 A2 : Option Addr) (c1 c2 : Nat) (w : World) (hl : l.length = n) (hn : n ≤ 1000000) (hr : Kd.C k36 w A1 n l) (hc : n ≤ c1) (hR : Kd.C kI w A2 ts.length ts) :
    Calls Try.prog 39 #[.slice A1 n c1, .slice A2 ts.length c2] w fun e w' => ∃ A c, e = .returned (.slice A n c) ∧ n ≤ c ∧ Kd.C k36 w' A n (withT l ts) ∧ Below w.heap.size w w' := by
  subst hl
  have := with_row l ts A1 A2 c1 c2 w hn hr hc hR
  rw [withT_length] at this
  exact this
theorem late_at (H : Hs) (l : List S36) (n : Nat) (A1 : Option Addr) (c1 : Nat) (w : World) (hl : l.length = n) (h : LV H l) (hr : Kd.C k36 w A1 n l) (hc : n ≤ c1) :
    Calls Try.prog 56 #[hv H, .slice A1 n c1] w fun e w' => e = .returned (.tuple #[.int .i64 (lateT l (lateDay H l) 0).1, .int .i64 (lateT l (lateDay H l) 0).2]) ∧ Below w.heap.size w w' := by
  subst hl
  exact late_r4 H l A1 c1 w h hr hc
theorem C_pre {w : World} {A : Option Addr} {l : List S36} {k : Nat} (h : Kd.C k36 w A l.length l) (hk : k ≤ l.length) : Kd.C k36 w A k (l.take k) := by
  have := Kd.C_take h hk
  rw [show (l.take k).length = k by rw [List.length_take]; omega] at this
  exact this
theorem pre_take {us ts : List Int} (h : us <+: ts) : ts.take us.length = us := by
  obtain ⟨r, rfl⟩ := h
  simp
theorem can_no {H : Hs} {l : List S36} {m : Int} {us : List Int} (h : 0 ≤ (lateT (withT (l.take us.length) us) (lateDay H (withT (l.take us.length) us)) 0).1) : ¬ CanX H l m us := by
  rintro ⟨ts, T, hp, hok⟩
  rcases late_ok (pcL H) H (withT (l.take us.length) us) (dayAt 6 4) 0 (Int.le_refl _) with ⟨_, k⟩ | ⟨k, _⟩
  · rw [lateDay, k] at h
    exact absurd h (by decide)
  · refine k ?_
    have := okT_take _ _ _ _ us.length hok
    rw [← withT_take, pre_take hp] at this
    exact this
theorem can_yes {H : Hs} {l : List S36} {m : Int} {us : List Int} (h : ¬ 0 ≤ (lateT (withT (l.take us.length) us) (lateDay H (withT (l.take us.length) us)) 0).1) (hl : us.length = l.length) (ht : ∀ t ∈ us, 0 ≤ t ∧ t < m) : CanX H l m us := by
  rcases late_ok (pcL H) H (withT (l.take us.length) us) (dayAt 6 4) 0 (Int.le_refl _) with ⟨k, _⟩ | ⟨_, k⟩
  · rw [hl, List.take_length] at k
    exact ⟨us, ⟨hl, ht⟩, List.prefix_refl _, k⟩
  · exact absurd k h
theorem can_next {H : Hs} {l : List S36} {m : Int} {us : List Int} (h : CanX H l m us) (hl : us.length < l.length) : ∃ t, (0 ≤ t ∧ t < m) ∧ CanX H l m (us ++ [t]) := by
  obtain ⟨ts, T, ⟨r, rfl⟩, hok⟩ := h
  have hr := T.1
  rcases r with _ | ⟨t, r⟩
  · simp at hr
    omega
  · exact ⟨t, T.2 t (by simp), _, T, ⟨r, by simp⟩, hok⟩
theorem can_prev {H : Hs} {l : List S36} {m : Int} {us : List Int} {t : Int} (h : CanX H l m (us ++ [t])) : CanX H l m us := by
  obtain ⟨ts, T, ⟨r, rfl⟩, hok⟩ := h
  exact ⟨_, T, ⟨t :: r, by simp⟩, hok⟩
theorem no_step {P : Int → Prop} {i : Nat} (hi : ¬ P i) (h : ∀ t : Int, 0 ≤ t → t < (i : Int) → ¬ P t) : ∀ t : Int, 0 ≤ t → t < ((i + 1 : Nat) : Int) → ¬ P t := by
  intro t h1 h2
  by_cases e : t = (i : Int)
  · subst e
    exact hi
  · exact h t h1 (by omega)
set_option maxRecDepth 100000 in
theorem lit47n (W : World) : (Instr.buildSlice 47 0 #[]).run Try.prog W = .ok (.slice (some ⟨W.heap.size, 0, none⟩) ([] : List Int).length ([] : List Int).length) (W.alloc (.cells ([] : List Value).toArray 3)) := by
  have hu47 := Try.underlying47
  go_simp
  try rfl
set_option maxRecDepth 100000 in
set_option maxHeartbeats 8000000 in

theorem can_step (H : Hs) (l : List S36) (m : Int) (us : List Int) (A1 A2 : Option Addr) (c1 c2 : Nat) (w : World) (hV : Valid H l) (hm : 0 ≤ m ∧ m ≤ 4) (hu : us.length ≤ l.length) (ht : ∀ t ∈ us, 0 ≤ t ∧ t < m)
    (ih : us.length < l.length → ∀ (t : Int) (A : Option Addr) (c : Nat) (W : World), 0 ≤ t → t < m → Kd.C k36 W A1 l.length l → Kd.C kI W A (us ++ [t]).length (us ++ [t]) → Calls Try.prog 59 #[hv H, .slice A1 l.length c1, .slice A (us ++ [t]).length c, .int .i64 m] W fun e w' => ∃ b : Bool, e = .returned (.bool b) ∧ (b = true ↔ CanX H l m (us ++ [t])) ∧ Below W.heap.size W w')
    (hr : Kd.C k36 w A1 l.length l) (hc : l.length ≤ c1) (hR : Kd.C kI w A2 us.length us) :
    Calls Try.prog 59 #[hv H, .slice A1 l.length c1, .slice A2 us.length c2, .int .i64 m] w fun e w' => ∃ b : Bool, e = .returned (.bool b) ∧ (b = true ↔ CanX H l m us) ∧ Below w.heap.size w w' := by
  have hu3 := Try.underlying3
  have hu25 := Try.underlying25
  have hu26 := Try.underlying26
  have hu47 := Try.underlying47
  obtain ⟨z3, o3⟩ := info_some info3s (by decide)
  obtain ⟨z36, o36⟩ := info_some info36s (by decide)
  have hn := hV.2.1
  have hLV : LV H (withT (l.take us.length) us) := by
    have := lv_take (lv_with (ts := us) hV (fun t h => by have := ht t h; omega)) us.length
    rw [← withT_take, List.take_length] at this
    exact this
  refine E.enter (N := 45) Try.func59 rfl Try.ntmps59 (args := [hv H, .slice A1 l.length c1, .slice A2 us.length c2, .int .i64 m]) (by simp) ?_
  have L := Below.refl w.heap.size w
  refine E.CG.seq ?_
  refine E.CG.list ?_
  refine E.GL.st rfl rfl rfl (E.ST.box rfl rfl fun g4 w4 e4 b4 l4 => ?_)
  have h4_L : w.heap.size ≤ g4 := by rw [e4]; exact L.size
  replace L := below_step L l4
  refine E.GL.run rfl rfl rfl (E.Runs.assign rfl rfl) ?_
  refine E.GL.done ?_
  refine E.QG.code ?_
  refine E.CG.seq ?_
  refine E.CG.seq ?_
  refine E.CG.heldH (none) (by kernel_rfl) fun v1 lD hh => ?_
  replace b4 := blk_below b4 lD
  replace L := below_step L lD
  clear lD
  have s_b4 := b4
  have s_L := L
  refine E.GH.take (i := 0) rfl (by kernel_rfl) (by kernel_rfl) (by kernel_rfl) (by intro c a d v w h; cases d <;> exact h) rfl rfl rfl (fun w' hS => (E.Runs.loads (cs := [.int .i64 H.teams, .int .i64 H.walk, .int .i64 H.early, .int .i64 H.foyer, .int .i64 H.dl, .int .i64 H.dh, .int .i64 H.cl, .int .i64 H.ch]) rfl rfl hu25 rfl info25s (blk_cells (blk_grown s_b4 hS E.nen)))) ?_
  refine E.GH.take (i := 1) rfl (by kernel_rfl) (by kernel_rfl) (by kernel_rfl) (by intro c a d v w h; cases d <;> exact h) rfl rfl rfl (fun w' hS => (E.Runs.move rfl rfl)) ?_
  refine E.GH.take (i := 2) rfl (by kernel_rfl) (by kernel_rfl) (by kernel_rfl) (by intro c a d v w h; cases d <;> exact h) rfl rfl rfl (fun w' hS => (E.Runs.move rfl rfl)) ?_
  refine E.GH.take (i := 3) rfl (by kernel_rfl) (by kernel_rfl) (by kernel_rfl) (by intro c a d v w h; cases d <;> exact h) rfl rfl rfl (fun w' hS => (E.Runs.len rfl rfl hu47)) ?_
  refine E.GH.take (i := 4) rfl (by kernel_rfl) (by kernel_rfl) (by kernel_rfl) (by intro c a d v w h; cases d <;> exact h) rfl rfl rfl (fun w' hS => (E.Runs.sliceTo rfl rfl rfl hu26 (by assumption) (by omega))) ?_
  refine E.GH.take (i := 5) rfl (by kernel_rfl) (by kernel_rfl) (by kernel_rfl) (by intro c a d v w h; cases d <;> exact h) rfl rfl rfl (fun w' hS => (E.Runs.move rfl rfl)) ?_
  refine E.GH.one (i := 6) (by kernel_rfl) rfl ?_
  refine E.GO.st rfl rfl rfl (E.ST.call rfl ent39 (E.evc rfl (E.evc rfl E.evn)) ((with_at (l.take us.length) us us.length A1 A2 c1 c2 _ (by rw [List.length_take]; omega) (by omega) (C_pre (Kd.C_below hr L) hu) (by omega) (Kd.C_below hR L)).mono ?_))
  rintro e w19 ⟨A19, c19, rfl, k19, r19, l19⟩
  refine ⟨_, rfl, hh.trans (E.gbB l19), ?_⟩
  replace hh := hh.trans (E.gbB l19)
  replace b4 := blk_below b4 l19
  replace L := below_step L l19
  refine E.GH.one (i := 7) (by kernel_rfl) rfl ?_
  refine E.GO.st rfl rfl rfl (E.ST.call rfl ent56 (E.evc rfl (E.evc rfl E.evn)) ((late_at H (withT (l.take us.length) us) us.length A19 c19 _ (by rw [withT_length, List.length_take]; omega) hLV r19 k19).mono ?_))
  rintro e w20 ⟨rfl, l20⟩
  refine ⟨_, rfl, hh.trans (E.gbB l20), ?_⟩
  replace hh := hh.trans (E.gbB l20)
  replace b4 := blk_below b4 l20
  replace L := below_step L l20
  refine E.GH.take (i := 8) rfl (by kernel_rfl) (by kernel_rfl) (by kernel_rfl) (by intro c a d v w h; cases d <;> exact h) rfl rfl rfl (fun w' hS => (E.Runs.move rfl rfl)) ?_
  refine E.GH.take (i := 9) rfl (by kernel_rfl) (by kernel_rfl) (by kernel_rfl) (by intro c a d v w h; cases d <;> exact h) rfl rfl rfl (fun w' hS => (E.Runs.extract rfl rfl rfl)) ?_
  refine E.GH.take (i := 10) rfl (by kernel_rfl) (by kernel_rfl) (by kernel_rfl) (by intro c a d v w h; cases d <;> exact h) rfl rfl rfl (fun w' hS => (E.Runs.extract rfl rfl rfl)) ?_
  refine E.GH.take (i := 11) rfl (by kernel_rfl) (by kernel_rfl) (by kernel_rfl) (by intro c a d v w h; cases d <;> exact h) rfl rfl rfl (fun w' hS => (E.Runs.assign rfl rfl)) ?_
  refine E.GH.take (i := 12) rfl (by kernel_rfl) (by kernel_rfl) (by kernel_rfl) (by intro c a d v w h; cases d <;> exact h) rfl rfl rfl (fun w' hS => (E.Runs.assign rfl rfl)) ?_
  refine E.GH.done (by kernel_rfl) ?_
  refine E.QG.code ?_
  refine E.CG.seq ?_
  refine E.CG.list ?_
  refine E.GL.run rfl rfl rfl (E.Runs.move rfl rfl) ?_
  refine E.GL.cmp rfl rfl rfl (fun _ h => (E.Runs.geq rfl rfl rfl h)) (fun h24 => ?_) (fun h24 => ?_)
  · have hno := can_no (m := m) h24
    refine E.GL.done ?_
    refine E.QG.code ?_
    refine E.CG.cond_t rfl ?_
    refine E.CG.seq ?_
    refine E.CG.list ?_
    refine E.GL.run rfl rfl rfl (E.Runs.assign rfl rfl) ?_
    refine E.GL.done ?_
    refine E.QG.code ?_
    refine E.CG.ret ?_
    refine E.QG.pass_ret ?_
    exact E.QG.result rfl rfl ⟨false, rfl, iff_of_false Bool.false_ne_true hno, L⟩
  · refine E.GL.done ?_
    refine E.QG.code ?_
    refine E.CG.cond_f rfl ?_
    refine E.CG.skip ?_
    refine E.QG.code ?_
    refine E.CG.seq ?_
    refine E.CG.seq ?_
    refine E.CG.list ?_
    refine E.GL.run rfl rfl rfl (E.Runs.move rfl rfl) ?_
    refine E.GL.run rfl rfl rfl (E.Runs.len rfl rfl hu47) ?_
    refine E.GL.run rfl rfl rfl (E.Runs.move rfl rfl) ?_
    refine E.GL.run rfl rfl rfl (E.Runs.len rfl rfl hu26) ?_
    refine E.GL.cmp rfl rfl rfl (fun _ h => (E.Runs.eql rfl rfl rfl h)) (fun h29 => ?_) (fun h29 => ?_)
    · have hyes := can_yes h24 (by omega) ht
      refine E.GL.done ?_
      refine E.QG.code ?_
      refine E.CG.cond_t rfl ?_
      refine E.CG.seq ?_
      refine E.CG.list ?_
      refine E.GL.run rfl rfl rfl (E.Runs.assign rfl rfl) ?_
      refine E.GL.done ?_
      refine E.QG.code ?_
      refine E.CG.ret ?_
      refine E.QG.pass_ret ?_
      exact E.QG.result rfl rfl ⟨true, rfl, iff_of_true rfl hyes, L⟩
    · have hlt : us.length < l.length := by omega
      refine E.GL.done ?_
      refine E.QG.code ?_
      refine E.CG.cond_f rfl ?_
      refine E.CG.skip ?_
      refine E.QG.code ?_
      refine E.CG.seq ?_
      refine E.CG.seq ?_
      refine E.CG.list ?_
      refine E.GL.run rfl rfl rfl (E.Runs.assign rfl rfl) ?_
      refine E.GL.done ?_
      refine E.QG.code ?_
      refine E.CG.block ?_
      have s7_b4 := b4
      have s7_L := L
      refine E.CG.loop (fun (i : Nat) => [(1, .slice A1 l.length c1), (2, .slice A2 us.length c2), (3, .int .i64 m), (4, .pointer (some ⟨g4, 0, none⟩)), (11, .int .i64 i)]) (fun i w' => (i : Int) ≤ m ∧ w'.heap[g4]? = some (.cells #[.int .i64 H.teams, .int .i64 H.walk, .int .i64 H.early, .int .i64 H.foyer, .int .i64 H.dl, .int .i64 H.dh, .int .i64 H.cl, .int .i64 H.ch] 25 (0, 0)) ∧ Below w.heap.size w w' ∧ ∀ t : Int, 0 ≤ t → t < i → ¬ CanX H l m (us ++ [t])) (fun i => m.toNat - i) 0 (E.subc rfl (E.subc rfl (E.subc rfl (E.subc rfl (E.subc rfl (E.subn)))))) ⟨by omega, b4, L, fun t h1 h2 => by omega⟩ ?_
      rintro i w7 ⟨hi, b4, L, hno⟩
      refine E.CG.seq ?_
      refine E.CG.seq ?_
      refine E.CG.list ?_
      refine E.GL.run rfl rfl rfl (E.Runs.move rfl rfl) ?_
      refine E.GL.run rfl rfl rfl (E.Runs.move rfl rfl) ?_
      refine E.GL.cmp rfl rfl rfl (fun _ h => (E.Runs.lss rfl rfl rfl h)) (fun h32 => ?_) (fun h32 => ?_)
      · refine E.GL.done ?_
        refine E.QG.code ?_
        refine E.CG.cond_t rfl ?_
        refine E.CG.skip ?_
        refine E.QG.code ?_
        refine E.CG.seq ?_
        refine E.CG.block ?_
        refine E.CG.seq ?_
        refine E.CG.cut1 (fun (b : Bool) => [(1, .slice A1 l.length c1), (2, .slice A2 us.length c2), (3, .int .i64 m), (4, .pointer (some ⟨g4, 0, none⟩)), (11, .int .i64 i), (44, .bool b)]) (fun b w' => (b = true ↔ CanX H l m (us ++ [(i : Int)])) ∧ w'.heap[g4]? = some (.cells #[.int .i64 H.teams, .int .i64 H.walk, .int .i64 H.early, .int .i64 H.foyer, .int .i64 H.dl, .int .i64 H.dh, .int .i64 H.cl, .int .i64 H.ch] 25 (0, 0)) ∧ Below w.heap.size w w') ?_ ?_
        · refine E.CG.heldH (none) (by kernel_rfl) fun v9 lD hh => ?_
          replace b4 := blk_below b4 lD
          replace L := below_step L lD
          clear lD
          have q4 := b4
          have LV := Below.refl v9.heap.size v9
          have K0 := L
          refine E.GH.take (i := 0) rfl (by kernel_rfl) (by kernel_rfl) (by kernel_rfl) E.calm_cut1 rfl rfl rfl (fun w' hS => (E.Runs.loads (cs := [.int .i64 H.teams, .int .i64 H.walk, .int .i64 H.early, .int .i64 H.foyer, .int .i64 H.dl, .int .i64 H.dh, .int .i64 H.cl, .int .i64 H.ch]) rfl rfl hu25 rfl info25s (blk_cells (blk_grown q4 hS E.nen)))) ?_
          refine E.GH.take (i := 1) rfl (by kernel_rfl) (by kernel_rfl) (by kernel_rfl) E.calm_cut1 rfl rfl rfl (fun w' hS => (E.Runs.move rfl rfl)) ?_
          refine E.GH.take (i := 3) rfl (by kernel_rfl) (by kernel_rfl) (by kernel_rfl) E.calm_cut1 rfl rfl rfl (fun w' hS => (E.Runs.move rfl rfl)) ?_
          refine E.GH.take (i := 5) rfl (by kernel_rfl) (by kernel_rfl) (by kernel_rfl) E.calm_cut1 rfl rfl rfl (fun w' hS => (E.Runs.move rfl rfl)) ?_
          refine E.GH.take (i := 8) rfl (by kernel_rfl) (by kernel_rfl) (by kernel_rfl) E.calm_cut1 rfl rfl rfl (fun w' hS => (E.Runs.move rfl rfl)) ?_
          refine E.GH.all (rs := [2, 6]) (by kernel_rfl) (by simp) (E.GHs.cons rfl ?_ (E.GHs.cons rfl ?_ E.GHs.nil))
          · refine E.GO.st rfl rfl rfl (E.ST.litAt kI v9.heap.size (w0 := v9) (ys := ([] : List Int)) (inner := []) rfl rfl E.epn lit47n (Reps.none _ _) LV LV.size (by simp) fun u37 w37 R k37 l37 a37 => ⟨hh.trans (E.gbB l37), ?_⟩)
            replace hh := hh.trans (E.gbB l37)
            replace b4 := blk_below b4 l37
            replace LV := k37
            refine E.GH.all (rs := [4, 6]) (by kernel_rfl) (by simp) (E.GHs.cons rfl ?_ (E.GHs.cons rfl ?_ E.GHs.nil))
            · refine E.GO.st rfl rfl rfl (E.ST.appendAt kI v9.heap.size (w0 := v9) (s := .tmp 37) (x := .tmp 38) rfl hu47 info3 rfl (by decide) (by decide) rfl rfl R (Kd.C_below hR (below_step K0 LV)) int_made LV LV.size (by simp only [List.length_nil]; omega) fun u39 w39 r39 k39 gr39 a39 => ⟨E.gb_row hh gr39 (Kd.R_base R), ?_⟩)
              have R_ := Kd.R_base R
              replace hh := E.gb_row hh gr39 R_
              replace b4 := blk_grown b4 gr39 (Kd.R_ne R b4 (by decide))
              replace R := r39
              replace LV := k39
              clear R_ r39 k39
              rw [List.nil_append] at R
              refine E.GH.one (i := 6) (by kernel_rfl) rfl ?_
              refine E.GO.st rfl rfl rfl (E.ST.litB rfl (E.epc rfl E.epn) (lit47 (i : Int)) fun g41 w41 e41 b41 l41 => ⟨hh.trans (E.gbB l41), ?_⟩)
              replace hh := hh.trans (E.gbB l41)
              have n41 : some g41 ≠ u39.ownBlock := fun e => by have := Kd.R_lt R _ e.symm; omega
              replace R := Kd.R_below R l41
              replace b4 := blk_below b4 l41
              replace LV := below_step LV l41
              refine E.GH.one (i := 7) (by kernel_rfl) rfl ?_
              refine E.GO.st rfl rfl rfl (E.ST.appendAt kI v9.heap.size (w0 := v9) (s := .tmp 39) (x := .tmp 41) rfl hu47 info3 rfl (by decide) (by decide) rfl rfl R (C_int1 b41) int_made LV LV.size (by first | omega | (simp only [List.nil_append]; omega)) fun u42 w42 r42 k42 gr42 a42 => ⟨E.gb_row hh gr42 (Kd.R_base R), ?_⟩)
              have R_ := Kd.R_base R
              replace hh := E.gb_row hh gr42 R_
              replace b4 := blk_grown b4 gr42 (Kd.R_ne R b4 (by decide))
              replace R := r42
              replace LV := k42
              clear R_ r42 k42
              obtain ⟨A42, c42, h42⟩ := Kd.R_slice R
              subst h42
              obtain ⟨_, hq2, C42⟩ := Kd.R_reads' R
              refine E.GH.one (i := 9) (by kernel_rfl) rfl ?_
              refine E.GO.st rfl rfl rfl (E.ST.call rfl ent59 (E.evc rfl (E.evc rfl (E.evc rfl (E.evc rfl E.evn)))) ((ih hlt (i : Int) A42 c42 _ (by omega) h32 (Kd.C_below hr (below_step K0 LV)) C42).mono ?_))
              rintro e w44 ⟨b, rfl, hb, l44⟩
              refine ⟨_, rfl, hh.trans (E.gbB l44), ?_⟩
              replace b4 := blk_below b4 l44
              replace LV := below_step LV l44
              refine E.GH.done (by kernel_rfl) ?_
              exact E.QG.meet1 _ (E.subc rfl (E.subc rfl (E.subc rfl (E.subc rfl (E.subc rfl (E.subc rfl (E.subn))))))) ⟨hb, b4, below_step K0 LV⟩
            · refine E.GO.st rfl rfl rfl (E.ST.litB rfl (E.epc rfl E.epn) (lit47 (i : Int)) fun g41 w41 e41 b41 l41 => ⟨hh.trans (E.gbB l41), ?_⟩)
              replace hh := hh.trans (E.gbB l41)
              have n41 : some g41 ≠ u37.ownBlock := fun e => by have := Kd.R_lt R _ e.symm; omega
              replace R := Kd.R_below R l41
              replace b4 := blk_below b4 l41
              replace LV := below_step LV l41
              refine E.GH.one (i := 4) (by kernel_rfl) rfl ?_
              refine E.GO.st rfl rfl rfl (E.ST.appendAt kI v9.heap.size (w0 := v9) (s := .tmp 37) (x := .tmp 38) rfl hu47 info3 rfl (by decide) (by decide) rfl rfl R (Kd.C_below hR (below_step K0 LV)) int_made LV LV.size (by simp only [List.length_nil]; omega) fun u39 w39 r39 k39 gr39 a39 => ⟨E.gb_row hh gr39 (Kd.R_base R), ?_⟩)
              have R_ := Kd.R_base R
              replace hh := E.gb_row hh gr39 R_
              replace b4 := blk_grown b4 gr39 (Kd.R_ne R b4 (by decide))
              replace b41 := blk_grown b41 gr39 n41
              replace R := r39
              replace LV := k39
              clear R_ r39 k39
              rw [List.nil_append] at R
              refine E.GH.one (i := 7) (by kernel_rfl) rfl ?_
              refine E.GO.st rfl rfl rfl (E.ST.appendAt kI v9.heap.size (w0 := v9) (s := .tmp 39) (x := .tmp 41) rfl hu47 info3 rfl (by decide) (by decide) rfl rfl R (C_int1 b41) int_made LV LV.size (by first | omega | (simp only [List.nil_append]; omega)) fun u42 w42 r42 k42 gr42 a42 => ⟨E.gb_row hh gr42 (Kd.R_base R), ?_⟩)
              have R_ := Kd.R_base R
              replace hh := E.gb_row hh gr42 R_
              replace b4 := blk_grown b4 gr42 (Kd.R_ne R b4 (by decide))
              replace R := r42
              replace LV := k42
              clear R_ r42 k42
              obtain ⟨A42, c42, h42⟩ := Kd.R_slice R
              subst h42
              obtain ⟨_, hq2, C42⟩ := Kd.R_reads' R
              refine E.GH.one (i := 9) (by kernel_rfl) rfl ?_
              refine E.GO.st rfl rfl rfl (E.ST.call rfl ent59 (E.evc rfl (E.evc rfl (E.evc rfl (E.evc rfl E.evn)))) ((ih hlt (i : Int) A42 c42 _ (by omega) h32 (Kd.C_below hr (below_step K0 LV)) C42).mono ?_))
              rintro e w44 ⟨b, rfl, hb, l44⟩
              refine ⟨_, rfl, hh.trans (E.gbB l44), ?_⟩
              replace b4 := blk_below b4 l44
              replace LV := below_step LV l44
              refine E.GH.done (by kernel_rfl) ?_
              exact E.QG.meet1 _ (E.subc rfl (E.subc rfl (E.subc rfl (E.subc rfl (E.subc rfl (E.subc rfl (E.subn))))))) ⟨hb, b4, below_step K0 LV⟩
          · refine E.GO.st rfl rfl rfl (E.ST.litB rfl (E.epc rfl E.epn) (lit47 (i : Int)) fun g41 w41 e41 b41 l41 => ⟨hh.trans (E.gbB l41), ?_⟩)
            replace hh := hh.trans (E.gbB l41)
            replace b4 := blk_below b4 l41
            replace LV := below_step LV l41
            refine E.GH.one (i := 2) (by kernel_rfl) rfl ?_
            refine E.GO.st rfl rfl rfl (E.ST.litAt kI v9.heap.size (w0 := v9) (ys := ([] : List Int)) (inner := []) rfl rfl E.epn lit47n (Reps.none _ _) LV LV.size (by simp) fun u37 w37 R k37 l37 a37 => ⟨hh.trans (E.gbB l37), ?_⟩)
            replace hh := hh.trans (E.gbB l37)
            have n41 : some g41 ≠ u37.ownBlock := fun e => by obtain ⟨k, e1, e2⟩ := a37; rw [e1] at e; have := Option.some.inj e; have := blk_lt b41; omega
            replace b41 := blk_below b41 l37
            replace b4 := blk_below b4 l37
            replace LV := k37
            refine E.GH.one (i := 4) (by kernel_rfl) rfl ?_
            refine E.GO.st rfl rfl rfl (E.ST.appendAt kI v9.heap.size (w0 := v9) (s := .tmp 37) (x := .tmp 38) rfl hu47 info3 rfl (by decide) (by decide) rfl rfl R (Kd.C_below hR (below_step K0 LV)) int_made LV LV.size (by simp only [List.length_nil]; omega) fun u39 w39 r39 k39 gr39 a39 => ⟨E.gb_row hh gr39 (Kd.R_base R), ?_⟩)
            have R_ := Kd.R_base R
            replace hh := E.gb_row hh gr39 R_
            replace b4 := blk_grown b4 gr39 (Kd.R_ne R b4 (by decide))
            replace b41 := blk_grown b41 gr39 n41
            replace R := r39
            replace LV := k39
            clear R_ r39 k39
            rw [List.nil_append] at R
            refine E.GH.one (i := 7) (by kernel_rfl) rfl ?_
            refine E.GO.st rfl rfl rfl (E.ST.appendAt kI v9.heap.size (w0 := v9) (s := .tmp 39) (x := .tmp 41) rfl hu47 info3 rfl (by decide) (by decide) rfl rfl R (C_int1 b41) int_made LV LV.size (by first | omega | (simp only [List.nil_append]; omega)) fun u42 w42 r42 k42 gr42 a42 => ⟨E.gb_row hh gr42 (Kd.R_base R), ?_⟩)
            have R_ := Kd.R_base R
            replace hh := E.gb_row hh gr42 R_
            replace b4 := blk_grown b4 gr42 (Kd.R_ne R b4 (by decide))
            replace R := r42
            replace LV := k42
            clear R_ r42 k42
            obtain ⟨A42, c42, h42⟩ := Kd.R_slice R
            subst h42
            obtain ⟨_, hq2, C42⟩ := Kd.R_reads' R
            refine E.GH.one (i := 9) (by kernel_rfl) rfl ?_
            refine E.GO.st rfl rfl rfl (E.ST.call rfl ent59 (E.evc rfl (E.evc rfl (E.evc rfl (E.evc rfl E.evn)))) ((ih hlt (i : Int) A42 c42 _ (by omega) h32 (Kd.C_below hr (below_step K0 LV)) C42).mono ?_))
            rintro e w44 ⟨b, rfl, hb, l44⟩
            refine ⟨_, rfl, hh.trans (E.gbB l44), ?_⟩
            replace b4 := blk_below b4 l44
            replace LV := below_step LV l44
            refine E.GH.done (by kernel_rfl) ?_
            exact E.QG.meet1 _ (E.subc rfl (E.subc rfl (E.subc rfl (E.subc rfl (E.subc rfl (E.subc rfl (E.subn))))))) ⟨hb, b4, below_step K0 LV⟩
        clear b4 L
        intro b w9 ⟨hb, b4, L⟩
        rcases b with _ | _
        · refine E.QG.code ?_
          refine E.CG.cond_f rfl ?_
          refine E.CG.skip ?_
          refine E.QG.block_normal ?_
          refine E.QG.code ?_
          refine E.CG.list ?_
          refine E.GL.run rfl rfl rfl (E.Runs.move rfl rfl) ?_
          refine E.GL.run rfl rfl rfl (E.Runs.add rfl rfl rfl (IntWalk.i64_in _ (by omega))) ?_
          refine E.GL.run rfl rfl rfl (E.Runs.assign rfl rfl) ?_
          refine E.GL.done ?_
          exact E.QG.round (i + 1) (E.subc rfl (E.subc rfl (E.subc rfl (E.subc rfl (E.subc rfl E.subn))))) ⟨by omega, b4, L, no_step (P := fun t => CanX H l m (us ++ [t])) (fun k => Bool.noConfusion (hb.mpr k)) hno⟩ (by omega)
        · refine E.QG.code ?_
          refine E.CG.cond_t rfl ?_
          refine E.CG.seq ?_
          refine E.CG.list ?_
          refine E.GL.run rfl rfl rfl (E.Runs.assign rfl rfl) ?_
          refine E.GL.done ?_
          refine E.QG.code ?_
          refine E.CG.ret ?_
          refine E.QG.block_ret ?_
          refine E.QG.pass_ret ?_
          refine E.QG.pass_ret ?_
          refine E.QG.block_ret ?_
          refine E.QG.pass_ret ?_
          exact E.QG.result rfl rfl ⟨true, rfl, iff_of_true rfl (can_prev (hb.mp rfl)), L⟩
      · refine E.GL.done ?_
        refine E.QG.code ?_
        refine E.CG.cond_f rfl ?_
        refine E.CG.exit ?_
        refine E.QG.pass_exit ?_
        refine E.QG.pass_exit ?_
        refine E.QG.block_here ?_
        refine E.QG.code ?_
        refine E.CG.seq ?_
        refine E.CG.list ?_
        refine E.GL.run rfl rfl rfl (E.Runs.assign rfl rfl) ?_
        refine E.GL.done ?_
        refine E.QG.code ?_
        refine E.CG.ret ?_
        exact E.QG.result rfl rfl ⟨false, rfl, iff_of_false Bool.false_ne_true (fun k => by obtain ⟨t, k1, k2⟩ := can_next k hlt; exact hno t k1.1 (by omega) k2), L⟩

theorem can_calls (H : Hs) (l : List S36) (m : Int) (A1 : Option Addr) (c1 : Nat) (hV : Valid H l) (hm : 0 ≤ m ∧ m ≤ 4) (hc : l.length ≤ c1) :
    ∀ (k : Nat) (us : List Int) (A2 : Option Addr) (c2 : Nat) (w : World), us.length + k = l.length → (∀ t ∈ us, 0 ≤ t ∧ t < m) → Kd.C k36 w A1 l.length l → Kd.C kI w A2 us.length us →
    Calls Try.prog 59 #[hv H, .slice A1 l.length c1, .slice A2 us.length c2, .int .i64 m] w fun e w' => ∃ b : Bool, e = .returned (.bool b) ∧ (b = true ↔ CanX H l m us) ∧ Below w.heap.size w w'
  | 0, us, A2, c2, w, hk, ht, hr, hR => can_step H l m us A1 A2 c1 c2 w hV hm (by omega) ht (fun h => by omega) hr hc hR
  | k + 1, us, A2, c2, w, hk, ht, hr, hR => can_step H l m us A1 A2 c1 c2 w hV hm (by omega) ht (fun _ t A c W h0 h1 hr' hR' => can_calls H l m A1 c1 hV hm hc k (us ++ [t]) A c W (by simp; omega) (fun x hx => by
      rcases List.mem_append.mp hx with hx | hx
      · exact ht x hx
      · simp at hx
        subst hx
        exact ⟨h0, h1⟩) hr' hR') hr hc hR
end Go.Proofs.Ythdbkhdiaehblaa.T
