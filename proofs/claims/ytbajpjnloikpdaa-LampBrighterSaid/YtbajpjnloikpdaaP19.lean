/- Blame: the walks of both texts. -/
import Derived.Test.YtbajpjnloikpdaaP18
import Derived.Test.YtbajpjnloikpdaaP5
namespace Go.Proofs.Ytbajpjnloikpdaa.T
open Go.RowKit Go.Proofs.YtbajpjnloikpdaaW.PrintWords Go.Proofs.YtbajpjnloikpdaaW.PrintMore
open Go.Proofs.Ytbajpjnloikpdaa.P
set_option linter.unusedVariables false
set_option linter.unusedSimpArgs false

/-- A reading is wrong in each truth. -/
def badG (t : List Ln) (g : S64) : Prop := ∀ x ∈ t, ¬ gOk x g
instance (t : List Ln) (g : S64) : Decidable (badG t g) := by unfold badG; infer_instance
def blameF (t : List Ln) : List S64 → Int → List Int
  | [], _ => []
  | g :: r, i => if badG t g then i :: blameF t r (i + 1) else blameF t r (i + 1)
theorem blameF_snoc (t : List Ln) (g : S64) : ∀ (l : List S64) (i : Int), blameF t (l ++ [g]) i = blameF t l i ++ (if badG t g then [i + l.length] else [])
  | [], i => by
    simp only [List.nil_append, blameF]
    split <;> simp
  | a :: l, i => by
    simp only [List.cons_append, blameF, blameF_snoc t g l (i + 1), List.length_cons]
    rw [show i + 1 + (l.length : Int) = i + ((l.length + 1 : Nat) : Int) by omega]
    split <;> simp
theorem blameF_len (t : List Ln) : ∀ (l : List S64) (i : Int), (blameF t l i).length ≤ l.length
  | [], _ => Nat.le_refl _
  | g :: l, i => by
    have := blameF_len t l (i + 1)
    simp only [blameF, List.length_cons]
    split <;> simp <;> omega
theorem blame_step {gs : List S64} {t : List Ln} {i : Nat} {g : S64} (hg : gs[i]? = some g) : blameF t (gs.take (i + 1)) 0 = blameF t (gs.take i) 0 ++ (if badG t g then [(i : Int)] else []) := by
  have h1 := (List.getElem?_eq_some_iff.1 hg).1
  rw [List.take_add_one, hg]
  show blameF t (gs.take i ++ [g]) 0 = _
  rw [blameF_snoc, List.length_take, Nat.min_eq_left (by omega), Int.zero_add]
def blameV (M : Lm) : List Int := if askE M 0 = 0 then blameF (truths M) M.gs 0 else []
theorem blameV_no {M : Lm} (h : ¬ askE M 0 = 0) : blameV M = [] := if_neg h
theorem blameV_yes {M : Lm} (h : askE M 0 = 0) : blameV M = blameF (truths M) M.gs 0 := if_pos h
theorem bad_more {t : List Ln} {n : Nat} {x : Ln} {g : S64} (h : ∀ k, k < n → ∀ x, t[k]? = some x → ¬ gOk x g) (hx : t[n]? = some x) (k : ¬ gOk x g) : ∀ k, k < n + 1 → ∀ x, t[k]? = some x → ¬ gOk x g := by
  intro j hj y hy
  by_cases e : j = n
  · subst e
    rw [hx] at hy
    cases hy
    exact k
  · exact h j (by omega) y hy
theorem bad_all {t : List Ln} {n : Nat} {g : S64} (h : ∀ k, k < n → ∀ x, t[k]? = some x → ¬ gOk x g) (hn : t.length ≤ n) : badG t g := fun x hx => by
  obtain ⟨k, hk⟩ := List.mem_iff_getElem?.mp hx
  exact h k (by have := (List.getElem?_eq_some_iff.1 hk).1; omega) x hk
theorem mem_wrongsF {x : Ln} : ∀ {l : List S64} {j k : Int}, k ∈ wrongsF x l j ↔ ∃ (i : Nat) (g : S64), k = j + i ∧ l[i]? = some g ∧ ¬ gOk x g
  | [], j, k => by simp [wrongsF]
  | g :: l, j, k => by
    have ih := mem_wrongsF (x := x) (l := l) (j := j + 1) (k := k)
    have key : (∃ (i : Nat) (g' : S64), k = j + i ∧ (g :: l)[i]? = some g' ∧ ¬ gOk x g') ↔ (k = j ∧ ¬ gOk x g) ∨ ∃ (i : Nat) (g' : S64), k = j + 1 + i ∧ l[i]? = some g' ∧ ¬ gOk x g' := by
      constructor
      · rintro ⟨i, g', h1, h2, h3⟩
        cases i with
        | zero => cases h2; exact .inl ⟨by omega, h3⟩
        | succ i => exact .inr ⟨i, g', by omega, by simpa using h2, h3⟩
      · rintro (⟨h1, h2⟩ | ⟨i, g', h1, h2, h3⟩)
        · exact ⟨0, g, by omega, rfl, h2⟩
        · exact ⟨i + 1, g', by omega, by simpa using h2, h3⟩
    rw [key, ← ih]
    simp only [wrongsF]
    split
    · next q => simp [q]
    · next q => simp [q]
theorem mem_wrongs {M : Lm} {x : Ln} {i : Nat} {g : S64} (hg : M.gs[i]? = some g) : (i : Int) ∈ wrongs M x ↔ ¬ gOk x g := by
  rw [mem_wrongsF]
  constructor
  · rintro ⟨j, g', h1, h2, h3⟩
    obtain rfl : j = i := by omega
    rw [hg] at h2
    cases h2
    exact h3
  · exact fun h => ⟨i, g, by omega, hg, h⟩
set_option maxRecDepth 100000 in
set_option maxHeartbeats 8000000 in

theorem clo60 (x : Ln) (g : S64) (gg : Nat) (r : Bool) (hb : r = true ↔ gOk x g) (w : World) (bg : w.heap[gg]? = some (.cells #[.int .i64 g.f0, .int .i64 g.f1, .int .i64 g.f2] 64 (0, 0))) (hx : PtOk x) (h0 : 0 ≤ g.f0) (h1 : g.f0 ≤ 40) :
    Calls Try.prog 60 #[pv x, .pointer (some ⟨gg, 0, none⟩)] w fun e w' => e = .returned (.bool r) ∧ Below w.heap.size w w' := by
  have hu3 := Try.underlying3
  have hu64 := Try.underlying64
  have hu80 := Try.underlying80
  obtain ⟨z3, o3⟩ := info_some info3s (by decide)
  refine E.enter (N := 13) Try.func60 rfl Try.ntmps60 (args := [pv x, .pointer (some ⟨gg, 0, none⟩)]) (by simp) ?_
  have L := Below.refl w.heap.size w
  refine E.CG.seq ?_
  refine E.CG.list ?_
  refine E.GL.st rfl rfl rfl (E.ST.box rfl rfl fun g2 w2 e2 b2 l2 => ?_)
  have h2_L : w.heap.size ≤ g2 := by rw [e2]; exact L.size
  have n2_bg : gg ≠ g2 := by have := blk_lt bg; omega
  replace bg := blk_below bg l2
  replace L := below_step L l2
  refine E.GL.run rfl rfl rfl (E.Runs.assign rfl rfl) ?_
  refine E.GL.done ?_
  refine E.QG.code ?_
  refine E.CG.seq ?_
  refine E.CG.heldH (none) (by kernel_rfl) fun v1 lD hh => ?_
  replace bg := blk_below bg lD
  replace b2 := blk_below b2 lD
  replace L := below_step L lD
  clear lD
  have s_bg := bg
  have s_b2 := b2
  have s_L := L
  refine E.GH.take (i := 0) rfl (by kernel_rfl) (by kernel_rfl) (by kernel_rfl) (by intro c a d v w h; cases d <;> exact h) rfl rfl rfl (fun w' hS => (E.Runs.loads (cs := [.int .i64 x.f0, .int .i64 x.f1]) rfl rfl hu80 rfl info80s (blk_cells (blk_grown s_b2 hS E.nen)))) ?_
  refine E.GH.take (i := 1) rfl (by kernel_rfl) (by kernel_rfl) (by kernel_rfl) (by intro c a d v w h; cases d <;> exact h) rfl rfl rfl (fun w' hS => (E.Runs.fieldAddr rfl rfl hu64 rfl (by assumption) rfl)) ?_
  refine E.GH.take (i := 2) rfl (by kernel_rfl) (by kernel_rfl) (by kernel_rfl) (by intro c a d v w h; cases d <;> exact h) rfl rfl rfl (fun w' hS => (E.Runs.load rfl rfl hu3 (by first | exact E.keeps hS (E.blkc (by assumption) rfl) (by first | exact E.nen | exact E.nes (by assumption) | exact E.nes (Ne.symm (by assumption))) | exact pw_cell_below (below_step s_L (E.belowG hS)) (by assumption)))) ?_
  refine E.GH.take (i := 4) rfl (by kernel_rfl) (by kernel_rfl) (by kernel_rfl) (by intro c a d v w h; cases d <;> exact h) rfl rfl rfl (fun w' hS => (E.Runs.fieldAddr rfl rfl hu64 rfl (by assumption) rfl)) ?_
  refine E.GH.take (i := 5) rfl (by kernel_rfl) (by kernel_rfl) (by kernel_rfl) (by intro c a d v w h; cases d <;> exact h) rfl rfl rfl (fun w' hS => (E.Runs.load rfl rfl hu3 (by first | exact E.keeps hS (E.blkc (by assumption) rfl) (by first | exact E.nen | exact E.nes (by assumption) | exact E.nes (Ne.symm (by assumption))) | exact pw_cell_below (below_step s_L (E.belowG hS)) (by assumption)))) ?_
  refine E.GH.take (i := 6) rfl (by kernel_rfl) (by kernel_rfl) (by kernel_rfl) (by intro c a d v w h; cases d <;> exact h) rfl rfl rfl (fun w' hS => (E.Runs.fieldAddr rfl rfl hu64 rfl (by assumption) rfl)) ?_
  refine E.GH.take (i := 7) rfl (by kernel_rfl) (by kernel_rfl) (by kernel_rfl) (by intro c a d v w h; cases d <;> exact h) rfl rfl rfl (fun w' hS => (E.Runs.load rfl rfl hu3 (by first | exact E.keeps hS (E.blkc (by assumption) rfl) (by first | exact E.nen | exact E.nes (by assumption) | exact E.nes (Ne.symm (by assumption))) | exact pw_cell_below (below_step s_L (E.belowG hS)) (by assumption)))) ?_
  refine E.GH.one (i := 3) (by kernel_rfl) rfl ?_
  refine E.GO.st rfl rfl rfl (E.ST.call rfl ent55 (E.evc rfl (E.evc rfl E.evn)) ((at_o x g.f0 _ hx h0 (by omega)).mono ?_))
  rintro e w7 ⟨rfl, l7⟩
  refine ⟨_, rfl, hh.trans (E.gbB l7), ?_⟩
  replace hh := hh.trans (E.gbB l7)
  replace bg := blk_below bg l7
  replace b2 := blk_below b2 l7
  replace L := below_step L l7
  refine E.GH.one (i := 8) (by kernel_rfl) rfl ?_
  refine E.GO.st rfl rfl rfl (E.ST.call rfl ent43 (E.evc rfl (E.evc rfl (E.evc rfl E.evn))) ((within_o (light x g.f0) g.f1 g.f2 r hb _).mono ?_))
  rintro e w12 ⟨rfl, l12⟩
  refine ⟨_, rfl, hh.trans (E.gbB l12), ?_⟩
  replace hh := hh.trans (E.gbB l12)
  replace bg := blk_below bg l12
  replace b2 := blk_below b2 l12
  replace L := below_step L l12
  refine E.GH.take (i := 9) rfl (by kernel_rfl) (by kernel_rfl) (by kernel_rfl) (by intro c a d v w h; cases d <;> exact h) rfl rfl rfl (fun w' hS => (E.Runs.assign rfl rfl)) ?_
  refine E.GH.done (by kernel_rfl) ?_
  refine E.QG.code ?_
  refine E.CG.ret ?_
  exact E.QG.result rfl rfl ⟨rfl, L⟩

set_option maxRecDepth 100000 in
set_option maxHeartbeats 8000000 in

theorem index60 (t : List Ln) (g : S64) (gg : Nat) (A : Option Addr) (c : Nat) (w : World) (bg : w.heap[gg]? = some (.cells #[.int .i64 g.f0, .int .i64 g.f1, .int .i64 g.f2] 64 (0, 0))) (hr : Kd.C kL w A t.length t) (ht : ∀ x ∈ t, PtOk x) (hn : t.length ≤ 1000000) (h0 : 0 ≤ g.f0) (h1 : g.f0 ≤ 40) :
    Calls Try.prog 69 #[.slice A t.length c, .func (.func 60) #[] #[.pointer (some ⟨gg, 0, none⟩)]] w fun e w' => ∃ r : Int, e = .returned (.int .i64 r) ∧ (0 ≤ r ↔ ¬ badG t g) ∧ Below w.heap.size w w' := by
  have hu3 := Try.underlying3
  have hu72 := Try.underlying72
  have hu80 := Try.underlying80
  obtain ⟨z80, o80⟩ := info_some info80s (by decide)
  refine E.enter (N := 19) Try.func69 rfl Try.ntmps69 (args := [.slice A t.length c, .func (.func 60) #[] #[.pointer (some ⟨gg, 0, none⟩)]]) (by simp) ?_
  have L := Below.refl w.heap.size w
  refine E.CG.seq ?_
  refine E.CG.list ?_
  refine E.GL.run rfl rfl rfl (E.Runs.assign rfl rfl) ?_
  refine E.GL.done ?_
  refine E.QG.code ?_
  refine E.CG.seq ?_
  refine E.CG.seq ?_
  refine E.CG.list ?_
  refine E.GL.run rfl rfl rfl (E.Runs.move rfl rfl) ?_
  refine E.GL.run rfl rfl rfl (E.Runs.len rfl rfl hu72) ?_
  refine E.GL.run rfl rfl rfl (E.Runs.move rfl rfl) ?_
  refine E.GL.done ?_
  refine E.QG.code ?_
  refine E.CG.block ?_
  have s2_L := L
  refine E.CG.loop (fun (i : Nat) => [(0, .slice A t.length c), (1, .func (.func 60) #[] #[.pointer (some ⟨gg, 0, none⟩)]), (7, .int .i64 t.length), (8, .int .i64 i)]) (fun i w' => i ≤ t.length ∧ Below w.heap.size w w' ∧ ∀ k, k < i → ∀ x, t[k]? = some x → ¬ gOk x g) (fun i => t.length - i) 0 (E.subc rfl (E.subc rfl (E.subc rfl (E.subc rfl E.subn)))) ⟨Nat.zero_le _, L, fun k hk => by omega⟩ ?_
  rintro i w2 ⟨hi, L, hok⟩
  refine E.CG.seq ?_
  refine E.CG.list ?_
  refine E.GL.cmp rfl rfl rfl (fun _ h => (E.Runs.lss rfl rfl rfl h)) (fun h9 => ?_) (fun h9 => ?_)
  · obtain ⟨x, hx⟩ : ∃ x, t[i]? = some x := ⟨_, List.getElem?_eq_getElem (by omega)⟩
    obtain ⟨ad, eA, X⟩ := line_at hr hx
    refine E.GL.done ?_
    refine E.QG.code ?_
    refine E.CG.seq ?_
    refine E.CG.cond_t rfl ?_
    refine E.CG.skip ?_
    refine E.QG.code ?_
    refine E.CG.seq ?_
    refine E.CG.block ?_
    refine E.CG.seq ?_
    refine E.CG.list ?_
    refine E.GL.run rfl rfl rfl (E.Runs.move rfl rfl) ?_
    refine E.GL.run rfl rfl rfl (E.Runs.assign rfl rfl) ?_
    refine E.GL.done ?_
    refine E.QG.code ?_
    refine E.CG.seq ?_
    refine E.CG.list ?_
    refine E.GL.run rfl rfl rfl (E.Runs.move rfl rfl) ?_
    refine E.GL.run rfl rfl rfl (E.Runs.move rfl rfl) ?_
    refine E.GL.run rfl rfl rfl (E.Runs.move rfl rfl) ?_
    refine E.GL.run rfl rfl rfl (E.Runs.indexAddrA rfl rfl rfl hu72 (by assumption) (by assumption) (by assumption) (by first | rfl | assumption) rfl) ?_
    refine E.GL.run rfl rfl rfl (E.Runs.loads (cs := [.int .i64 x.f0, .int .i64 x.f1]) rfl rfl hu80 rfl info80s ((X.below L).cells)) ?_
    by_cases h16 : gOk x g
    · refine E.GL.st rfl rfl rfl (E.ST.callV (cap := [.pointer (some ⟨gg, 0, none⟩)]) rfl ent60 rfl (E.evc rfl E.evn) ((clo60 x g gg true (iff_of_true rfl h16) _ (blk_below bg L) (ht x (List.mem_of_getElem? hx)) h0 h1).mono ?_))
      rintro e w16 ⟨rfl, l16⟩
      refine ⟨_, rfl, ?_⟩
      replace L := below_step L l16
      refine E.GL.done ?_
      refine E.QG.code ?_
      refine E.CG.cond_t rfl ?_
      refine E.CG.seq ?_
      refine E.CG.list ?_
      refine E.GL.run rfl rfl rfl (E.Runs.move rfl rfl) ?_
      refine E.GL.run rfl rfl rfl (E.Runs.assign rfl rfl) ?_
      refine E.GL.done ?_
      refine E.QG.code ?_
      refine E.CG.ret ?_
      refine E.QG.block_ret ?_
      refine E.QG.pass_ret ?_
      refine E.QG.pass_ret ?_
      refine E.QG.block_ret ?_
      refine E.QG.pass_ret ?_
      exact E.QG.result rfl rfl ⟨_, rfl, iff_of_true (by omega) (fun k => k x (List.mem_of_getElem? hx) h16), L⟩
    · refine E.GL.st rfl rfl rfl (E.ST.callV (cap := [.pointer (some ⟨gg, 0, none⟩)]) rfl ent60 rfl (E.evc rfl E.evn) ((clo60 x g gg false (iff_of_false Bool.false_ne_true h16) _ (blk_below bg L) (ht x (List.mem_of_getElem? hx)) h0 h1).mono ?_))
      rintro e w16 ⟨rfl, l16⟩
      refine ⟨_, rfl, ?_⟩
      replace L := below_step L l16
      refine E.GL.done ?_
      refine E.QG.code ?_
      refine E.CG.cond_f rfl ?_
      refine E.CG.skip ?_
      refine E.QG.block_normal ?_
      refine E.QG.code ?_
      refine E.CG.list ?_
      refine E.GL.run rfl rfl rfl (E.Runs.add rfl rfl rfl (IntWalk.i64_in _ (by omega))) ?_
      refine E.GL.run rfl rfl rfl (E.Runs.move rfl rfl) ?_
      refine E.GL.done ?_
      exact E.QG.round (i + 1) (E.subc rfl (E.subc rfl (E.subc rfl (E.subc rfl E.subn)))) ⟨by omega, L, bad_more hok hx h16⟩ (by omega)
  · refine E.GL.done ?_
    refine E.QG.code ?_
    refine E.CG.seq ?_
    refine E.CG.cond_f rfl ?_
    refine E.CG.exit ?_
    refine E.QG.pass_exit ?_
    refine E.QG.pass_exit ?_
    refine E.QG.block_here ?_
    refine E.QG.code ?_
    refine E.CG.seq ?_
    refine E.CG.list ?_
    refine E.GL.run rfl rfl rfl (E.Runs.assign rfl rfl) ?_
    refine E.GL.done ?_
    refine E.QG.code ?_
    refine E.CG.ret ?_
    exact E.QG.result rfl rfl ⟨_, rfl, iff_of_false (by omega) (fun k => k (bad_all hok (by omega))), L⟩

set_option maxRecDepth 100000 in
set_option maxHeartbeats 8000000 in

theorem contains60 (t : List Ln) (g : S64) (gg : Nat) (A : Option Addr) (c : Nat) (w : World) (r : Bool) (hb : r = true ↔ ¬ badG t g) (bg : w.heap[gg]? = some (.cells #[.int .i64 g.f0, .int .i64 g.f1, .int .i64 g.f2] 64 (0, 0))) (hr : Kd.C kL w A t.length t) (ht : ∀ x ∈ t, PtOk x) (hn : t.length ≤ 1000000) (h0 : 0 ≤ g.f0) (h1 : g.f0 ≤ 40) :
    Calls Try.prog 61 #[.slice A t.length c, .func (.func 60) #[] #[.pointer (some ⟨gg, 0, none⟩)]] w fun e w' => e = .returned (.bool r) ∧ Below w.heap.size w w' := by
  have hu3 := Try.underlying3
  have hu72 := Try.underlying72
  refine E.enter (N := 9) Try.func61 rfl Try.ntmps61 (args := [.slice A t.length c, .func (.func 60) #[] #[.pointer (some ⟨gg, 0, none⟩)]]) (by simp) ?_
  have L := Below.refl w.heap.size w
  refine E.CG.seq ?_
  refine E.CG.list ?_
  refine E.GL.run rfl rfl rfl (E.Runs.assign rfl rfl) ?_
  refine E.GL.done ?_
  refine E.QG.code ?_
  refine E.CG.seq ?_
  refine E.CG.list ?_
  refine E.GL.run rfl rfl rfl (E.Runs.move rfl rfl) ?_
  refine E.GL.run rfl rfl rfl (E.Runs.move rfl rfl) ?_
  refine E.GL.st rfl rfl rfl (E.ST.call rfl ent69 (E.evc rfl (E.evc rfl E.evn)) ((index60 t g gg A c _ (blk_below bg L) (Kd.C_below hr L) ht hn h0 h1).mono ?_))
  rintro e w7 ⟨q, rfl, hq, l7⟩
  refine ⟨_, rfl, ?_⟩
  replace L := below_step L l7
  refine E.GL.cmp rfl rfl rfl (fun _ h => (E.Runs.geq rfl rfl rfl h)) (fun h8 => ?_) (fun h8 => ?_)
  · refine E.GL.run rfl rfl rfl (E.Runs.assign rfl rfl) ?_
    refine E.GL.done ?_
    refine E.QG.code ?_
    refine E.CG.ret ?_
    exact E.QG.result rfl rfl ⟨by rw [hb.mpr (hq.mp h8)], L⟩
  · refine E.GL.run rfl rfl rfl (E.Runs.assign rfl rfl) ?_
    refine E.GL.done ?_
    refine E.QG.code ?_
    refine E.CG.ret ?_
    exact E.QG.result rfl rfl ⟨by rw [bool_no hb (fun k => h8 (hq.mpr k))], L⟩

set_option maxRecDepth 100000 in
set_option maxHeartbeats 8000000 in

theorem blame_calls (M : Lm) (A : Option Addr) (c : Nat) (w : World) (hr : Kd.C k64 w A M.gs.length M.gs) (hn : M.gs.length ≤ 1000000) :
    Calls Try.prog 34 #[lv M A c] w fun e w' => ∃ v, e = .returned (.tuple #[v, .int .i64 (askE M 0)]) ∧ Kd.R kI 3 w' w.heap.size (fun _ => True) v (blameV M) ∧ Below w.heap.size w w' := by
  have hu3 := Try.underlying3
  have hu24 := Try.underlying24
  have hu26 := Try.underlying26
  have hu27 := Try.underlying27
  have hu64 := Try.underlying64
  have hu72 := Try.underlying72
  obtain ⟨z3, o3⟩ := info_some info3s (by decide)
  obtain ⟨z24, o24⟩ := info_some info24s (by decide)
  obtain ⟨z64, o64⟩ := info_some info64s (by decide)
  refine E.enter (N := 37) Try.func34 rfl Try.ntmps34 (args := [lv M A c]) (by simp) ?_
  have L := Below.refl w.heap.size w
  refine E.CG.seq ?_
  refine E.CG.list ?_
  refine E.GL.st rfl rfl rfl (E.ST.box rfl rfl fun g1 w1 e1 b1 l1 => ?_)
  have h1_L : w.heap.size ≤ g1 := by rw [e1]; exact L.size
  replace L := below_step L l1
  refine E.GL.run rfl rfl rfl (E.Runs.assign rfl rfl) ?_
  refine E.GL.run rfl rfl rfl (E.Runs.assign rfl rfl) ?_
  refine E.GL.done ?_
  refine E.QG.code ?_
  refine E.CG.seq ?_
  refine E.CG.list ?_
  refine E.GL.run rfl rfl rfl (E.Runs.loads (cs := [.int .i64 M.fl, .int .i64 M.fh, .int .i64 M.al, .int .i64 M.ah, .int .i64 M.nl, .int .i64 M.nh, .int .i64 M.ra, .slice A M.gs.length c, .int .i64 M.wr]) rfl rfl hu26 rfl info26s (blk_cells b1)) ?_
  refine E.GL.st rfl rfl rfl (E.ST.call rfl ent49 (E.evc rfl (E.evc rfl E.evn)) ((ask_calls M A c 0 _ (Kd.C_below hr L) hn).mono ?_))
  rintro e w12 ⟨v12, rfl, R12, l12⟩
  refine ⟨_, rfl, ?_⟩
  replace b1 := blk_below b1 l12
  replace L := below_step L l12
  refine E.GL.run rfl rfl rfl (E.Runs.move rfl rfl) ?_
  refine E.GL.run rfl rfl rfl (E.Runs.extract rfl rfl rfl) ?_
  refine E.GL.run rfl rfl rfl (E.Runs.extract rfl rfl rfl) ?_
  refine E.GL.run rfl rfl rfl (E.Runs.assign rfl rfl) ?_
  refine E.GL.run rfl rfl rfl (E.Runs.assign rfl rfl) ?_
  refine E.GL.done ?_
  refine E.QG.code ?_
  refine E.CG.seq ?_
  refine E.CG.seq ?_
  refine E.CG.list ?_
  refine E.GL.run rfl rfl rfl (E.Runs.move rfl rfl) ?_
  refine E.GL.cmpn rfl rfl rfl (fun _ h => (E.Runs.neq rfl rfl rfl h)) (fun h16 => ?_) (fun h16 => ?_)
  · refine E.GL.done ?_
    refine E.QG.code ?_
    refine E.CG.cond_t rfl ?_
    refine E.CG.seq ?_
    refine E.CG.list ?_
    refine E.GL.run rfl rfl rfl (E.Runs.move rfl rfl) ?_
    refine E.GL.run rfl rfl rfl (E.Runs.assign rfl rfl) ?_
    refine E.GL.run rfl rfl rfl (E.Runs.assign rfl rfl) ?_
    refine E.GL.done ?_
    refine E.QG.code ?_
    refine E.CG.ret ?_
    refine E.QG.pass_ret ?_
    exact E.QG.result2 rfl rfl rfl ⟨_, rfl, by rw [blameV_no h16]; exact Kd.R_nil _ _ _ _ _, L⟩
  · obtain ⟨hV, hh, hpos⟩ := askE_ok (M := M) (h := 0) (by omega)
    rw [askT_0 (by omega)] at R12
    obtain ⟨A12, c12, hv12⟩ := Kd.R_slice R12
    subst hv12
    obtain ⟨_, _, C12⟩ := Kd.R_reads' R12
    have hf := truths_few hV.1
    have hle := L.size
    refine E.GL.done ?_
    refine E.QG.code ?_
    refine E.CG.cond_f rfl ?_
    refine E.CG.skip ?_
    refine E.QG.code ?_
    refine E.CG.seq ?_
    refine E.CG.list ?_
    refine E.GL.run rfl rfl rfl (E.Runs.assign rfl rfl) ?_
    refine E.GL.done ?_
    refine E.QG.code ?_
    refine E.CG.seq ?_
    refine E.CG.seq ?_
    refine E.CG.list ?_
    refine E.GL.run rfl rfl rfl (E.Runs.fieldAddr rfl rfl hu26 rfl (by assumption) rfl) ?_
    refine E.GL.run rfl rfl rfl (E.Runs.load1 rfl rfl hu24 rfl (by first | assumption | exact E.blkc (by assumption) rfl | exact pw_cell_below L (by assumption))) ?_
    refine E.GL.run rfl rfl rfl (E.Runs.len rfl rfl hu24) ?_
    refine E.GL.run rfl rfl rfl (E.Runs.move rfl rfl) ?_
    refine E.GL.done ?_
    refine E.QG.code ?_
    refine E.CG.block ?_
    have s6_b1 := b1
    have s6_L := L
    refine E.CG.loop2 (fun (i : Nat) (v6 : Value) => [(1, .pointer (some ⟨g1, 0, none⟩)), (4, .slice A12 (truths M).length c12), (6, v6), (19, .slice A M.gs.length c), (20, .int .i64 M.gs.length), (21, .int .i64 i)]) (fun i v6 w' => i ≤ M.gs.length ∧ Below w12.heap.size w12 w' ∧ Kd.R kI 3 w' w12.heap.size (fun _ => True) v6 (blameF (truths M) (M.gs.take i) 0)) (fun i v6 => M.gs.length - i) 0 (.slice none 0 0) (E.subc rfl (E.subc rfl (E.subc rfl (E.subc rfl (E.subc rfl (E.subc rfl E.subn)))))) ⟨Nat.zero_le _, Below.refl _ _, Kd.R_nil _ _ _ _ _⟩ ?_
    rintro i v6 w6 ⟨hi, lr, R6⟩
    replace b1 := blk_below b1 lr
    replace L := below_step L lr
    refine E.CG.seq ?_
    refine E.CG.list ?_
    refine E.GL.cmp rfl rfl rfl (fun _ h => (E.Runs.lss rfl rfl rfl h)) (fun h22 => ?_) (fun h22 => ?_)
    · obtain ⟨g, hg⟩ : ∃ g, M.gs[i]? = some g := ⟨_, List.getElem?_eq_getElem (by omega)⟩
      obtain ⟨ad, eA, G⟩ := gauge_at hr hg
      obtain ⟨hg0, hg1⟩ := (hV.2 g (List.mem_of_getElem? hg)).1
      refine E.GL.done ?_
      refine E.QG.code ?_
      refine E.CG.seq ?_
      refine E.CG.cond_t rfl ?_
      refine E.CG.skip ?_
      refine E.QG.code ?_
      refine E.CG.seq ?_
      refine E.CG.block ?_
      refine E.CG.seq ?_
      refine E.CG.list ?_
      refine E.GL.run rfl rfl rfl (E.Runs.move rfl rfl) ?_
      refine E.GL.run rfl rfl rfl (E.Runs.indexAddrA rfl rfl rfl hu24 (by assumption) (by assumption) (by assumption) (by first | rfl | assumption) rfl) ?_
      refine E.GL.run rfl rfl rfl (E.Runs.loads (cs := [.int .i64 g.f0, .int .i64 g.f1, .int .i64 g.f2]) rfl rfl hu64 rfl info64s ((G.below L).cells)) ?_
      refine E.GL.st rfl rfl rfl (E.ST.alloc rfl info64z fun g8 w8 e8 b8 l8 => ?_)
      have h8_L : w.heap.size ≤ g8 := by rw [e8]; exact L.size
      have h8_lr : w12.heap.size ≤ g8 := by rw [e8]; exact lr.size
      have n8_b1 : g1 ≠ g8 := by have := blk_lt b1; omega
      have n8_R6 : some g8 ≠ (v6).ownBlock := fun h => by have := Kd.R_lt R6 _ h.symm; omega
      replace b1 := blk_below b1 l8
      replace R6 := Kd.R_below R6 l8
      replace L := below_step L l8
      replace lr := below_step lr l8
      refine E.GL.run rfl rfl rfl (E.Runs.assign rfl rfl) ?_
      refine E.GL.store_whole rfl rfl rfl rfl rfl b8 rfl info64s (three_one _ _ _) fun wS7_5 c8 lS7_5 => ?_
      replace b1 := blk_grown b1 lS7_5 (E.nes (by first | assumption | exact Ne.symm (by assumption)))
      replace R6 := Kd.R_grown1 R6 rfl lS7_5 (by first | assumption | exact Kd.R_ne R6 b8 (by decide))
      replace L := E.below_own L h8_L lS7_5
      replace lr := E.below_own lr h8_lr lS7_5
      replace b8 := c8
      clear c8
      refine E.GL.done ?_
      refine E.QG.code ?_
      refine E.CG.seq ?_
      refine E.CG.list ?_
      refine E.GL.run rfl rfl rfl (E.Runs.makeFunc rfl (E.evc rfl E.evn)) ?_
      refine E.GL.run rfl rfl rfl (E.Runs.assign rfl rfl) ?_
      refine E.GL.done ?_
      refine E.QG.code ?_
      refine E.CG.seq ?_
      refine E.CG.list ?_
      refine E.GL.run rfl rfl rfl (E.Runs.move rfl rfl) ?_
      refine E.GL.run rfl rfl rfl (E.Runs.move rfl rfl) ?_
      by_cases h29 : ¬ badG (truths M) g
      · refine E.GL.st rfl rfl rfl (E.ST.call rfl ent61 (E.evc rfl (E.evc rfl E.evn)) ((contains60 (truths M) g g8 A12 c12 _ true (iff_of_true rfl h29) b8 (Kd.C_below C12 lr) (fun x hx => truths_ok hV.1 hx) (by omega) hg0 hg1).mono ?_))
        rintro e w29 ⟨rfl, l29⟩
        refine ⟨_, rfl, ?_⟩
        replace b1 := blk_below b1 l29
        replace b8 := blk_below b8 l29
        replace R6 := Kd.R_below R6 l29
        replace L := below_step L l29
        replace lr := below_step lr l29
        refine E.GL.run rfl rfl rfl (E.Runs.not rfl rfl) ?_
        refine E.GL.done ?_
        refine E.QG.code ?_
        refine E.CG.cond_f rfl ?_
        refine E.CG.skip ?_
        refine E.QG.block_normal ?_
        refine E.QG.code ?_
        refine E.CG.list ?_
        refine E.GL.run rfl rfl rfl (E.Runs.add rfl rfl rfl (IntWalk.i64_in _ (by omega))) ?_
        refine E.GL.run rfl rfl rfl (E.Runs.move rfl rfl) ?_
        refine E.GL.done ?_
        exact E.QG.round2 (d := undef) (i + 1) _ (E.subc rfl (E.subc rfl (E.subc rfl (E.subc rfl (E.subc rfl (E.subc rfl E.subn)))))) ⟨by omega, lr, by first | (rw [blame_step hg, if_neg h29, List.append_nil]; exact R6) | (rw [blame_step hg, if_pos (Decidable.not_not.mp h29)]; exact r34)⟩ (by omega)
      · refine E.GL.st rfl rfl rfl (E.ST.call rfl ent61 (E.evc rfl (E.evc rfl E.evn)) ((contains60 (truths M) g g8 A12 c12 _ false (iff_of_false Bool.false_ne_true h29) b8 (Kd.C_below C12 lr) (fun x hx => truths_ok hV.1 hx) (by omega) hg0 hg1).mono ?_))
        rintro e w29 ⟨rfl, l29⟩
        refine ⟨_, rfl, ?_⟩
        replace b1 := blk_below b1 l29
        replace b8 := blk_below b8 l29
        replace R6 := Kd.R_below R6 l29
        replace L := below_step L l29
        replace lr := below_step lr l29
        refine E.GL.run rfl rfl rfl (E.Runs.not rfl rfl) ?_
        refine E.GL.done ?_
        refine E.QG.code ?_
        refine E.CG.cond_t rfl ?_
        refine E.CG.list ?_
        refine E.GL.run rfl rfl rfl (E.Runs.move rfl rfl) ?_
        refine E.GL.run rfl rfl rfl (E.Runs.move rfl rfl) ?_
        refine E.GL.st rfl rfl rfl (E.ST.lit rfl (E.epc rfl E.epn) (lit27 (i : Int)) ?_)
        refine E.GL.st rfl rfl rfl (E.ST.append kI w12.heap.size (w0 := w12) (s := .tmp 31) (x := .tmp 33) rfl hu27 info3 rfl (by decide) (by decide) (i : Int) rfl rfl rfl (fun _ _ => trivial) R6 lr lr.size (by have := blameF_len (truths M) (M.gs.take i) 0; rw [List.length_take] at this; omega) fun u34 w34 r34 k34 gr34 => ?_)
        replace lr := k34
        replace L := below_step s6_L lr
        replace b1 := blk_below s6_b1 lr
        clear b8
        refine E.GL.run rfl rfl rfl (E.Runs.assign rfl rfl) ?_
        refine E.GL.done ?_
        refine E.QG.block_normal ?_
        refine E.QG.code ?_
        refine E.CG.list ?_
        refine E.GL.run rfl rfl rfl (E.Runs.add rfl rfl rfl (IntWalk.i64_in _ (by omega))) ?_
        refine E.GL.run rfl rfl rfl (E.Runs.move rfl rfl) ?_
        refine E.GL.done ?_
        exact E.QG.round2 (d := undef) (i + 1) _ (E.subc rfl (E.subc rfl (E.subc rfl (E.subc rfl (E.subc rfl (E.subc rfl E.subn)))))) ⟨by omega, lr, by first | (rw [blame_step hg, if_neg h29, List.append_nil]; exact R6) | (rw [blame_step hg, if_pos (Decidable.not_not.mp h29)]; exact r34)⟩ (by omega)
    · refine E.GL.done ?_
      refine E.QG.code ?_
      refine E.CG.seq ?_
      refine E.CG.cond_f rfl ?_
      refine E.CG.exit ?_
      refine E.QG.pass_exit ?_
      refine E.QG.pass_exit ?_
      refine E.QG.block_here ?_
      refine E.QG.code ?_
      refine E.CG.seq ?_
      refine E.CG.list ?_
      refine E.GL.run rfl rfl rfl (E.Runs.move rfl rfl) ?_
      refine E.GL.run rfl rfl rfl (E.Runs.assign rfl rfl) ?_
      refine E.GL.run rfl rfl rfl (E.Runs.assign rfl rfl) ?_
      refine E.GL.done ?_
      refine E.QG.code ?_
      refine E.CG.ret ?_
      have hfin : blameF (truths M) (M.gs.take i) 0 = blameV M := by rw [List.take_of_length_le (by omega), blameV_yes (by omega)]
      exact E.QG.result2 rfl rfl rfl ⟨_, by rw [show askE M 0 = 0 by omega], by rw [← hfin]; exact Kd.R_lower R6 hle, L⟩

set_option maxRecDepth 100000 in
set_option maxHeartbeats 8000000 in

theorem has_calls (l : List Int) (n : Int) (A : Option Addr) (c : Nat) (w : World) (r : Bool) (hb : r = true ↔ n ∈ l) (hr : Kd.C kI w A l.length l) (hn : l.length ≤ 1000000) :
    Calls Try.prog 64 #[.slice A l.length c, .int .i64 n] w fun e w' => e = .returned (.bool r) ∧ Below w.heap.size w w' := by
  have hu3 := Try.underlying3
  have hu27 := Try.underlying27
  obtain ⟨z3, o3⟩ := info_some info3s (by decide)
  refine E.enter (N := 18) Try.func64 rfl Try.ntmps64 (args := [.slice A l.length c, .int .i64 n]) (by simp) ?_
  have L := Below.refl w.heap.size w
  refine E.CG.seq ?_
  refine E.CG.list ?_
  refine E.GL.run rfl rfl rfl (E.Runs.assign rfl rfl) ?_
  refine E.GL.done ?_
  refine E.QG.code ?_
  refine E.CG.seq ?_
  refine E.CG.seq ?_
  refine E.CG.list ?_
  refine E.GL.run rfl rfl rfl (E.Runs.assign rfl rfl) ?_
  refine E.GL.done ?_
  refine E.QG.code ?_
  refine E.CG.block ?_
  have s2_L := L
  refine E.CG.loop (fun (i : Nat) => [(0, .slice A l.length c), (1, .int .i64 n), (5, .int .i64 i)]) (fun i w' => i ≤ l.length ∧ Below w.heap.size w w' ∧ ∀ k, k < i → l[k]? ≠ some n) (fun i => l.length - i) 0 (E.subc rfl (E.subc rfl (E.subc rfl E.subn))) ⟨Nat.zero_le _, L, fun k hk => by omega⟩ ?_
  rintro i w2 ⟨hi, L, hok⟩
  refine E.CG.seq ?_
  refine E.CG.seq ?_
  refine E.CG.list ?_
  refine E.GL.run rfl rfl rfl (E.Runs.move rfl rfl) ?_
  refine E.GL.run rfl rfl rfl (E.Runs.move rfl rfl) ?_
  refine E.GL.run rfl rfl rfl (E.Runs.len rfl rfl hu27) ?_
  refine E.GL.cmp rfl rfl rfl (fun _ h => (E.Runs.lss rfl rfl rfl h)) (fun h9 => ?_) (fun h9 => ?_)
  · obtain ⟨x, hx⟩ : ∃ x, l[i]? = some x := ⟨_, List.getElem?_eq_getElem (by omega)⟩
    obtain ⟨ad, eA, X⟩ := int_at hr hx
    have hil : (i : Int) < l.length := by omega
    refine E.GL.done ?_
    refine E.QG.code ?_
    refine E.CG.cond_t rfl ?_
    refine E.CG.skip ?_
    refine E.QG.code ?_
    refine E.CG.seq ?_
    refine E.CG.block ?_
    refine E.CG.seq ?_
    refine E.CG.list ?_
    refine E.GL.run rfl rfl rfl (E.Runs.move rfl rfl) ?_
    refine E.GL.run rfl rfl rfl (E.Runs.move rfl rfl) ?_
    refine E.GL.run rfl rfl rfl (E.Runs.indexAddrA rfl rfl rfl hu27 (by assumption) (by assumption) (by assumption) (by first | rfl | assumption) rfl) ?_
    refine E.GL.run rfl rfl rfl (E.Runs.load rfl rfl hu3 (by first | assumption | exact E.blkc (by assumption) rfl | exact pw_cell_below L (by assumption))) ?_
    refine E.GL.run rfl rfl rfl (E.Runs.move rfl rfl) ?_
    refine E.GL.cmp rfl rfl rfl (fun _ h => (E.Runs.eql rfl rfl rfl h)) (fun h17 => ?_) (fun h17 => ?_)
    · refine E.GL.done ?_
      refine E.QG.code ?_
      refine E.CG.cond_t rfl ?_
      refine E.CG.seq ?_
      refine E.CG.list ?_
      refine E.GL.run rfl rfl rfl (E.Runs.assign rfl rfl) ?_
      refine E.GL.done ?_
      refine E.QG.code ?_
      refine E.CG.ret ?_
      refine E.QG.block_ret ?_
      refine E.QG.pass_ret ?_
      refine E.QG.pass_ret ?_
      refine E.QG.block_ret ?_
      refine E.QG.pass_ret ?_
      exact E.QG.result rfl rfl ⟨by rw [hb.mpr (List.mem_of_getElem? (h17 ▸ hx))], L⟩
    · refine E.GL.done ?_
      refine E.QG.code ?_
      refine E.CG.cond_f rfl ?_
      refine E.CG.skip ?_
      refine E.QG.block_normal ?_
      refine E.QG.code ?_
      refine E.CG.list ?_
      refine E.GL.run rfl rfl rfl (E.Runs.move rfl rfl) ?_
      refine E.GL.run rfl rfl rfl (E.Runs.add rfl rfl rfl (IntWalk.i64_in _ (by omega))) ?_
      refine E.GL.run rfl rfl rfl (E.Runs.assign rfl rfl) ?_
      refine E.GL.done ?_
      exact E.QG.round (i + 1) (E.subc rfl (E.subc rfl (E.subc rfl E.subn))) ⟨by omega, L, fun k hk => by by_cases e : k = i; exact (fun q => h17 (by rw [e, hx] at q; exact Option.some.inj q)); exact hok k (by omega)⟩ (by omega)
  · refine E.GL.done ?_
    refine E.QG.code ?_
    refine E.CG.cond_f rfl ?_
    refine E.CG.exit ?_
    refine E.QG.pass_exit ?_
    refine E.QG.pass_exit ?_
    refine E.QG.block_here ?_
    refine E.QG.code ?_
    refine E.CG.seq ?_
    refine E.CG.list ?_
    refine E.GL.run rfl rfl rfl (E.Runs.assign rfl rfl) ?_
    refine E.GL.done ?_
    refine E.QG.code ?_
    refine E.CG.ret ?_
    exact E.QG.result rfl rfl ⟨by rw [bool_no hb (fun k => by obtain ⟨j, hj⟩ := List.mem_iff_getElem?.mp k; exact hok j (by have := (List.getElem?_eq_some_iff.1 hj).1; omega) hj)], L⟩

set_option maxRecDepth 100000 in
set_option maxHeartbeats 8000000 in

theorem refblame_calls (M : Lm) (A : Option Addr) (c : Nat) (w : World) (hr : Kd.C k64 w A M.gs.length M.gs) (hn : M.gs.length ≤ 1000000) :
    Calls Try.prog 38 #[lv M A c] w fun e w' => ∃ v, e = .returned (.tuple #[v, .int .i64 (askE M 0)]) ∧ Kd.R kI 3 w' w.heap.size (fun _ => True) v (blameV M) ∧ Below w.heap.size w w' := by
  have hu3 := Try.underlying3
  have hu24 := Try.underlying24
  have hu26 := Try.underlying26
  have hu27 := Try.underlying27
  have hu46 := Try.underlying46
  have hu54 := Try.underlying54
  obtain ⟨z3, o3⟩ := info_some info3s (by decide)
  obtain ⟨z24, o24⟩ := info_some info24s (by decide)
  obtain ⟨z54, o54⟩ := info_some info54s (by decide)
  refine E.enter (N := 47) Try.func38 rfl Try.ntmps38 (args := [lv M A c]) (by simp) ?_
  have L := Below.refl w.heap.size w
  refine E.CG.seq ?_
  refine E.CG.list ?_
  refine E.GL.st rfl rfl rfl (E.ST.box rfl rfl fun g1 w1 e1 b1 l1 => ?_)
  have h1_L : w.heap.size ≤ g1 := by rw [e1]; exact L.size
  replace L := below_step L l1
  refine E.GL.run rfl rfl rfl (E.Runs.assign rfl rfl) ?_
  refine E.GL.run rfl rfl rfl (E.Runs.assign rfl rfl) ?_
  refine E.GL.done ?_
  refine E.QG.code ?_
  refine E.CG.seq ?_
  refine E.CG.seq ?_
  refine E.CG.list ?_
  refine E.GL.run rfl rfl rfl (E.Runs.loads (cs := [.int .i64 M.fl, .int .i64 M.fh, .int .i64 M.al, .int .i64 M.ah, .int .i64 M.nl, .int .i64 M.nh, .int .i64 M.ra, .slice A M.gs.length c, .int .i64 M.wr]) rfl rfl hu26 rfl info26s (blk_cells b1)) ?_
  refine E.GL.st rfl rfl rfl (E.ST.call rfl ent40 (E.evc rfl E.evn) ((check_r M A c _ (Kd.C_below hr L) hn).mono ?_))
  rintro e w10 ⟨rfl, l10⟩
  refine ⟨_, rfl, ?_⟩
  replace b1 := blk_below b1 l10
  replace L := below_step L l10
  refine E.GL.cmpn rfl rfl rfl (fun _ h => (E.Runs.neq rfl rfl rfl h)) (fun h11 => ?_) (fun h11 => ?_)
  · have hV := fun k => h11 ((checkE_ok M).mpr k)
    refine E.GL.done ?_
    refine E.QG.code ?_
    refine E.CG.cond_t rfl ?_
    refine E.CG.seq ?_
    refine E.CG.list ?_
    refine E.GL.run rfl rfl rfl (E.Runs.assign rfl rfl) ?_
    refine E.GL.run rfl rfl rfl (E.Runs.assign rfl rfl) ?_
    refine E.GL.done ?_
    refine E.QG.code ?_
    refine E.CG.ret ?_
    refine E.QG.pass_ret ?_
    exact E.QG.result2 rfl rfl rfl ⟨_, by rw [askE_90 hV], by rw [blameV_no (by rw [askE_90 hV]; decide)]; exact Kd.R_nil _ _ _ _ _, L⟩
  · have hV := (checkE_ok M).mp (by omega)
    have hi0 : inR 0 0 40 := by decide
    have hf := truths_few hV.1
    refine E.GL.done ?_
    refine E.QG.code ?_
    refine E.CG.cond_f rfl ?_
    refine E.CG.skip ?_
    refine E.QG.code ?_
    refine E.CG.seq ?_
    refine E.CG.list ?_
    refine E.GL.run rfl rfl rfl (E.Runs.loads (cs := [.int .i64 M.fl, .int .i64 M.fh, .int .i64 M.al, .int .i64 M.ah, .int .i64 M.nl, .int .i64 M.nh, .int .i64 M.ra, .slice A M.gs.length c, .int .i64 M.wr]) rfl rfl hu26 rfl info26s (blk_cells b1)) ?_
    refine E.GL.st rfl rfl rfl (E.ST.call rfl ent62 (E.evc rfl E.evn) ((truths_calls M A c _ hV (Kd.C_below hr L)).mono ?_))
    rintro e w13 ⟨v13, rfl, R13, l13⟩
    refine ⟨_, rfl, ?_⟩
    replace b1 := blk_below b1 l13
    replace L := below_step L l13
    obtain ⟨A13, c13, hv13⟩ := Kd.R_slice R13
    subst hv13
    obtain ⟨_, _, C13⟩ := Kd.R_reads' R13
    refine E.GL.run rfl rfl rfl (E.Runs.assign rfl rfl) ?_
    refine E.GL.done ?_
    refine E.QG.code ?_
    refine E.CG.seq ?_
    refine E.CG.seq ?_
    refine E.CG.list ?_
    refine E.GL.run rfl rfl rfl (E.Runs.move rfl rfl) ?_
    refine E.GL.run rfl rfl rfl (E.Runs.len rfl rfl hu46) ?_
    refine E.GL.cmp rfl rfl rfl (fun _ h => (E.Runs.eql rfl rfl rfl h)) (fun h16 => ?_) (fun h16 => ?_)
    · have hE := askE_3 hV hi0 (by omega)
      refine E.GL.done ?_
      refine E.QG.code ?_
      refine E.CG.cond_t rfl ?_
      refine E.CG.seq ?_
      refine E.CG.list ?_
      refine E.GL.run rfl rfl rfl (E.Runs.assign rfl rfl) ?_
      refine E.GL.run rfl rfl rfl (E.Runs.assign rfl rfl) ?_
      refine E.GL.done ?_
      refine E.QG.code ?_
      refine E.CG.ret ?_
      refine E.QG.pass_ret ?_
      exact E.QG.result2 rfl rfl rfl ⟨_, by rw [hE], by rw [blameV_no (by rw [hE]; decide)]; exact Kd.R_nil _ _ _ _ _, L⟩
    · have hE := askE_0 hV hi0 (by omega)
      have hle := L.size
      refine E.GL.done ?_
      refine E.QG.code ?_
      refine E.CG.cond_f rfl ?_
      refine E.CG.skip ?_
      refine E.QG.code ?_
      refine E.CG.seq ?_
      refine E.CG.list ?_
      refine E.GL.run rfl rfl rfl (E.Runs.assign rfl rfl) ?_
      refine E.GL.done ?_
      refine E.QG.code ?_
      refine E.CG.seq ?_
      refine E.CG.seq ?_
      refine E.CG.list ?_
      refine E.GL.run rfl rfl rfl (E.Runs.assign rfl rfl) ?_
      refine E.GL.done ?_
      refine E.QG.code ?_
      refine E.CG.block ?_
      have s8_b1 := b1
      have s8_L := L
      refine E.CG.loop2 (fun (i : Nat) (v5 : Value) => [(1, .pointer (some ⟨g1, 0, none⟩)), (4, .slice A13 (truths M).length c13), (5, v5), (6, .int .i64 i)]) (fun i v5 w' => i ≤ M.gs.length ∧ Below w13.heap.size w13 w' ∧ Kd.R kI 3 w' w13.heap.size (fun _ => True) v5 (blameF (truths M) (M.gs.take i) 0)) (fun i v5 => M.gs.length - i) 0 (.slice none 0 0) (E.subc rfl (E.subc rfl (E.subc rfl (E.subc rfl E.subn)))) ⟨Nat.zero_le _, Below.refl _ _, Kd.R_nil _ _ _ _ _⟩ ?_
      rintro i v5 w8 ⟨hi, lr, R5⟩
      replace b1 := blk_below b1 lr
      replace L := below_step L lr
      refine E.CG.seq ?_
      refine E.CG.seq ?_
      refine E.CG.list ?_
      refine E.GL.run rfl rfl rfl (E.Runs.move rfl rfl) ?_
      refine E.GL.run rfl rfl rfl (E.Runs.fieldAddr rfl rfl hu26 rfl (by assumption) rfl) ?_
      refine E.GL.run rfl rfl rfl (E.Runs.load1 rfl rfl hu24 rfl (by first | assumption | exact E.blkc (by assumption) rfl | exact pw_cell_below L (by assumption) | exact pw_cell_below lr (by assumption))) ?_
      refine E.GL.run rfl rfl rfl (E.Runs.len rfl rfl hu24) ?_
      refine E.GL.cmp rfl rfl rfl (fun _ h => (E.Runs.lss rfl rfl rfl h)) (fun h21 => ?_) (fun h21 => ?_)
      · obtain ⟨g, hg⟩ : ∃ g, M.gs[i]? = some g := ⟨_, List.getElem?_eq_getElem (by omega)⟩
        refine E.GL.done ?_
        refine E.QG.code ?_
        refine E.CG.cond_t rfl ?_
        refine E.CG.skip ?_
        refine E.QG.code ?_
        refine E.CG.seq ?_
        refine E.CG.block ?_
        refine E.CG.seq ?_
        refine E.CG.list ?_
        refine E.GL.run rfl rfl rfl (E.Runs.assign rfl rfl) ?_
        refine E.GL.done ?_
        refine E.QG.code ?_
        refine E.CG.seq ?_
        refine E.CG.seq ?_
        refine E.CG.list ?_
        refine E.GL.run rfl rfl rfl (E.Runs.assign rfl rfl) ?_
        refine E.GL.done ?_
        refine E.QG.code ?_
        refine E.CG.block ?_
        have s12_b1 := b1
        have s12_L := L
        have s12_lr := lr
        refine E.CG.loop2 (fun (j : Nat) (b7 : Bool) => [(1, .pointer (some ⟨g1, 0, none⟩)), (4, .slice A13 (truths M).length c13), (5, v5), (6, .int .i64 i), (7, .bool b7), (8, .int .i64 j)]) (fun j b7 w' => j ≤ (truths M).length ∧ Below w8.heap.size w8 w' ∧ (b7 = true ↔ ∀ k, k < j → ∀ x, (truths M)[k]? = some x → ¬ gOk x g)) (fun j b7 => (truths M).length - j) 0 true (E.subc rfl (E.subc rfl (E.subc rfl (E.subc rfl (E.subc rfl (E.subc rfl E.subn)))))) ⟨Nat.zero_le _, Below.refl _ _, iff_of_true rfl (fun k hk => by omega)⟩ ?_
        rintro j b7 w12 ⟨hj, lk, hb7⟩
        replace b1 := blk_below b1 lk
        replace R5 := Kd.R_below R5 lk
        replace L := below_step L lk
        replace lr := below_step lr lk
        refine E.CG.seq ?_
        refine E.CG.seq ?_
        refine E.CG.list ?_
        rcases b7 with _ | _
        · refine E.GL.run rfl rfl rfl (E.Runs.move rfl rfl) ?_
          refine E.GL.run rfl rfl rfl (E.Runs.move rfl rfl) ?_
          refine E.GL.run rfl rfl rfl (E.Runs.len rfl rfl hu46) ?_
          refine E.GL.cmp rfl rfl rfl (fun _ h => (E.Runs.lss rfl rfl rfl h)) (fun h27 => ?_) (fun h27 => ?_)
          · obtain ⟨x, hx⟩ : ∃ x, (truths M)[j]? = some x := ⟨_, List.getElem?_eq_getElem (by omega)⟩
            obtain ⟨ad, eA, X⟩ := line_at C13 hx
            have hjt : (j : Int) < (truths M).length := by omega
            have hxo := truths_ok hV.1 (List.mem_of_getElem? hx)
            refine E.GL.done ?_
            refine E.QG.code ?_
            refine E.CG.cond_t rfl ?_
            refine E.CG.skip ?_
            refine E.QG.code ?_
            refine E.CG.seq ?_
            refine E.CG.block ?_
            refine E.CG.heldH (none) (by kernel_rfl) fun v14 lD hh => ?_
            replace b1 := blk_below b1 lD
            replace R5 := Kd.R_below R5 lD
            replace L := below_step L lD
            replace lr := below_step lr lD
            replace lk := below_step lk lD
            clear lD
            have s_b1 := b1
            have s_L := L
            have s_lr := lr
            have s_lk := lk
            refine E.GH.take (i := 0) rfl (by kernel_rfl) (by kernel_rfl) (by kernel_rfl) (by intro c a d v w h; cases d <;> exact h) rfl rfl rfl (fun w' hS => (E.Runs.move rfl rfl)) ?_
            refine E.GH.take (i := 1) rfl (by kernel_rfl) (by kernel_rfl) (by kernel_rfl) (by intro c a d v w h; cases d <;> exact h) rfl rfl rfl (fun w' hS => (E.Runs.move rfl rfl)) ?_
            refine E.GH.pass (i := 2) rfl (by kernel_rfl) (by kernel_rfl) (by kernel_rfl) (by intro c a d v w h; cases d <;> exact h) rfl rfl rfl ?_
            refine E.GH.pass (i := 3) rfl (by kernel_rfl) (by kernel_rfl) (by kernel_rfl) (by intro c a d v w h; cases d <;> exact h) rfl rfl rfl ?_
            refine E.GH.pass (i := 4) rfl (by kernel_rfl) (by kernel_rfl) (by kernel_rfl) (by intro c a d v w h; cases d <;> exact h) rfl rfl rfl ?_
            refine E.GH.pass (i := 5) rfl (by kernel_rfl) (by kernel_rfl) (by kernel_rfl) (by intro c a d v w h; cases d <;> exact h) rfl rfl rfl ?_
            refine E.GH.pass (i := 6) rfl (by kernel_rfl) (by kernel_rfl) (by kernel_rfl) (by intro c a d v w h; cases d <;> exact h) rfl rfl rfl ?_
            refine E.GH.pass (i := 7) rfl (by kernel_rfl) (by kernel_rfl) (by kernel_rfl) (by intro c a d v w h; cases d <;> exact h) rfl rfl rfl ?_
            refine E.GH.pass (i := 8) rfl (by kernel_rfl) (by kernel_rfl) (by kernel_rfl) (by intro c a d v w h; cases d <;> exact h) rfl rfl rfl ?_
            refine E.GH.pass (i := 9) rfl (by kernel_rfl) (by kernel_rfl) (by kernel_rfl) (by intro c a d v w h; cases d <;> exact h) rfl rfl rfl ?_
            refine E.GH.take (i := 10) rfl (by kernel_rfl) (by kernel_rfl) (by kernel_rfl) (by intro c a d v w h; cases d <;> exact h) rfl rfl rfl (fun w' hS => (E.Runs.pick_f rfl rfl rfl)) ?_
            refine E.GH.take (i := 11) rfl (by kernel_rfl) (by kernel_rfl) (by kernel_rfl) (by intro c a d v w h; cases d <;> exact h) rfl rfl rfl (fun w' hS => (E.Runs.assign rfl rfl)) ?_
            refine E.GH.done (by kernel_rfl) ?_
            refine E.QG.block_normal ?_
            refine E.QG.code ?_
            refine E.CG.list ?_
            refine E.GL.run rfl rfl rfl (E.Runs.move rfl rfl) ?_
            refine E.GL.run rfl rfl rfl (E.Runs.add rfl rfl rfl (IntWalk.i64_in _ (by omega))) ?_
            refine E.GL.run rfl rfl rfl (E.Runs.assign rfl rfl) ?_
            refine E.GL.done ?_
            exact E.QG.round2 (d := true) (j + 1) false (E.subc rfl (E.subc rfl (E.subc rfl (E.subc rfl (E.subc rfl (E.subc rfl E.subn)))))) ⟨by omega, lk, by first | exact iff_of_true rfl (bad_more (hb7.mp rfl) hx h39) | exact iff_of_false Bool.false_ne_true (fun k => h39 (k j (by omega) x hx)) | exact iff_of_false Bool.false_ne_true (fun k => Bool.false_ne_true (hb7.mpr (fun q hq => k q (by omega))))⟩ (by omega)
          · have hbg : badG (truths M) g ↔ _ := ⟨fun k => hb7.mpr (fun q _ y hy => k y (List.mem_of_getElem? hy)), fun k => bad_all (hb7.mp k) (by omega)⟩
            refine E.GL.done ?_
            refine E.QG.code ?_
            refine E.CG.cond_f rfl ?_
            refine E.CG.exit ?_
            refine E.QG.pass_exit ?_
            refine E.QG.pass_exit ?_
            refine E.QG.block_here ?_
            refine E.QG.code ?_
            refine E.CG.seq ?_
            refine E.CG.list ?_
            refine E.GL.run rfl rfl rfl (E.Runs.move rfl rfl) ?_
            refine E.GL.done ?_
            refine E.QG.code ?_
            refine E.CG.cond_f rfl ?_
            refine E.CG.skip ?_
            refine E.QG.block_normal ?_
            refine E.QG.code ?_
            refine E.CG.list ?_
            refine E.GL.run rfl rfl rfl (E.Runs.move rfl rfl) ?_
            refine E.GL.run rfl rfl rfl (E.Runs.add rfl rfl rfl (IntWalk.i64_in _ (by omega))) ?_
            refine E.GL.run rfl rfl rfl (E.Runs.assign rfl rfl) ?_
            refine E.GL.done ?_
            exact E.QG.round2 (d := undef) (i + 1) _ (E.subc rfl (E.subc rfl (E.subc rfl (E.subc rfl E.subn)))) ⟨by omega, lr, by first | (rw [blame_step hg, if_neg (fun k => Bool.false_ne_true (hbg.mp k)), List.append_nil]; exact R5) | (rw [blame_step hg, if_pos (hbg.mpr rfl)]; exact r45)⟩ (by omega)
        · refine E.GL.run rfl rfl rfl (E.Runs.move rfl rfl) ?_
          refine E.GL.run rfl rfl rfl (E.Runs.move rfl rfl) ?_
          refine E.GL.run rfl rfl rfl (E.Runs.len rfl rfl hu46) ?_
          refine E.GL.cmp rfl rfl rfl (fun _ h => (E.Runs.lss rfl rfl rfl h)) (fun h27 => ?_) (fun h27 => ?_)
          · obtain ⟨x, hx⟩ : ∃ x, (truths M)[j]? = some x := ⟨_, List.getElem?_eq_getElem (by omega)⟩
            obtain ⟨ad, eA, X⟩ := line_at C13 hx
            have hjt : (j : Int) < (truths M).length := by omega
            have hxo := truths_ok hV.1 (List.mem_of_getElem? hx)
            refine E.GL.done ?_
            refine E.QG.code ?_
            refine E.CG.cond_t rfl ?_
            refine E.CG.skip ?_
            refine E.QG.code ?_
            refine E.CG.seq ?_
            refine E.CG.block ?_
            refine E.CG.heldH (none) (by kernel_rfl) fun v14 lD hh => ?_
            replace b1 := blk_below b1 lD
            replace R5 := Kd.R_below R5 lD
            replace L := below_step L lD
            replace lr := below_step lr lD
            replace lk := below_step lk lD
            clear lD
            have s_b1 := b1
            have s_L := L
            have s_lr := lr
            have s_lk := lk
            refine E.GH.take (i := 0) rfl (by kernel_rfl) (by kernel_rfl) (by kernel_rfl) (by intro c a d v w h; cases d <;> exact h) rfl rfl rfl (fun w' hS => (E.Runs.move rfl rfl)) ?_
            refine E.GH.take (i := 1) rfl (by kernel_rfl) (by kernel_rfl) (by kernel_rfl) (by intro c a d v w h; cases d <;> exact h) rfl rfl rfl (fun w' hS => (E.Runs.move rfl rfl)) ?_
            refine E.GH.take (i := 2) rfl (by kernel_rfl) (by kernel_rfl) (by kernel_rfl) (by intro c a d v w h; cases d <;> exact h) rfl rfl rfl (fun w' hS => (E.Runs.loads (cs := [.int .i64 M.fl, .int .i64 M.fh, .int .i64 M.al, .int .i64 M.ah, .int .i64 M.nl, .int .i64 M.nh, .int .i64 M.ra, .slice A M.gs.length c, .int .i64 M.wr]) rfl rfl hu26 rfl info26s (blk_cells (blk_grown s_b1 hS E.nen)))) ?_
            refine E.GH.take (i := 3) rfl (by kernel_rfl) (by kernel_rfl) (by kernel_rfl) (by intro c a d v w h; cases d <;> exact h) rfl rfl rfl (fun w' hS => (E.Runs.move rfl rfl)) ?_
            refine E.GH.take (i := 4) rfl (by kernel_rfl) (by kernel_rfl) (by kernel_rfl) (by intro c a d v w h; cases d <;> exact h) rfl rfl rfl (fun w' hS => (E.Runs.move rfl rfl)) ?_
            refine E.GH.take (i := 5) rfl (by kernel_rfl) (by kernel_rfl) (by kernel_rfl) (by intro c a d v w h; cases d <;> exact h) rfl rfl rfl (fun w' hS => (E.Runs.indexAddrA rfl rfl rfl hu46 (by assumption) (by assumption) (by assumption) (by first | rfl | assumption) rfl)) ?_
            refine E.GH.take (i := 6) rfl (by kernel_rfl) (by kernel_rfl) (by kernel_rfl) (by intro c a d v w h; cases d <;> exact h) rfl rfl rfl (fun w' hS => (E.Runs.loads (cs := [.int .i64 x.f0, .int .i64 x.f1]) rfl rfl hu54 rfl info54s ((X.below (below_step s_lr (E.belowG hS))).cells))) ?_
            refine E.GH.take (i := 8) rfl (by kernel_rfl) (by kernel_rfl) (by kernel_rfl) (by intro c a d v w h; cases d <;> exact h) rfl rfl rfl (fun w' hS => (E.Runs.move rfl rfl)) ?_
            refine E.GH.one (i := 7) (by kernel_rfl) rfl ?_
            refine E.GO.st rfl rfl rfl (E.ST.call rfl ent41 (E.evc rfl (E.evc rfl E.evn)) ((wrong_calls M x A c _ hV hxo (Kd.C_below hr L)).mono ?_))
            rintro e w37 ⟨v37, rfl, R37, l37⟩
            refine ⟨_, rfl, hh.trans (E.gbB l37), ?_⟩
            replace hh := hh.trans (E.gbB l37)
            replace b1 := blk_below b1 l37
            replace R5 := Kd.R_below R5 l37
            replace L := below_step L l37
            replace lr := below_step lr l37
            replace lk := below_step lk l37
            obtain ⟨A37, c37, hv37⟩ := Kd.R_slice R37
            subst hv37
            obtain ⟨_, _, C37⟩ := Kd.R_reads' R37
            by_cases h39 : ¬ gOk x g
            · refine E.GH.one (i := 9) (by kernel_rfl) rfl ?_
              refine E.GO.st rfl rfl rfl (E.ST.call rfl ent64 (E.evc rfl (E.evc rfl E.evn)) ((has_calls (wrongs M x) (i : Int) A37 c37 _ true (by rw [mem_wrongs hg]; exact (iff_of_true rfl h39)) C37 (by have := wrongsF_len x M.gs 0; show (wrongsF x M.gs 0).length ≤ _; omega)).mono ?_))
              rintro e w39 ⟨rfl, l39⟩
              refine ⟨_, rfl, hh.trans (E.gbB l39), ?_⟩
              replace hh := hh.trans (E.gbB l39)
              replace b1 := blk_below b1 l39
              replace R5 := Kd.R_below R5 l39
              replace L := below_step L l39
              replace lr := below_step lr l39
              replace lk := below_step lk l39
              refine E.GH.take (i := 10) rfl (by kernel_rfl) (by kernel_rfl) (by kernel_rfl) (by intro c a d v w h; cases d <;> exact h) rfl rfl rfl (fun w' hS => (E.Runs.pick_t rfl rfl rfl)) ?_
              refine E.GH.take (i := 11) rfl (by kernel_rfl) (by kernel_rfl) (by kernel_rfl) (by intro c a d v w h; cases d <;> exact h) rfl rfl rfl (fun w' hS => (E.Runs.assign rfl rfl)) ?_
              refine E.GH.done (by kernel_rfl) ?_
              refine E.QG.block_normal ?_
              refine E.QG.code ?_
              refine E.CG.list ?_
              refine E.GL.run rfl rfl rfl (E.Runs.move rfl rfl) ?_
              refine E.GL.run rfl rfl rfl (E.Runs.add rfl rfl rfl (IntWalk.i64_in _ (by omega))) ?_
              refine E.GL.run rfl rfl rfl (E.Runs.assign rfl rfl) ?_
              refine E.GL.done ?_
              exact E.QG.round2 (d := true) (j + 1) true (E.subc rfl (E.subc rfl (E.subc rfl (E.subc rfl (E.subc rfl (E.subc rfl E.subn)))))) ⟨by omega, lk, by first | exact iff_of_true rfl (bad_more (hb7.mp rfl) hx h39) | exact iff_of_false Bool.false_ne_true (fun k => h39 (k j (by omega) x hx)) | exact iff_of_false Bool.false_ne_true (fun k => Bool.false_ne_true (hb7.mpr (fun q hq => k q (by omega))))⟩ (by omega)
            · refine E.GH.one (i := 9) (by kernel_rfl) rfl ?_
              refine E.GO.st rfl rfl rfl (E.ST.call rfl ent64 (E.evc rfl (E.evc rfl E.evn)) ((has_calls (wrongs M x) (i : Int) A37 c37 _ false (by rw [mem_wrongs hg]; exact (iff_of_false Bool.false_ne_true h39)) C37 (by have := wrongsF_len x M.gs 0; show (wrongsF x M.gs 0).length ≤ _; omega)).mono ?_))
              rintro e w39 ⟨rfl, l39⟩
              refine ⟨_, rfl, hh.trans (E.gbB l39), ?_⟩
              replace hh := hh.trans (E.gbB l39)
              replace b1 := blk_below b1 l39
              replace R5 := Kd.R_below R5 l39
              replace L := below_step L l39
              replace lr := below_step lr l39
              replace lk := below_step lk l39
              refine E.GH.take (i := 10) rfl (by kernel_rfl) (by kernel_rfl) (by kernel_rfl) (by intro c a d v w h; cases d <;> exact h) rfl rfl rfl (fun w' hS => (E.Runs.pick_t rfl rfl rfl)) ?_
              refine E.GH.take (i := 11) rfl (by kernel_rfl) (by kernel_rfl) (by kernel_rfl) (by intro c a d v w h; cases d <;> exact h) rfl rfl rfl (fun w' hS => (E.Runs.assign rfl rfl)) ?_
              refine E.GH.done (by kernel_rfl) ?_
              refine E.QG.block_normal ?_
              refine E.QG.code ?_
              refine E.CG.list ?_
              refine E.GL.run rfl rfl rfl (E.Runs.move rfl rfl) ?_
              refine E.GL.run rfl rfl rfl (E.Runs.add rfl rfl rfl (IntWalk.i64_in _ (by omega))) ?_
              refine E.GL.run rfl rfl rfl (E.Runs.assign rfl rfl) ?_
              refine E.GL.done ?_
              exact E.QG.round2 (d := true) (j + 1) false (E.subc rfl (E.subc rfl (E.subc rfl (E.subc rfl (E.subc rfl (E.subc rfl E.subn)))))) ⟨by omega, lk, by first | exact iff_of_true rfl (bad_more (hb7.mp rfl) hx h39) | exact iff_of_false Bool.false_ne_true (fun k => h39 (k j (by omega) x hx)) | exact iff_of_false Bool.false_ne_true (fun k => Bool.false_ne_true (hb7.mpr (fun q hq => k q (by omega))))⟩ (by omega)
          · have hbg : badG (truths M) g ↔ _ := ⟨fun k => hb7.mpr (fun q _ y hy => k y (List.mem_of_getElem? hy)), fun k => bad_all (hb7.mp k) (by omega)⟩
            refine E.GL.done ?_
            refine E.QG.code ?_
            refine E.CG.cond_f rfl ?_
            refine E.CG.exit ?_
            refine E.QG.pass_exit ?_
            refine E.QG.pass_exit ?_
            refine E.QG.block_here ?_
            refine E.QG.code ?_
            refine E.CG.seq ?_
            refine E.CG.list ?_
            refine E.GL.run rfl rfl rfl (E.Runs.move rfl rfl) ?_
            refine E.GL.done ?_
            refine E.QG.code ?_
            refine E.CG.cond_t rfl ?_
            refine E.CG.list ?_
            refine E.GL.run rfl rfl rfl (E.Runs.move rfl rfl) ?_
            refine E.GL.run rfl rfl rfl (E.Runs.move rfl rfl) ?_
            refine E.GL.st rfl rfl rfl (E.ST.lit rfl (E.epc rfl E.epn) (lit27 (i : Int)) ?_)
            refine E.GL.st rfl rfl rfl (E.ST.append kI w13.heap.size (w0 := w13) (s := .tmp 42) (x := .tmp 44) rfl hu27 info3 rfl (by decide) (by decide) (i : Int) rfl rfl rfl (fun _ _ => trivial) R5 lr lr.size (by have := blameF_len (truths M) (M.gs.take i) 0; rw [List.length_take] at this; omega) fun u45 w45 r45 k45 gr45 => ?_)
            replace lr := k45
            replace L := below_step s8_L lr
            replace b1 := blk_below s8_b1 lr
            refine E.GL.run rfl rfl rfl (E.Runs.assign rfl rfl) ?_
            refine E.GL.done ?_
            refine E.QG.block_normal ?_
            refine E.QG.code ?_
            refine E.CG.list ?_
            refine E.GL.run rfl rfl rfl (E.Runs.move rfl rfl) ?_
            refine E.GL.run rfl rfl rfl (E.Runs.add rfl rfl rfl (IntWalk.i64_in _ (by omega))) ?_
            refine E.GL.run rfl rfl rfl (E.Runs.assign rfl rfl) ?_
            refine E.GL.done ?_
            exact E.QG.round2 (d := undef) (i + 1) _ (E.subc rfl (E.subc rfl (E.subc rfl (E.subc rfl E.subn)))) ⟨by omega, lr, by first | (rw [blame_step hg, if_neg (fun k => Bool.false_ne_true (hbg.mp k)), List.append_nil]; exact R5) | (rw [blame_step hg, if_pos (hbg.mpr rfl)]; exact r45)⟩ (by omega)
      · refine E.GL.done ?_
        refine E.QG.code ?_
        refine E.CG.cond_f rfl ?_
        refine E.CG.exit ?_
        refine E.QG.pass_exit ?_
        refine E.QG.pass_exit ?_
        refine E.QG.block_here ?_
        refine E.QG.code ?_
        refine E.CG.seq ?_
        refine E.CG.list ?_
        refine E.GL.run rfl rfl rfl (E.Runs.move rfl rfl) ?_
        refine E.GL.run rfl rfl rfl (E.Runs.assign rfl rfl) ?_
        refine E.GL.run rfl rfl rfl (E.Runs.assign rfl rfl) ?_
        refine E.GL.done ?_
        refine E.QG.code ?_
        refine E.CG.ret ?_
        have hfin : blameF (truths M) (M.gs.take i) 0 = blameV M := by rw [List.take_of_length_le (by omega), blameV_yes hE]
        exact E.QG.result2 rfl rfl rfl ⟨_, by rw [hE], by rw [← hfin]; exact Kd.R_lower R5 hle, L⟩

end Go.Proofs.Ytbajpjnloikpdaa.T
