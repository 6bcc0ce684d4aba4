/- LampLess: the walk of the law. -/
import Derived.Test.YtbajpjnloikpdaaP16
namespace Go.Proofs.Ytbajpjnloikpdaa.T
open Go.RowKit Go.Proofs.YtbajpjnloikpdaaW.PrintWords Go.Proofs.YtbajpjnloikpdaaW.PrintMore
open Go.Proofs.Ytbajpjnloikpdaa.P
set_option linter.unusedVariables false
set_option linter.unusedSimpArgs false

theorem nodup_len {α : Type} [DecidableEq α] : ∀ {l k : List α}, l.Nodup → (∀ x ∈ l, x ∈ k) → l.length ≤ k.length
  | [], k, _, _ => Nat.zero_le _
  | a :: l, k, h, hs => by
    rw [List.nodup_cons] at h
    have ha := hs a List.mem_cons_self
    have h1 := nodup_len (l := l) (k := k.erase a) h.2 (fun x hx => (List.mem_erase_of_ne (fun e => by subst e; exact h.1 hx)).mpr (hs x (List.mem_cons_of_mem _ hx)))
    rw [List.length_erase_of_mem ha] at h1
    have : 0 < k.length := List.length_pos_of_mem ha
    simp only [List.length_cons]
    omega
theorem nodup_map {α β : Type} {f : α → β} (hf : ∀ a b, f a = f b → a = b) {l : List α} (h : l.Nodup) : (l.map f).Nodup := by
  induction l with
  | nil => simp
  | cons a l ih =>
    rw [List.nodup_cons] at h
    rw [List.map_cons, List.nodup_cons]
    refine ⟨fun hm => ?_, ih h.2⟩
    obtain ⟨b, hb, e⟩ := List.mem_map.mp hm
    have := hf _ _ e
    subst this
    exact h.1 hb
theorem nodup_append {α : Type} {l k : List α} (hl : l.Nodup) (hk : k.Nodup) (h : ∀ x ∈ l, x ∉ k) : (l ++ k).Nodup := by
  induction l with
  | nil => simpa using hk
  | cons a l ih =>
    rw [List.nodup_cons] at hl
    rw [List.cons_append, List.nodup_cons]
    refine ⟨fun hm => ?_, ih hl.2 (fun x hx => h x (List.mem_cons_of_mem _ hx))⟩
    rcases List.mem_append.mp hm with q | q
    · exact hl.1 q
    · exact h a List.mem_cons_self q
theorem row_nodup (M : Lm) (i : Nat) (j : Nat) : ((List.range j).map (pt M i)).Nodup := nodup_map (fun a b e => by
  have := congrArg S80.f1 e
  simp only at this
  omega) List.nodup_range
theorem upto_nodup (M : Lm) : ∀ i j, (upto M i j).Nodup
  | 0, j => by unfold upto; simpa using row_nodup M 0 j
  | i + 1, j => by
    have h := upto_nodup M i (nB M)
    rw [upto_row] at h
    have e : upto M (i + 1) j = upto M (i + 1) 0 ++ (List.range j).map (pt M (i + 1)) := by unfold upto; simp
    rw [e]
    refine nodup_append h (row_nodup M (i + 1) j) (fun x hx hx2 => ?_)
    obtain ⟨b, _, rfl⟩ := List.mem_map.mp hx2
    unfold upto at hx
    rw [List.mem_append] at hx
    rcases hx with hx | hx
    · obtain ⟨a, ha, hx⟩ := List.mem_flatMap.mp hx
      obtain ⟨d, _, e2⟩ := List.mem_map.mp hx
      have := congrArg S80.f0 e2
      simp only at this
      have := List.mem_range.mp ha
      omega
    · simp at hx
theorem truths_nodup (M : Lm) : (truths M).Nodup := by
  have := upto_nodup M (nA M) 0
  rw [upto_all] at this
  exact this.filter _
instance : DecidableEq S80 := fun a b => if h : a.f0 = b.f0 ∧ a.f1 = b.f1 then .isTrue (by cases a; cases b; simp at h; simp [h]) else .isFalse (fun e => h (by subst e; exact ⟨rfl, rfl⟩))
/-- The same readings, or one less. -/
def Less (k l : List S64) : Prop := k = l ∨ ∃ i, i < l.length ∧ k = l.take i ++ l.drop (i + 1)
theorem wrongsF_cnt (x : Ln) : ∀ (l : List S64) (i : Int), (wrongsF x l i).length = (l.filter fun g => ¬ gOk x g).length
  | [], _ => rfl
  | g :: l, i => by
    have := wrongsF_cnt x l (i + 1)
    simp only [wrongsF]
    by_cases h : gOk x g
    · rw [if_pos h, List.filter_cons_of_neg (by simpa using h), this]
    · rw [if_neg h, List.filter_cons_of_pos (by simpa using h), List.length_cons, List.length_cons, this]
theorem less_wrong {k l : List S64} (h : Less k l) (x : Ln) (i j : Int) : (wrongsF x k i).length ≤ (wrongsF x l j).length := by
  rw [wrongsF_cnt, wrongsF_cnt]
  rcases h with rfl | ⟨i, hi, rfl⟩
  · exact Nat.le_refl _
  · have : l = l.take i ++ l[i] :: l.drop (i + 1) := by rw [← List.drop_eq_getElem_cons hi, List.take_append_drop]
    conv => rhs; rw [this]
    rw [List.filter_append, List.filter_append, List.length_append, List.length_append, List.filter_cons]
    split
    · simp only [List.length_cons]; omega
    · exact Nat.le_refl _
theorem less_len {k l : List S64} (h : Less k l) : k.length ≤ l.length := by
  rcases h with rfl | ⟨i, hi, rfl⟩
  · exact Nat.le_refl _
  · simp; omega
abbrev loose (M : Lm) (gs : List S64) (xw xf xa : Int) : Lm := ⟨mx 0 (M.fl - xf), mn 400 (M.fh + xf), mx 0 (M.al - xa), mn 9 (M.ah + xa), M.nl, M.nh, M.ra, gs, mn 3 (M.wr + xw)⟩
theorem loose_truths {M : Lm} {gs : List S64} {xw xf xa : Int} (hV : LampOk M) (hg : Less gs M.gs) (h1 : 0 ≤ xw) (h2 : 0 ≤ xf) (h3 : 0 ≤ xa) {x : Ln} (hx : x ∈ truths M) : x ∈ truths (loose M gs xw xf xa) := by
  obtain ⟨⟨f1, f2, f3⟩, _, ⟨a1, a2, a3⟩, _, _, w1, w2⟩ := hV.1
  obtain ⟨⟨x1, x2⟩, ⟨x3, x4⟩, x5⟩ := mem_truths.mp hx
  have hl := less_wrong hg x 0 0
  have e1 := mx_ge 0 (M.fl - xf)
  have e2 := mn_le 400 (M.fh + xf)
  have e3 := mx_ge 0 (M.al - xa)
  have e4 := mn_le 9 (M.ah + xa)
  have e5 := mn_le 3 (M.wr + xw)
  refine mem_truths.mpr ⟨⟨?_, ?_⟩, ⟨?_, ?_⟩, ?_⟩
  · show mx 0 _ ≤ _; omega
  · show _ ≤ mn 400 _; omega
  · show mx 0 _ ≤ _; omega
  · show _ ≤ mn 9 _; omega
  · show ((wrongsF x gs 0).length : Int) ≤ mn 3 _
    have : ((wrongsF x M.gs 0).length : Int) ≤ M.wr := x5
    omega
theorem more_many {M N : Lm} (hM : LampOk M) (hN : LampOk N) (hs : ∀ x ∈ truths M, x ∈ truths N) : 0 ≤ manyV M ∧ manyV M ≤ manyV N := by
  unfold manyV
  rw [if_pos hM, if_pos hN]
  have := nodup_len (truths_nodup M) hs
  omega
theorem more_plain {M N : Lm} {h : Int} (h0 : inR h 0 40) (hM : LampOk M) (hN : LampOk N) (hs : ∀ x ∈ truths M, x ∈ truths N) (e1 : N.nl = M.nl) (e2 : N.nh = M.nh) (hm : ¬ manyV M = 0) :
    askE M h = 0 ∧ askE N h = 0 ∧ (atV N h).1 ≤ (atV M h).1 ∧ (atV M h).2 ≤ (atV N h).2 ∧ (¬ keepsV N h = keepsV M h → keepsV N h = 3) := by
  unfold manyV at hm
  rw [if_pos hM] at hm
  have hp : ¬ (truths M).length = 0 := by omega
  have hl := nodup_len (truths_nodup M) hs
  have he := askE_0 hM h0 hp
  have he' : askE N h = 0 := askE_0 hN h0 (by omega)
  have A := at_spec he
  have B := at_spec he'
  obtain ⟨x, hx, ex⟩ := A.lo2
  obtain ⟨y, hy, ey⟩ := A.hi2
  refine ⟨he, he', by have := B.lo1 x (hs x hx); omega, by have := B.hi1 y (hs y hy); omega, ?_⟩
  have k1 : keepsV M h = keepsT M.nl M.nh (truths M) h := by unfold keepsV; rw [if_pos he]
  have k2 : keepsV N h = keepsT M.nl M.nh (truths N) h := by unfold keepsV; rw [if_pos he', e1, e2]
  rw [k1, k2]
  intro hne
  have q1 : keepsT M.nl M.nh (truths N) h = 1 → keepsT M.nl M.nh (truths M) h = 1 := fun q => keepsT_one.mpr fun x hx => keepsT_one.mp q x (hs x hx)
  have q2 : keepsT M.nl M.nh (truths N) h = 2 → keepsT M.nl M.nh (truths M) h = 2 := fun q => by
    unfold keepsT at q
    split at q
    · cases q
    · split at q
      · next z =>
        unfold cntK at z
        rw [List.length_eq_zero_iff, List.filter_eq_nil_iff] at z
        have zM : cntK M.nl M.nh (truths M) h = 0 := by
          unfold cntK
          rw [List.length_eq_zero_iff, List.filter_eq_nil_iff]
          exact fun x hx => z x (hs x hx)
        unfold keepsT
        rw [zM, if_neg (fun e => hp e.symm), if_pos rfl]
      · cases q
  have hr : keepsT M.nl M.nh (truths N) h = 1 ∨ keepsT M.nl M.nh (truths N) h = 2 ∨ keepsT M.nl M.nh (truths N) h = 3 := by
    unfold keepsT
    split
    · exact .inl rfl
    · split
      · exact .inr (.inl rfl)
      · exact .inr (.inr rfl)
  rcases hr with r | r | r
  · exact absurd (r.trans (q1 r).symm) hne
  · exact absurd (r.trans (q2 r).symm) hne
  · exact r
theorem Kd.C_drop {α : Type} {d : Kd α} {w : World} {A : Option Addr} {n c i : Nat} {xs : List α} (h : Kd.C d w A n xs) (hi : i ≤ n) (hc : n ≤ c) : Kd.C d w (if c = i then A else A.map (·.add (i * d.sz))) (n - i) (xs.drop i) := by
  obtain ⟨h1, h2, h3⟩ := h
  refine ⟨by simp [h1], by omega, fun hn => ?_⟩
  obtain ⟨ad, rfl, hr⟩ := h3 (by omega)
  rw [if_neg (by omega)]
  refine ⟨ad.add (i * d.sz), rfl, fun j p hj => ?_⟩
  rw [List.getElem?_drop] at hj
  obtain ⟨cs, k1, k2, k3⟩ := hr (i + j) p hj
  refine ⟨cs, k1, k2, fun m u hu => ?_⟩
  have := k3 m u hu
  rw [← this]
  congr 1
  rw [show (i + j) * d.sz + m = i * d.sz + (j * d.sz + m) by rw [Nat.add_mul]; omega]
  exact add_add _ _ _
set_option maxRecDepth 100000 in
set_option maxHeartbeats 8000000 in

theorem less_law (M : Lm) (A : Option Addr) (c : Nat) (xg xw xf xa h : Int) (w : World) (hr : Kd.C k64 w A M.gs.length M.gs) (hc : M.gs.length ≤ c) :
    Calls Try.prog 8 #[lv M A c, .agg #[.int .i64 xg, .int .i64 xw, .int .i64 xf, .int .i64 xa], .int .i64 h] w fun e w' => e = .returned (.bool true) ∧ Below w.heap.size w w' := by
  have hu3 := Try.underlying3
  have hu23 := Try.underlying23
  have hu24 := Try.underlying24
  have hu26 := Try.underlying26
  have hu60 := Try.underlying60
  obtain ⟨z3, o3⟩ := info_some info3s (by decide)
  obtain ⟨z23, o23⟩ := info_some info23s (by decide)
  obtain ⟨z24, o24⟩ := info_some info24s (by decide)
  obtain ⟨z64, o64⟩ := info_some info64s (by decide)
  refine E.enter (N := 220) Try.func8 rfl Try.ntmps8 (args := [lv M A c, .agg #[.int .i64 xg, .int .i64 xw, .int .i64 xf, .int .i64 xa], .int .i64 h]) (by simp) ?_
  have L := Below.refl w.heap.size w
  refine E.CG.seq ?_
  refine E.CG.list ?_
  refine E.GL.st rfl rfl rfl (E.ST.box rfl rfl fun g3 w3 e3 b3 l3 => ?_)
  have h3_L : w.heap.size ≤ g3 := by rw [e3]; exact L.size
  replace L := below_step L l3
  refine E.GL.st rfl rfl rfl (E.ST.box rfl rfl fun g4 w4 e4 b4 l4 => ?_)
  have h4_L : w.heap.size ≤ g4 := by rw [e4]; exact L.size
  have n4_b3 : g3 ≠ g4 := by have := blk_lt b3; omega
  replace b3 := blk_below b3 l4
  replace L := below_step L l4
  refine E.GL.run rfl rfl rfl (E.Runs.assign rfl rfl) ?_
  refine E.GL.done ?_
  refine E.QG.code ?_
  refine E.CG.seq ?_
  refine E.CG.seq ?_
  refine E.CG.list ?_
  refine E.GL.run rfl rfl rfl (E.Runs.loads (cs := [.int .i64 M.fl, .int .i64 M.fh, .int .i64 M.al, .int .i64 M.ah, .int .i64 M.nl, .int .i64 M.nh, .int .i64 M.ra, .slice A M.gs.length c, .int .i64 M.wr]) rfl rfl hu26 rfl info26s (blk_cells b3)) ?_
  by_cases h21 : ¬ far M ∧ LampOk M
  · have hg6 := ready_few h21.1
    have hV0 := h21.2
    obtain ⟨⟨vf1, vf2, vf3⟩, _, ⟨va1, va2, va3⟩, _, hgl, vw1, vw2⟩ := h21.2.1
    refine E.GL.st rfl rfl rfl (E.ST.call rfl ent18 (E.evc rfl E.evn) ((ready_calls M A c _ true (iff_of_true rfl h21) (Kd.C_below hr L)).mono ?_))
    rintro e w21 ⟨rfl, l21⟩
    refine ⟨_, rfl, ?_⟩
    replace b3 := blk_below b3 l21
    replace b4 := blk_below b4 l21
    replace L := below_step L l21
    refine E.GL.run rfl rfl rfl (E.Runs.not rfl rfl) ?_
    refine E.GL.run rfl rfl rfl (E.Runs.move rfl rfl) ?_
    refine E.GL.run rfl rfl rfl (E.Runs.move rfl rfl) ?_
    by_cases h25 : inR h 0 40
    · refine E.GL.st rfl rfl rfl (E.ST.call rfl ent19 (E.evc rfl E.evn) ((ishour_calls h _ true (iff_of_true rfl h25)).mono ?_))
      rintro e w25 ⟨rfl, l25⟩
      refine ⟨_, rfl, ?_⟩
      replace b3 := blk_below b3 l25
      replace b4 := blk_below b4 l25
      replace L := below_step L l25
      refine E.GL.run rfl rfl rfl (E.Runs.not rfl rfl) ?_
      refine E.GL.run rfl rfl rfl (E.Runs.pick_f rfl rfl rfl) ?_
      refine E.GL.run rfl rfl rfl (E.Runs.move rfl rfl) ?_
      refine E.GL.run rfl rfl rfl (E.Runs.fieldAddr rfl rfl hu60 rfl (by assumption) rfl) ?_
      refine E.GL.run rfl rfl rfl (E.Runs.load rfl rfl hu3 (by first | assumption | exact E.blkc (by assumption) rfl | exact pw_cell_below L (by assumption))) ?_
      refine E.GL.cmp rfl rfl rfl (fun _ h => (E.Runs.lss rfl rfl rfl h)) (fun h31 => ?_) (fun h31 => ?_)
      · refine E.GL.run rfl rfl rfl (E.Runs.pick_f rfl rfl rfl) ?_
        refine E.GL.run rfl rfl rfl (E.Runs.move rfl rfl) ?_
        refine E.GL.skip rfl rfl rfl ?_
        refine E.GL.skip rfl rfl rfl ?_
        refine E.GL.skip rfl rfl rfl ?_
        refine E.GL.run rfl rfl rfl (E.Runs.pick_t rfl rfl rfl) ?_
        refine E.GL.run rfl rfl rfl (E.Runs.move rfl rfl) ?_
        refine E.GL.skip rfl rfl rfl ?_
        refine E.GL.skip rfl rfl rfl ?_
        refine E.GL.skip rfl rfl rfl ?_
        refine E.GL.run rfl rfl rfl (E.Runs.pick_t rfl rfl rfl) ?_
        refine E.GL.run rfl rfl rfl (E.Runs.move rfl rfl) ?_
        refine E.GL.skip rfl rfl rfl ?_
        refine E.GL.skip rfl rfl rfl ?_
        refine E.GL.skip rfl rfl rfl ?_
        refine E.GL.run rfl rfl rfl (E.Runs.pick_t rfl rfl rfl) ?_
        refine E.GL.run rfl rfl rfl (E.Runs.move rfl rfl) ?_
        refine E.GL.skip rfl rfl rfl ?_
        refine E.GL.skip rfl rfl rfl ?_
        refine E.GL.skip rfl rfl rfl ?_
        refine E.GL.run rfl rfl rfl (E.Runs.pick_t rfl rfl rfl) ?_
        refine E.GL.run rfl rfl rfl (E.Runs.move rfl rfl) ?_
        refine E.GL.skip rfl rfl rfl ?_
        refine E.GL.skip rfl rfl rfl ?_
        refine E.GL.skip rfl rfl rfl ?_
        refine E.GL.run rfl rfl rfl (E.Runs.pick_t rfl rfl rfl) ?_
        refine E.GL.done ?_
        refine E.QG.code ?_
        refine E.CG.cond_t rfl ?_
        refine E.CG.seq ?_
        refine E.CG.list ?_
        refine E.GL.st rfl rfl rfl (E.ST.call rfl ent13 E.evn ((works_calls _).mono ?_))
        rintro e w58 ⟨rfl, l58⟩
        refine ⟨_, rfl, ?_⟩
        replace b3 := blk_below b3 l58
        replace b4 := blk_below b4 l58
        replace L := below_step L l58
        refine E.GL.run rfl rfl rfl (E.Runs.assign rfl rfl) ?_
        refine E.GL.done ?_
        refine E.QG.code ?_
        refine E.CG.ret ?_
        refine E.QG.pass_ret ?_
        exact E.QG.result rfl rfl ⟨rfl, L⟩
      · refine E.GL.run rfl rfl rfl (E.Runs.pick_f rfl rfl rfl) ?_
        refine E.GL.run rfl rfl rfl (E.Runs.move rfl rfl) ?_
        refine E.GL.run rfl rfl rfl (E.Runs.fieldAddr rfl rfl hu60 rfl (by assumption) rfl) ?_
        refine E.GL.run rfl rfl rfl (E.Runs.load rfl rfl hu3 (by first | assumption | exact E.blkc (by assumption) rfl | exact pw_cell_below L (by assumption))) ?_
        refine E.GL.cmp rfl rfl rfl (fun _ h => (E.Runs.gtr rfl rfl rfl h)) (fun h36 => ?_) (fun h36 => ?_)
        · refine E.GL.run rfl rfl rfl (E.Runs.pick_f rfl rfl rfl) ?_
          refine E.GL.run rfl rfl rfl (E.Runs.move rfl rfl) ?_
          refine E.GL.skip rfl rfl rfl ?_
          refine E.GL.skip rfl rfl rfl ?_
          refine E.GL.skip rfl rfl rfl ?_
          refine E.GL.run rfl rfl rfl (E.Runs.pick_t rfl rfl rfl) ?_
          refine E.GL.run rfl rfl rfl (E.Runs.move rfl rfl) ?_
          refine E.GL.skip rfl rfl rfl ?_
          refine E.GL.skip rfl rfl rfl ?_
          refine E.GL.skip rfl rfl rfl ?_
          refine E.GL.run rfl rfl rfl (E.Runs.pick_t rfl rfl rfl) ?_
          refine E.GL.run rfl rfl rfl (E.Runs.move rfl rfl) ?_
          refine E.GL.skip rfl rfl rfl ?_
          refine E.GL.skip rfl rfl rfl ?_
          refine E.GL.skip rfl rfl rfl ?_
          refine E.GL.run rfl rfl rfl (E.Runs.pick_t rfl rfl rfl) ?_
          refine E.GL.run rfl rfl rfl (E.Runs.move rfl rfl) ?_
          refine E.GL.skip rfl rfl rfl ?_
          refine E.GL.skip rfl rfl rfl ?_
          refine E.GL.skip rfl rfl rfl ?_
          refine E.GL.run rfl rfl rfl (E.Runs.pick_t rfl rfl rfl) ?_
          refine E.GL.done ?_
          refine E.QG.code ?_
          refine E.CG.cond_t rfl ?_
          refine E.CG.seq ?_
          refine E.CG.list ?_
          refine E.GL.st rfl rfl rfl (E.ST.call rfl ent13 E.evn ((works_calls _).mono ?_))
          rintro e w58 ⟨rfl, l58⟩
          refine ⟨_, rfl, ?_⟩
          replace b3 := blk_below b3 l58
          replace b4 := blk_below b4 l58
          replace L := below_step L l58
          refine E.GL.run rfl rfl rfl (E.Runs.assign rfl rfl) ?_
          refine E.GL.done ?_
          refine E.QG.code ?_
          refine E.CG.ret ?_
          refine E.QG.pass_ret ?_
          exact E.QG.result rfl rfl ⟨rfl, L⟩
        · refine E.GL.run rfl rfl rfl (E.Runs.pick_f rfl rfl rfl) ?_
          refine E.GL.run rfl rfl rfl (E.Runs.move rfl rfl) ?_
          refine E.GL.run rfl rfl rfl (E.Runs.fieldAddr rfl rfl hu60 rfl (by assumption) rfl) ?_
          refine E.GL.run rfl rfl rfl (E.Runs.load rfl rfl hu3 (by first | assumption | exact E.blkc (by assumption) rfl | exact pw_cell_below L (by assumption))) ?_
          refine E.GL.cmp rfl rfl rfl (fun _ h => (E.Runs.lss rfl rfl rfl h)) (fun h41 => ?_) (fun h41 => ?_)
          · refine E.GL.run rfl rfl rfl (E.Runs.pick_f rfl rfl rfl) ?_
            refine E.GL.run rfl rfl rfl (E.Runs.move rfl rfl) ?_
            refine E.GL.skip rfl rfl rfl ?_
            refine E.GL.skip rfl rfl rfl ?_
            refine E.GL.skip rfl rfl rfl ?_
            refine E.GL.run rfl rfl rfl (E.Runs.pick_t rfl rfl rfl) ?_
            refine E.GL.run rfl rfl rfl (E.Runs.move rfl rfl) ?_
            refine E.GL.skip rfl rfl rfl ?_
            refine E.GL.skip rfl rfl rfl ?_
            refine E.GL.skip rfl rfl rfl ?_
            refine E.GL.run rfl rfl rfl (E.Runs.pick_t rfl rfl rfl) ?_
            refine E.GL.run rfl rfl rfl (E.Runs.move rfl rfl) ?_
            refine E.GL.skip rfl rfl rfl ?_
            refine E.GL.skip rfl rfl rfl ?_
            refine E.GL.skip rfl rfl rfl ?_
            refine E.GL.run rfl rfl rfl (E.Runs.pick_t rfl rfl rfl) ?_
            refine E.GL.done ?_
            refine E.QG.code ?_
            refine E.CG.cond_t rfl ?_
            refine E.CG.seq ?_
            refine E.CG.list ?_
            refine E.GL.st rfl rfl rfl (E.ST.call rfl ent13 E.evn ((works_calls _).mono ?_))
            rintro e w58 ⟨rfl, l58⟩
            refine ⟨_, rfl, ?_⟩
            replace b3 := blk_below b3 l58
            replace b4 := blk_below b4 l58
            replace L := below_step L l58
            refine E.GL.run rfl rfl rfl (E.Runs.assign rfl rfl) ?_
            refine E.GL.done ?_
            refine E.QG.code ?_
            refine E.CG.ret ?_
            refine E.QG.pass_ret ?_
            exact E.QG.result rfl rfl ⟨rfl, L⟩
          · refine E.GL.run rfl rfl rfl (E.Runs.pick_f rfl rfl rfl) ?_
            refine E.GL.run rfl rfl rfl (E.Runs.move rfl rfl) ?_
            refine E.GL.run rfl rfl rfl (E.Runs.fieldAddr rfl rfl hu60 rfl (by assumption) rfl) ?_
            refine E.GL.run rfl rfl rfl (E.Runs.load rfl rfl hu3 (by first | assumption | exact E.blkc (by assumption) rfl | exact pw_cell_below L (by assumption))) ?_
            refine E.GL.cmp rfl rfl rfl (fun _ h => (E.Runs.gtr rfl rfl rfl h)) (fun h46 => ?_) (fun h46 => ?_)
            · refine E.GL.run rfl rfl rfl (E.Runs.pick_f rfl rfl rfl) ?_
              refine E.GL.run rfl rfl rfl (E.Runs.move rfl rfl) ?_
              refine E.GL.skip rfl rfl rfl ?_
              refine E.GL.skip rfl rfl rfl ?_
              refine E.GL.skip rfl rfl rfl ?_
              refine E.GL.run rfl rfl rfl (E.Runs.pick_t rfl rfl rfl) ?_
              refine E.GL.run rfl rfl rfl (E.Runs.move rfl rfl) ?_
              refine E.GL.skip rfl rfl rfl ?_
              refine E.GL.skip rfl rfl rfl ?_
              refine E.GL.skip rfl rfl rfl ?_
              refine E.GL.run rfl rfl rfl (E.Runs.pick_t rfl rfl rfl) ?_
              refine E.GL.done ?_
              refine E.QG.code ?_
              refine E.CG.cond_t rfl ?_
              refine E.CG.seq ?_
              refine E.CG.list ?_
              refine E.GL.st rfl rfl rfl (E.ST.call rfl ent13 E.evn ((works_calls _).mono ?_))
              rintro e w58 ⟨rfl, l58⟩
              refine ⟨_, rfl, ?_⟩
              replace b3 := blk_below b3 l58
              replace b4 := blk_below b4 l58
              replace L := below_step L l58
              refine E.GL.run rfl rfl rfl (E.Runs.assign rfl rfl) ?_
              refine E.GL.done ?_
              refine E.QG.code ?_
              refine E.CG.ret ?_
              refine E.QG.pass_ret ?_
              exact E.QG.result rfl rfl ⟨rfl, L⟩
            · refine E.GL.run rfl rfl rfl (E.Runs.pick_f rfl rfl rfl) ?_
              refine E.GL.run rfl rfl rfl (E.Runs.move rfl rfl) ?_
              refine E.GL.run rfl rfl rfl (E.Runs.fieldAddr rfl rfl hu60 rfl (by assumption) rfl) ?_
              refine E.GL.run rfl rfl rfl (E.Runs.load rfl rfl hu3 (by first | assumption | exact E.blkc (by assumption) rfl | exact pw_cell_below L (by assumption))) ?_
              refine E.GL.cmp rfl rfl rfl (fun _ h => (E.Runs.lss rfl rfl rfl h)) (fun h51 => ?_) (fun h51 => ?_)
              · refine E.GL.run rfl rfl rfl (E.Runs.pick_f rfl rfl rfl) ?_
                refine E.GL.run rfl rfl rfl (E.Runs.move rfl rfl) ?_
                refine E.GL.skip rfl rfl rfl ?_
                refine E.GL.skip rfl rfl rfl ?_
                refine E.GL.skip rfl rfl rfl ?_
                refine E.GL.run rfl rfl rfl (E.Runs.pick_t rfl rfl rfl) ?_
                refine E.GL.done ?_
                refine E.QG.code ?_
                refine E.CG.cond_t rfl ?_
                refine E.CG.seq ?_
                refine E.CG.list ?_
                refine E.GL.st rfl rfl rfl (E.ST.call rfl ent13 E.evn ((works_calls _).mono ?_))
                rintro e w58 ⟨rfl, l58⟩
                refine ⟨_, rfl, ?_⟩
                replace b3 := blk_below b3 l58
                replace b4 := blk_below b4 l58
                replace L := below_step L l58
                refine E.GL.run rfl rfl rfl (E.Runs.assign rfl rfl) ?_
                refine E.GL.done ?_
                refine E.QG.code ?_
                refine E.CG.ret ?_
                refine E.QG.pass_ret ?_
                exact E.QG.result rfl rfl ⟨rfl, L⟩
              · refine E.GL.run rfl rfl rfl (E.Runs.pick_f rfl rfl rfl) ?_
                refine E.GL.run rfl rfl rfl (E.Runs.move rfl rfl) ?_
                refine E.GL.run rfl rfl rfl (E.Runs.fieldAddr rfl rfl hu60 rfl (by assumption) rfl) ?_
                refine E.GL.run rfl rfl rfl (E.Runs.load rfl rfl hu3 (by first | assumption | exact E.blkc (by assumption) rfl | exact pw_cell_below L (by assumption))) ?_
                refine E.GL.cmp rfl rfl rfl (fun _ h => (E.Runs.gtr rfl rfl rfl h)) (fun h56 => ?_) (fun h56 => ?_)
                · refine E.GL.run rfl rfl rfl (E.Runs.pick_f rfl rfl rfl) ?_
                  refine E.GL.done ?_
                  refine E.QG.code ?_
                  refine E.CG.cond_t rfl ?_
                  refine E.CG.seq ?_
                  refine E.CG.list ?_
                  refine E.GL.st rfl rfl rfl (E.ST.call rfl ent13 E.evn ((works_calls _).mono ?_))
                  rintro e w58 ⟨rfl, l58⟩
                  refine ⟨_, rfl, ?_⟩
                  replace b3 := blk_below b3 l58
                  replace b4 := blk_below b4 l58
                  replace L := below_step L l58
                  refine E.GL.run rfl rfl rfl (E.Runs.assign rfl rfl) ?_
                  refine E.GL.done ?_
                  refine E.QG.code ?_
                  refine E.CG.ret ?_
                  refine E.QG.pass_ret ?_
                  exact E.QG.result rfl rfl ⟨rfl, L⟩
                · refine E.GL.run rfl rfl rfl (E.Runs.pick_f rfl rfl rfl) ?_
                  refine E.GL.done ?_
                  refine E.QG.code ?_
                  refine E.CG.cond_f rfl ?_
                  refine E.CG.skip ?_
                  refine E.QG.code ?_
                  refine E.CG.seq ?_
                  refine E.CG.list ?_
                  refine E.GL.run rfl rfl rfl (E.Runs.loads (cs := [.int .i64 M.fl, .int .i64 M.fh, .int .i64 M.al, .int .i64 M.ah, .int .i64 M.nl, .int .i64 M.nh, .int .i64 M.ra, .slice A M.gs.length c, .int .i64 M.wr]) rfl rfl hu26 rfl info26s (blk_cells b3)) ?_
                  have hs60 := L.size
                  refine E.GL.st rfl rfl rfl (E.ST.call rfl ent15 (E.evc rfl E.evn) ((copy_calls M A c _ (Kd.C_below hr L) hg6).mono ?_))
                  rintro e w60 ⟨A2, c2, rfl, R2, l60⟩
                  refine ⟨_, rfl, ?_⟩
                  replace b3 := blk_below b3 l60
                  replace b4 := blk_below b4 l60
                  replace L := below_step L l60
                  obtain ⟨gs2, hgs2⟩ : ∃ g, g = M.gs := ⟨_, rfl⟩
                  rw [← hgs2] at R2
                  replace R2 := Kd.R_lower R2 hs60
                  refine E.GL.st rfl rfl rfl (E.ST.alloc rfl info26z fun g7 w7 e7 b7 l7 => ?_)
                  have h7_L : w.heap.size ≤ g7 := by rw [e7]; exact L.size
                  have n7_b3 : g3 ≠ g7 := by have := blk_lt b3; omega
                  have n7_b4 : g4 ≠ g7 := by have := blk_lt b4; omega
                  have n7_R2 : some g7 ≠ ((Value.slice A2 gs2.length c2)).ownBlock := fun h => by have := Kd.R_lt R2 _ h.symm; omega
                  replace b3 := blk_below b3 l7
                  replace b4 := blk_below b4 l7
                  replace R2 := Kd.R_below R2 l7
                  replace L := below_step L l7
                  refine E.GL.store_whole rfl rfl rfl rfl rfl b7 rfl info26s (nine_one _ _ _ _ _ _ _ _ _ _ _) fun wS3_3 c7 lS3_3 => ?_
                  replace b3 := blk_grown b3 lS3_3 (E.nes (by first | assumption | exact Ne.symm (by assumption)))
                  replace b4 := blk_grown b4 lS3_3 (E.nes (by first | assumption | exact Ne.symm (by assumption)))
                  replace R2 := Kd.R_grown1 R2 rfl lS3_3 (by first | assumption | exact Kd.R_ne R2 b7 (by decide))
                  replace L := E.below_own L h7_L lS3_3
                  replace b7 := c7
                  clear c7
                  refine E.GL.done ?_
                  refine E.QG.code ?_
                  refine E.CG.seq ?_
                  refine E.CG.seq ?_
                  rw [show M.gs.length = gs2.length by rw [hgs2]] at b7
                  refine E.CG.list ?_
                  refine E.GL.run rfl rfl rfl (E.Runs.fieldAddr rfl rfl hu60 rfl (by assumption) rfl) ?_
                  refine E.GL.run rfl rfl rfl (E.Runs.load rfl rfl hu3 (by first | assumption | exact E.blkc (by assumption) rfl | exact pw_cell_below L (by assumption))) ?_
                  refine E.GL.cmp rfl rfl rfl (fun _ h => (E.Runs.geq rfl rfl rfl h)) (fun h63 => ?_) (fun h63 => ?_)
                  · refine E.GL.run rfl rfl rfl (E.Runs.move rfl rfl) ?_
                    refine E.GL.run rfl rfl rfl (E.Runs.fieldAddr rfl rfl hu60 rfl (by assumption) rfl) ?_
                    refine E.GL.run rfl rfl rfl (E.Runs.load rfl rfl hu3 (by first | assumption | exact E.blkc (by assumption) rfl | exact pw_cell_below L (by assumption))) ?_
                    refine E.GL.run rfl rfl rfl (E.Runs.fieldAddr rfl rfl hu26 rfl (by assumption) rfl) ?_
                    refine E.GL.run rfl rfl rfl (E.Runs.load1 rfl rfl hu24 rfl (by first | assumption | exact E.blkc (by assumption) rfl | exact pw_cell_below L (by assumption))) ?_
                    refine E.GL.run rfl rfl rfl (E.Runs.len rfl rfl hu24) ?_
                    refine E.GL.cmp rfl rfl rfl (fun _ h => (E.Runs.lss rfl rfl rfl h)) (fun h70 => ?_) (fun h70 => ?_)
                    · refine E.GL.run rfl rfl rfl (E.Runs.pick_t rfl rfl rfl) ?_
                      refine E.GL.done ?_
                      refine E.QG.code ?_
                      refine E.CG.cond_t rfl ?_
                      obtain ⟨i, hi⟩ : ∃ i : Nat, xg = i := ⟨xg.toNat, by omega⟩
                      subst hi
                      rw [hgs2] at R2 b7 h70
                      refine E.CG.heldJ 13 (fun v W => v.grownBy W ((Value.slice A2 i c2).ownBlock)) (fun _ _ => True) (by kernel_rfl) (by kernel_rfl) (fun v => World.grownBy.refl _ _) fun v5 lD => ?_
                      replace b3 := blk_below b3 lD
                      replace b4 := blk_below b4 lD
                      replace b7 := blk_below b7 lD
                      replace R2 := Kd.R_below R2 lD
                      replace L := below_step L lD
                      have lD5 := lD
                      clear lD
                      have RT := Kd.R_take (m := i) R2 (by omega)
                      have s_R2 := R2
                      have nr3 : some g3 ≠ (Value.slice A2 i c2).ownBlock := Kd.R_ne RT b3 (by decide)
                      have nr4 : some g4 ≠ (Value.slice A2 i c2).ownBlock := Kd.R_ne RT b4 (by decide)
                      have nr7 : some g7 ≠ (Value.slice A2 i c2).ownBlock := Kd.R_ne RT b7 (by decide)
                      have s_b3 := b3
                      have s_b4 := b4
                      have s_b7 := b7
                      have s_L := L
                      have hh : v5.grownBy v5 ((Value.slice A2 i c2).ownBlock) := World.grownBy.refl _ _
                      refine E.GJ.take1 (i := 0) rfl (by kernel_rfl) (by kernel_rfl) (by kernel_rfl) (by kernel_rfl) rfl (by kernel_rfl) (by kernel_rfl) (by intro c a d v w h; cases d <;> exact h) rfl rfl rfl (fun w' hS => (E.Runs.fieldAddr rfl rfl hu26 rfl (by assumption) rfl)) ?_
                      refine E.GJ.take1 (i := 1) rfl (by kernel_rfl) (by kernel_rfl) (by kernel_rfl) (by kernel_rfl) rfl (by kernel_rfl) (by kernel_rfl) (by intro c a d v w h; cases d <;> exact h) rfl rfl rfl (fun w' hS => (E.Runs.load1 rfl rfl hu24 rfl (by first | exact E.keeps hS (E.blkc (by assumption) rfl) (by first | exact E.nen | exact E.nes (by assumption) | exact E.nes (Ne.symm (by assumption)) | exact nr3 | exact nr4 | exact nr7) | exact pw_cell_below (below_step s_L (E.belowG hS)) (by assumption)))) ?_
                      refine E.GJ.take1 (i := 2) rfl (by kernel_rfl) (by kernel_rfl) (by kernel_rfl) (by kernel_rfl) rfl (by kernel_rfl) (by kernel_rfl) (by intro c a d v w h; cases d <;> exact h) rfl rfl rfl (fun w' hS => (E.Runs.fieldAddr rfl rfl hu60 rfl (by assumption) rfl)) ?_
                      refine E.GJ.take1 (i := 3) rfl (by kernel_rfl) (by kernel_rfl) (by kernel_rfl) (by kernel_rfl) rfl (by kernel_rfl) (by kernel_rfl) (by intro c a d v w h; cases d <;> exact h) rfl rfl rfl (fun w' hS => (E.Runs.load rfl rfl hu3 (by first | exact E.keeps hS (E.blkc (by assumption) rfl) (by first | exact E.nen | exact E.nes (by assumption) | exact E.nes (Ne.symm (by assumption)) | exact nr3 | exact nr4 | exact nr7) | exact pw_cell_below (below_step s_L (E.belowG hS)) (by assumption)))) ?_
                      refine E.GJ.take1 (i := 4) rfl (by kernel_rfl) (by kernel_rfl) (by kernel_rfl) (by kernel_rfl) rfl (by kernel_rfl) (by kernel_rfl) (by intro c a d v w h; cases d <;> exact h) rfl rfl rfl (fun w' hS => (E.Runs.sliceTo (i := i) rfl rfl rfl hu24 z64 (by have := (Kd.R_reads' s_R2).2.1; omega))) ?_
                      refine E.GJ.take1 (i := 5) rfl (by kernel_rfl) (by kernel_rfl) (by kernel_rfl) (by kernel_rfl) rfl (by kernel_rfl) (by kernel_rfl) (by intro c a d v w h; cases d <;> exact h) rfl rfl rfl (fun w' hS => (E.Runs.fieldAddr rfl rfl hu26 rfl (by assumption) rfl)) ?_
                      refine E.GJ.take1 (i := 6) rfl (by kernel_rfl) (by kernel_rfl) (by kernel_rfl) (by kernel_rfl) rfl (by kernel_rfl) (by kernel_rfl) (by intro c a d v w h; cases d <;> exact h) rfl rfl rfl (fun w' hS => (E.Runs.load1 rfl rfl hu24 rfl (by first | exact E.keeps hS (E.blkc (by assumption) rfl) (by first | exact E.nen | exact E.nes (by assumption) | exact E.nes (Ne.symm (by assumption)) | exact nr3 | exact nr4 | exact nr7) | exact pw_cell_below (below_step s_L (E.belowG hS)) (by assumption)))) ?_
                      refine E.GJ.take1 (i := 7) rfl (by kernel_rfl) (by kernel_rfl) (by kernel_rfl) (by kernel_rfl) rfl (by kernel_rfl) (by kernel_rfl) (by intro c a d v w h; cases d <;> exact h) rfl rfl rfl (fun w' hS => (E.Runs.fieldAddr rfl rfl hu60 rfl (by assumption) rfl)) ?_
                      refine E.GJ.take1 (i := 8) rfl (by kernel_rfl) (by kernel_rfl) (by kernel_rfl) (by kernel_rfl) rfl (by kernel_rfl) (by kernel_rfl) (by intro c a d v w h; cases d <;> exact h) rfl rfl rfl (fun w' hS => (E.Runs.load rfl rfl hu3 (by first | exact E.keeps hS (E.blkc (by assumption) rfl) (by first | exact E.nen | exact E.nes (by assumption) | exact E.nes (Ne.symm (by assumption)) | exact nr3 | exact nr4 | exact nr7) | exact pw_cell_below (below_step s_L (E.belowG hS)) (by assumption)))) ?_
                      refine E.GJ.take1 (i := 9) rfl (by kernel_rfl) (by kernel_rfl) (by kernel_rfl) (by kernel_rfl) rfl (by kernel_rfl) (by kernel_rfl) (by intro c a d v w h; cases d <;> exact h) rfl rfl rfl (fun w' hS => (E.Runs.add rfl rfl rfl (IntWalk.i64_in _ (by omega)))) ?_
                      refine E.GJ.take1 (i := 10) rfl (by kernel_rfl) (by kernel_rfl) (by kernel_rfl) (by kernel_rfl) rfl (by kernel_rfl) (by kernel_rfl) (by intro c a d v w h; cases d <;> exact h) rfl rfl rfl (fun w' hS => (E.Runs.sliceFrom (i := i + 1) rfl rfl rfl hu24 z64 o64 (by omega) hc rfl)) ?_
                      refine E.GJ.one (i := 11) (by kernel_rfl) (E.OJ.st rfl rfl rfl rfl (E.ST.appendRows k64 w.heap.size (w0 := w) (s := .tmp 76) (x := .tmp 82) rfl hu24 info64 rfl (by decide) (by decide) rfl rfl RT (Kd.C_drop (c := c) (i := i + 1) (Kd.C_below hr L) (by omega) hc) k64_made L L.size (by rw [List.length_take]; omega) fun u83 w83 r83 k83 g83 => ⟨(E.SJ.before (by kernel_rfl)).mpr g83, ?_⟩))
                      replace b3 := blk_grown b3 g83 (Kd.R_ne RT b3 (by decide))
                      replace b4 := blk_grown b4 g83 (Kd.R_ne RT b4 (by decide))
                      replace b7 := blk_grown b7 g83 (Kd.R_ne RT b7 (by decide))
                      replace L := k83
                      clear RT
                      replace R2 := r83
                      clear r83
                      obtain ⟨A5, c5, hv5⟩ := Kd.R_slice R2
                      subst hv5
                      refine E.GJ.take1 (i := 12) rfl (by kernel_rfl) (by kernel_rfl) (by kernel_rfl) (by kernel_rfl) rfl (by kernel_rfl) (by kernel_rfl) (by intro c a d v w h; cases d <;> exact h) rfl rfl rfl (fun w' hS => (E.Runs.fieldAddr rfl rfl hu26 rfl (by assumption) rfl)) ?_
                      refine E.GJ.one (i := 13) (by kernel_rfl) (E.OJ.sn rfl rfl rfl (E.ST.storeSl (cs := [.int .i64 M.fl, .int .i64 M.fh, .int .i64 M.al, .int .i64 M.ah, .int .i64 M.nl, .int .i64 M.nh, .int .i64 M.ra, .slice A2 M.gs.length c2, .int .i64 M.wr]) rfl z24 o24 rfl rfl b7 rfl rfl fun wS c7 lS => ⟨(E.SJ.behind (by kernel_rfl)).mpr trivial, ?_⟩))
                      replace b3 := blk_grown b3 lS (E.nes (by first | assumption | exact Ne.symm (by assumption)))
                      replace b4 := blk_grown b4 lS (E.nes (by first | assumption | exact Ne.symm (by assumption)))
                      replace L := E.below_own L h7_L lS
                      replace R2 := Kd.R_grown1 R2 rfl lS (Kd.R_ne R2 b7 (by decide))
                      replace b7 := c7
                      clear c7
                      obtain ⟨gs2, A2, c2, hgs, b7, R2⟩ : ∃ (g' : List S64) (A' : Option Addr) (c' : Nat), Less g' M.gs ∧ wS.heap[g7]? = some (.cells #[.int .i64 M.fl, .int .i64 M.fh, .int .i64 M.al, .int .i64 M.ah, .int .i64 M.nl, .int .i64 M.nh, .int .i64 M.ra, .slice A' g'.length c', .int .i64 M.wr] 26 (0, 0)) ∧ Kd.R k64 64 wS w.heap.size (fun _ => True) (.slice A' g'.length c') g' := ⟨_, _, _, .inr ⟨i, by omega, rfl⟩, b7, R2⟩
                      refine E.GJ.done (by kernel_rfl) ?_
                      refine E.QG.code ?_
                      refine E.CG.seq ?_
                      refine E.CG.list ?_
                      refine E.GL.run rfl rfl rfl (E.Runs.fieldAddr rfl rfl hu26 rfl (by assumption) rfl) ?_
                      refine E.GL.run rfl rfl rfl (E.Runs.load rfl rfl hu3 (by first | assumption | exact E.blkc (by assumption) rfl | exact pw_cell_below L (by assumption))) ?_
                      refine E.GL.run rfl rfl rfl (E.Runs.fieldAddr rfl rfl hu60 rfl (by assumption) rfl) ?_
                      refine E.GL.run rfl rfl rfl (E.Runs.load rfl rfl hu3 (by first | assumption | exact E.blkc (by assumption) rfl | exact pw_cell_below L (by assumption))) ?_
                      refine E.GL.run rfl rfl rfl (E.Runs.add rfl rfl rfl (IntWalk.i64_in _ (by omega))) ?_
                      refine E.GL.run rfl rfl rfl (E.Runs.min rfl rfl rfl rfl) ?_
                      refine E.GL.run rfl rfl rfl (E.Runs.fieldAddr rfl rfl hu26 rfl (by assumption) rfl) ?_
                      refine E.GL.sn rfl rfl (E.ST.store rfl (by assumption) (by assumption) rfl rfl b7 rfl (show _ = #[.int .i64 M.fl, .int .i64 M.fh, .int .i64 M.al, .int .i64 M.ah, .int .i64 M.nl, .int .i64 M.nh, .int .i64 M.ra, .slice A2 gs2.length c2, .int .i64 (mn 3 (M.wr + xw))] from rfl) fun wS6_7 c7 lS6_7 => ?_)
                      replace b3 := blk_grown b3 lS6_7 (E.nes (by first | assumption | exact Ne.symm (by assumption)))
                      replace b4 := blk_grown b4 lS6_7 (E.nes (by first | assumption | exact Ne.symm (by assumption)))
                      replace R2 := Kd.R_grown1 R2 rfl lS6_7 (by first | assumption | exact Kd.R_ne R2 b7 (by decide))
                      replace L := E.below_own L h7_L lS6_7
                      replace b7 := c7
                      clear c7
                      have b7_ : wS6_7.heap[g7]? = some (.cells #[.int .i64 M.fl, .int .i64 M.fh, .int .i64 M.al, .int .i64 M.ah, .int .i64 M.nl, .int .i64 M.nh, .int .i64 M.ra, .slice A2 gs2.length c2, .int .i64 (mn 3 (M.wr + xw))] 26 (0, 0)) := b7
                      replace b7 := b7_
                      clear b7_
                      refine E.GL.done ?_
                      refine E.QG.code ?_
                      refine E.CG.seq ?_
                      refine E.CG.list ?_
                      refine E.GL.run rfl rfl rfl (E.Runs.fieldAddr rfl rfl hu26 rfl (by assumption) rfl) ?_
                      refine E.GL.run rfl rfl rfl (E.Runs.fieldAddr rfl rfl hu23 rfl (by assumption) rfl) ?_
                      refine E.GL.run rfl rfl rfl (E.Runs.load rfl rfl hu3 (by first | assumption | exact E.blkc (by assumption) rfl | exact pw_cell_below L (by assumption))) ?_
                      refine E.GL.run rfl rfl rfl (E.Runs.fieldAddr rfl rfl hu60 rfl (by assumption) rfl) ?_
                      refine E.GL.run rfl rfl rfl (E.Runs.load rfl rfl hu3 (by first | assumption | exact E.blkc (by assumption) rfl | exact pw_cell_below L (by assumption))) ?_
                      refine E.GL.run rfl rfl rfl (E.Runs.sub rfl rfl rfl (IntWalk.i64_in _ (by omega))) ?_
                      refine E.GL.run rfl rfl rfl (E.Runs.max rfl rfl rfl rfl) ?_
                      refine E.GL.run rfl rfl rfl (E.Runs.fieldAddr rfl rfl hu26 rfl (by assumption) rfl) ?_
                      refine E.GL.run rfl rfl rfl (E.Runs.fieldAddr rfl rfl hu23 rfl (by assumption) rfl) ?_
                      refine E.GL.run rfl rfl rfl (E.Runs.load rfl rfl hu3 (by first | assumption | exact E.blkc (by assumption) rfl | exact pw_cell_below L (by assumption))) ?_
                      refine E.GL.run rfl rfl rfl (E.Runs.fieldAddr rfl rfl hu60 rfl (by assumption) rfl) ?_
                      refine E.GL.run rfl rfl rfl (E.Runs.load rfl rfl hu3 (by first | assumption | exact E.blkc (by assumption) rfl | exact pw_cell_below L (by assumption))) ?_
                      refine E.GL.run rfl rfl rfl (E.Runs.add rfl rfl rfl (IntWalk.i64_in _ (by omega))) ?_
                      refine E.GL.run rfl rfl rfl (E.Runs.min rfl rfl rfl rfl) ?_
                      refine E.GL.run rfl rfl rfl (E.Runs.build rfl (E.epc rfl (E.epc rfl E.epn)) (build23 _ _)) ?_
                      refine E.GL.run rfl rfl rfl (E.Runs.fieldAddr rfl rfl hu26 rfl (by assumption) rfl) ?_
                      refine E.GL.sn rfl rfl (E.ST.storeS (off := 0) (cells := [.int .i64 (mx 0 (M.fl - xf)), .int .i64 (mn 400 (M.fh + xf))]) rfl rfl rfl b7 rfl info23s (two_one _ _) (show _ = [.int .i64 (mx 0 (M.fl - xf)), .int .i64 (mn 400 (M.fh + xf)), .int .i64 M.al, .int .i64 M.ah, .int .i64 M.nl, .int .i64 M.nh, .int .i64 M.ra, .slice A2 gs2.length c2, .int .i64 (mn 3 (M.wr + xw))] from rfl) fun wS7_16 c7 lS7_16 => ?_)
                      replace b3 := blk_grown b3 lS7_16 (E.nes (by first | assumption | exact Ne.symm (by assumption)))
                      replace b4 := blk_grown b4 lS7_16 (E.nes (by first | assumption | exact Ne.symm (by assumption)))
                      replace R2 := Kd.R_grown1 R2 rfl lS7_16 (by first | assumption | exact Kd.R_ne R2 b7 (by decide))
                      replace L := E.below_own L h7_L lS7_16
                      replace b7 := c7
                      clear c7
                      have b7_ : wS7_16.heap[g7]? = some (.cells #[.int .i64 (mx 0 (M.fl - xf)), .int .i64 (mn 400 (M.fh + xf)), .int .i64 M.al, .int .i64 M.ah, .int .i64 M.nl, .int .i64 M.nh, .int .i64 M.ra, .slice A2 gs2.length c2, .int .i64 (mn 3 (M.wr + xw))] 26 (0, 0)) := b7
                      replace b7 := b7_
                      clear b7_
                      refine E.GL.done ?_
                      refine E.QG.code ?_
                      refine E.CG.seq ?_
                      refine E.CG.list ?_
                      refine E.GL.run rfl rfl rfl (E.Runs.fieldAddr rfl rfl hu26 rfl (by assumption) rfl) ?_
                      refine E.GL.run rfl rfl rfl (E.Runs.fieldAddr rfl rfl hu23 rfl (by assumption) rfl) ?_
                      refine E.GL.run rfl rfl rfl (E.Runs.load rfl rfl hu3 (by first | assumption | exact E.blkc (by assumption) rfl | exact pw_cell_below L (by assumption))) ?_
                      refine E.GL.run rfl rfl rfl (E.Runs.fieldAddr rfl rfl hu60 rfl (by assumption) rfl) ?_
                      refine E.GL.run rfl rfl rfl (E.Runs.load rfl rfl hu3 (by first | assumption | exact E.blkc (by assumption) rfl | exact pw_cell_below L (by assumption))) ?_
                      refine E.GL.run rfl rfl rfl (E.Runs.sub rfl rfl rfl (IntWalk.i64_in _ (by omega))) ?_
                      refine E.GL.run rfl rfl rfl (E.Runs.max rfl rfl rfl rfl) ?_
                      refine E.GL.run rfl rfl rfl (E.Runs.fieldAddr rfl rfl hu26 rfl (by assumption) rfl) ?_
                      refine E.GL.run rfl rfl rfl (E.Runs.fieldAddr rfl rfl hu23 rfl (by assumption) rfl) ?_
                      refine E.GL.run rfl rfl rfl (E.Runs.load rfl rfl hu3 (by first | assumption | exact E.blkc (by assumption) rfl | exact pw_cell_below L (by assumption))) ?_
                      refine E.GL.run rfl rfl rfl (E.Runs.fieldAddr rfl rfl hu60 rfl (by assumption) rfl) ?_
                      refine E.GL.run rfl rfl rfl (E.Runs.load rfl rfl hu3 (by first | assumption | exact E.blkc (by assumption) rfl | exact pw_cell_below L (by assumption))) ?_
                      refine E.GL.run rfl rfl rfl (E.Runs.add rfl rfl rfl (IntWalk.i64_in _ (by omega))) ?_
                      refine E.GL.run rfl rfl rfl (E.Runs.min rfl rfl rfl rfl) ?_
                      refine E.GL.run rfl rfl rfl (E.Runs.build rfl (E.epc rfl (E.epc rfl E.epn)) (build23 _ _)) ?_
                      refine E.GL.run rfl rfl rfl (E.Runs.fieldAddr rfl rfl hu26 rfl (by assumption) rfl) ?_
                      refine E.GL.sn rfl rfl (E.ST.storeS (off := 2) (cells := [.int .i64 (mx 0 (M.al - xa)), .int .i64 (mn 9 (M.ah + xa))]) rfl rfl rfl b7 rfl info23s (two_one _ _) (show _ = [.int .i64 (mx 0 (M.fl - xf)), .int .i64 (mn 400 (M.fh + xf)), .int .i64 (mx 0 (M.al - xa)), .int .i64 (mn 9 (M.ah + xa)), .int .i64 M.nl, .int .i64 M.nh, .int .i64 M.ra, .slice A2 gs2.length c2, .int .i64 (mn 3 (M.wr + xw))] from rfl) fun wS8_16 c7 lS8_16 => ?_)
                      replace b3 := blk_grown b3 lS8_16 (E.nes (by first | assumption | exact Ne.symm (by assumption)))
                      replace b4 := blk_grown b4 lS8_16 (E.nes (by first | assumption | exact Ne.symm (by assumption)))
                      replace R2 := Kd.R_grown1 R2 rfl lS8_16 (by first | assumption | exact Kd.R_ne R2 b7 (by decide))
                      replace L := E.below_own L h7_L lS8_16
                      replace b7 := c7
                      clear c7
                      have b7_ : wS8_16.heap[g7]? = some (.cells #[.int .i64 (mx 0 (M.fl - xf)), .int .i64 (mn 400 (M.fh + xf)), .int .i64 (mx 0 (M.al - xa)), .int .i64 (mn 9 (M.ah + xa)), .int .i64 M.nl, .int .i64 M.nh, .int .i64 M.ra, .slice A2 gs2.length c2, .int .i64 (mn 3 (M.wr + xw))] 26 (0, 0)) := b7
                      replace b7 := b7_
                      clear b7_
                      refine E.GL.done ?_
                      refine E.QG.code ?_
                      refine E.CG.seq ?_
                      refine E.CG.seq ?_
                      refine E.CG.list ?_
                      refine E.GL.run rfl rfl rfl (E.Runs.loads (cs := [.int .i64 (mx 0 (M.fl - xf)), .int .i64 (mn 400 (M.fh + xf)), .int .i64 (mx 0 (M.al - xa)), .int .i64 (mn 9 (M.ah + xa)), .int .i64 M.nl, .int .i64 M.nh, .int .i64 M.ra, .slice A2 gs2.length c2, .int .i64 (mn 3 (M.wr + xw))]) rfl rfl hu26 rfl info26s (blk_cells b7)) ?_
                      by_cases h125 : ¬ far (loose M gs2 xw xf xa) ∧ LampOk (loose M gs2 xw xf xa)
                      · have hgO := ready_few h125.1
                        have hsub : ∀ x ∈ truths M, x ∈ truths (loose M gs2 xw xf xa) := fun x hx => loose_truths hV0 hgs (by omega) (by omega) (by omega) hx
                        obtain ⟨mm1, mm2⟩ := more_many hV0 h125.2 hsub
                        have hck : checkE M = 0 := checkE_yes hV0
                        have hck2 : checkE (loose M gs2 xw xf xa) = 0 := checkE_yes h125.2
                        refine E.GL.st rfl rfl rfl (E.ST.call rfl ent18 (E.evc rfl E.evn) ((ready_calls (loose M gs2 xw xf xa) A2 c2 _ true (iff_of_true rfl h125) ((Kd.R_reads' R2).2.2)).mono ?_))
                        rintro e w125 ⟨rfl, l125⟩
                        refine ⟨_, rfl, ?_⟩
                        replace b3 := blk_below b3 l125
                        replace b4 := blk_below b4 l125
                        replace b7 := blk_below b7 l125
                        replace R2 := Kd.R_below R2 l125
                        replace L := below_step L l125
                        refine E.GL.run rfl rfl rfl (E.Runs.not rfl rfl) ?_
                        refine E.GL.done ?_
                        refine E.QG.code ?_
                        refine E.CG.cond_f rfl ?_
                        refine E.CG.skip ?_
                        refine E.QG.code ?_
                        refine E.CG.seq ?_
                        refine E.CG.list ?_
                        refine E.GL.run rfl rfl rfl (E.Runs.loads (cs := [.int .i64 M.fl, .int .i64 M.fh, .int .i64 M.al, .int .i64 M.ah, .int .i64 M.nl, .int .i64 M.nh, .int .i64 M.ra, .slice A M.gs.length c, .int .i64 M.wr]) rfl rfl hu26 rfl info26s (blk_cells b3)) ?_
                        refine E.GL.st rfl rfl rfl (E.ST.call rfl ent33 (E.evc rfl E.evn) ((many_calls M A c _ (Kd.C_below hr L) hg6).mono ?_))
                        rintro e w130 ⟨rfl, l130⟩
                        refine ⟨_, rfl, ?_⟩
                        replace b3 := blk_below b3 l130
                        replace b4 := blk_below b4 l130
                        replace b7 := blk_below b7 l130
                        replace R2 := Kd.R_below R2 l130
                        replace L := below_step L l130
                        refine E.GL.run rfl rfl rfl (E.Runs.move rfl rfl) ?_
                        refine E.GL.run rfl rfl rfl (E.Runs.extract rfl rfl rfl) ?_
                        refine E.GL.run rfl rfl rfl (E.Runs.extract rfl rfl rfl) ?_
                        refine E.GL.run rfl rfl rfl (E.Runs.assign rfl rfl) ?_
                        refine E.GL.run rfl rfl rfl (E.Runs.assign rfl rfl) ?_
                        refine E.GL.done ?_
                        refine E.QG.code ?_
                        refine E.CG.seq ?_
                        refine E.CG.list ?_
                        refine E.GL.run rfl rfl rfl (E.Runs.loads (cs := [.int .i64 (mx 0 (M.fl - xf)), .int .i64 (mn 400 (M.fh + xf)), .int .i64 (mx 0 (M.al - xa)), .int .i64 (mn 9 (M.ah + xa)), .int .i64 M.nl, .int .i64 M.nh, .int .i64 M.ra, .slice A2 gs2.length c2, .int .i64 (mn 3 (M.wr + xw))]) rfl rfl hu26 rfl info26s (blk_cells b7)) ?_
                        refine E.GL.st rfl rfl rfl (E.ST.call rfl ent33 (E.evc rfl E.evn) ((many_calls (loose M gs2 xw xf xa) A2 c2 _ ((Kd.R_reads' R2).2.2) hgO).mono ?_))
                        rintro e w135 ⟨rfl, l135⟩
                        refine ⟨_, rfl, ?_⟩
                        replace b3 := blk_below b3 l135
                        replace b4 := blk_below b4 l135
                        replace b7 := blk_below b7 l135
                        replace R2 := Kd.R_below R2 l135
                        replace L := below_step L l135
                        refine E.GL.run rfl rfl rfl (E.Runs.move rfl rfl) ?_
                        refine E.GL.run rfl rfl rfl (E.Runs.extract rfl rfl rfl) ?_
                        refine E.GL.run rfl rfl rfl (E.Runs.extract rfl rfl rfl) ?_
                        refine E.GL.run rfl rfl rfl (E.Runs.assign rfl rfl) ?_
                        refine E.GL.run rfl rfl rfl (E.Runs.assign rfl rfl) ?_
                        refine E.GL.done ?_
                        refine E.QG.code ?_
                        refine E.CG.seq ?_
                        refine E.CG.seq ?_
                        refine E.CG.list ?_
                        refine E.GL.run rfl rfl rfl (E.Runs.move rfl rfl) ?_
                        refine E.GL.run rfl rfl rfl (E.Runs.neq rfl rfl rfl (E.ne_f hck)) ?_
                        refine E.GL.run rfl rfl rfl (E.Runs.move rfl rfl) ?_
                        refine E.GL.run rfl rfl rfl (E.Runs.move rfl rfl) ?_
                        refine E.GL.run rfl rfl rfl (E.Runs.neq rfl rfl rfl (E.ne_f hck2)) ?_
                        refine E.GL.run rfl rfl rfl (E.Runs.pick_f rfl rfl rfl) ?_
                        refine E.GL.run rfl rfl rfl (E.Runs.move rfl rfl) ?_
                        refine E.GL.run rfl rfl rfl (E.Runs.move rfl rfl) ?_
                        refine E.GL.run rfl rfl rfl (E.Runs.lss rfl rfl rfl (decide_eq_false (by omega))) ?_
                        refine E.GL.run rfl rfl rfl (E.Runs.pick_f rfl rfl rfl) ?_
                        refine E.GL.run rfl rfl rfl (E.Runs.move rfl rfl) ?_
                        refine E.GL.run rfl rfl rfl (E.Runs.move rfl rfl) ?_
                        refine E.GL.run rfl rfl rfl (E.Runs.move rfl rfl) ?_
                        refine E.GL.run rfl rfl rfl (E.Runs.lss rfl rfl rfl (decide_eq_false (by omega))) ?_
                        refine E.GL.run rfl rfl rfl (E.Runs.pick_f rfl rfl rfl) ?_
                        refine E.GL.done ?_
                        refine E.QG.code ?_
                        refine E.CG.cond_f rfl ?_
                        refine E.CG.skip ?_
                        refine E.QG.code ?_
                        refine E.CG.seq ?_
                        refine E.CG.seq ?_
                        refine E.CG.list ?_
                        refine E.GL.run rfl rfl rfl (E.Runs.move rfl rfl) ?_
                        refine E.GL.cmp rfl rfl rfl (fun _ h => (E.Runs.eql rfl rfl rfl h)) (fun h154 => ?_) (fun h154 => ?_)
                        · refine E.GL.done ?_
                          refine E.QG.code ?_
                          refine E.CG.cond_t rfl ?_
                          refine E.CG.seq ?_
                          refine E.CG.list ?_
                          refine E.GL.st rfl rfl rfl (E.ST.call rfl ent13 E.evn ((works_calls _).mono ?_))
                          rintro e w155 ⟨rfl, l155⟩
                          refine ⟨_, rfl, ?_⟩
                          replace b3 := blk_below b3 l155
                          replace b4 := blk_below b4 l155
                          replace b7 := blk_below b7 l155
                          replace R2 := Kd.R_below R2 l155
                          replace L := below_step L l155
                          refine E.GL.run rfl rfl rfl (E.Runs.assign rfl rfl) ?_
                          refine E.GL.done ?_
                          refine E.QG.code ?_
                          refine E.CG.ret ?_
                          refine E.QG.pass_ret ?_
                          exact E.QG.result rfl rfl ⟨rfl, L⟩
                        · obtain ⟨me1, me2, me3, me4, me5⟩ := more_plain h25 hV0 h125.2 hsub rfl rfl h154
                          refine E.GL.done ?_
                          refine E.QG.code ?_
                          refine E.CG.cond_f rfl ?_
                          refine E.CG.skip ?_
                          refine E.QG.code ?_
                          refine E.CG.seq ?_
                          refine E.CG.list ?_
                          refine E.GL.run rfl rfl rfl (E.Runs.loads (cs := [.int .i64 M.fl, .int .i64 M.fh, .int .i64 M.al, .int .i64 M.ah, .int .i64 M.nl, .int .i64 M.nh, .int .i64 M.ra, .slice A M.gs.length c, .int .i64 M.wr]) rfl rfl hu26 rfl info26s (blk_cells b3)) ?_
                          refine E.GL.run rfl rfl rfl (E.Runs.move rfl rfl) ?_
                          refine E.GL.st rfl rfl rfl (E.ST.call rfl ent20 (E.evc rfl (E.evc rfl E.evn)) ((at_calls M A c h _ (Kd.C_below hr L) hg6).mono ?_))
                          rintro e w159 ⟨rfl, l159⟩
                          refine ⟨_, rfl, ?_⟩
                          replace b3 := blk_below b3 l159
                          replace b4 := blk_below b4 l159
                          replace b7 := blk_below b7 l159
                          replace R2 := Kd.R_below R2 l159
                          replace L := below_step L l159
                          refine E.GL.run rfl rfl rfl (E.Runs.move rfl rfl) ?_
                          refine E.GL.run rfl rfl rfl (E.Runs.extract rfl rfl rfl) ?_
                          refine E.GL.run rfl rfl rfl (E.Runs.extract rfl rfl rfl) ?_
                          refine E.GL.st rfl rfl rfl (E.ST.alloc rfl info23z fun g12 w12 e12 b12 l12 => ?_)
                          have h12_L : w.heap.size ≤ g12 := by rw [e12]; exact L.size
                          have n12_b3 : g3 ≠ g12 := by have := blk_lt b3; omega
                          have n12_b4 : g4 ≠ g12 := by have := blk_lt b4; omega
                          have n12_b7 : g7 ≠ g12 := by have := blk_lt b7; omega
                          have n12_R2 : some g12 ≠ ((Value.slice A2 gs2.length c2)).ownBlock := fun h => by have := Kd.R_lt R2 _ h.symm; omega
                          replace b3 := blk_below b3 l12
                          replace b4 := blk_below b4 l12
                          replace b7 := blk_below b7 l12
                          replace R2 := Kd.R_below R2 l12
                          replace L := below_step L l12
                          refine E.GL.store_whole rfl rfl rfl rfl rfl b12 rfl info23s (two_one _ _) fun wS17_7 c12 lS17_7 => ?_
                          replace b3 := blk_grown b3 lS17_7 (E.nes (by first | assumption | exact Ne.symm (by assumption)))
                          replace b4 := blk_grown b4 lS17_7 (E.nes (by first | assumption | exact Ne.symm (by assumption)))
                          replace b7 := blk_grown b7 lS17_7 (E.nes (by first | assumption | exact Ne.symm (by assumption)))
                          replace R2 := Kd.R_grown1 R2 rfl lS17_7 (by first | assumption | exact Kd.R_ne R2 b12 (by decide))
                          replace L := E.below_own L h12_L lS17_7
                          replace b12 := c12
                          clear c12
                          refine E.GL.run rfl rfl rfl (E.Runs.assign rfl rfl) ?_
                          refine E.GL.done ?_
                          refine E.QG.code ?_
                          refine E.CG.seq ?_
                          refine E.CG.list ?_
                          refine E.GL.run rfl rfl rfl (E.Runs.loads (cs := [.int .i64 (mx 0 (M.fl - xf)), .int .i64 (mn 400 (M.fh + xf)), .int .i64 (mx 0 (M.al - xa)), .int .i64 (mn 9 (M.ah + xa)), .int .i64 M.nl, .int .i64 M.nh, .int .i64 M.ra, .slice A2 gs2.length c2, .int .i64 (mn 3 (M.wr + xw))]) rfl rfl hu26 rfl info26s (blk_cells b7)) ?_
                          refine E.GL.run rfl rfl rfl (E.Runs.move rfl rfl) ?_
                          refine E.GL.st rfl rfl rfl (E.ST.call rfl ent20 (E.evc rfl (E.evc rfl E.evn)) ((at_calls (loose M gs2 xw xf xa) A2 c2 h _ ((Kd.R_reads' R2).2.2) hgO).mono ?_))
                          rintro e w165 ⟨rfl, l165⟩
                          refine ⟨_, rfl, ?_⟩
                          replace b3 := blk_below b3 l165
                          replace b4 := blk_below b4 l165
                          replace b7 := blk_below b7 l165
                          replace b12 := blk_below b12 l165
                          replace R2 := Kd.R_below R2 l165
                          replace L := below_step L l165
                          refine E.GL.run rfl rfl rfl (E.Runs.move rfl rfl) ?_
                          refine E.GL.run rfl rfl rfl (E.Runs.extract rfl rfl rfl) ?_
                          refine E.GL.run rfl rfl rfl (E.Runs.extract rfl rfl rfl) ?_
                          refine E.GL.st rfl rfl rfl (E.ST.alloc rfl info23z fun g14 w14 e14 b14 l14 => ?_)
                          have h14_L : w.heap.size ≤ g14 := by rw [e14]; exact L.size
                          have n14_b3 : g3 ≠ g14 := by have := blk_lt b3; omega
                          have n14_b4 : g4 ≠ g14 := by have := blk_lt b4; omega
                          have n14_b7 : g7 ≠ g14 := by have := blk_lt b7; omega
                          have n14_b12 : g12 ≠ g14 := by have := blk_lt b12; omega
                          have n14_R2 : some g14 ≠ ((Value.slice A2 gs2.length c2)).ownBlock := fun h => by have := Kd.R_lt R2 _ h.symm; omega
                          replace b3 := blk_below b3 l14
                          replace b4 := blk_below b4 l14
                          replace b7 := blk_below b7 l14
                          replace b12 := blk_below b12 l14
                          replace R2 := Kd.R_below R2 l14
                          replace L := below_step L l14
                          refine E.GL.store_whole rfl rfl rfl rfl rfl b14 rfl info23s (two_one _ _) fun wS18_7 c14 lS18_7 => ?_
                          replace b3 := blk_grown b3 lS18_7 (E.nes (by first | assumption | exact Ne.symm (by assumption)))
                          replace b4 := blk_grown b4 lS18_7 (E.nes (by first | assumption | exact Ne.symm (by assumption)))
                          replace b7 := blk_grown b7 lS18_7 (E.nes (by first | assumption | exact Ne.symm (by assumption)))
                          replace b12 := blk_grown b12 lS18_7 (E.nes (by first | assumption | exact Ne.symm (by assumption)))
                          replace R2 := Kd.R_grown1 R2 rfl lS18_7 (by first | assumption | exact Kd.R_ne R2 b14 (by decide))
                          replace L := E.below_own L h14_L lS18_7
                          replace b14 := c14
                          clear c14
                          refine E.GL.run rfl rfl rfl (E.Runs.assign rfl rfl) ?_
                          refine E.GL.done ?_
                          refine E.QG.code ?_
                          refine E.CG.seq ?_
                          refine E.CG.list ?_
                          refine E.GL.run rfl rfl rfl (E.Runs.loads (cs := [.int .i64 M.fl, .int .i64 M.fh, .int .i64 M.al, .int .i64 M.ah, .int .i64 M.nl, .int .i64 M.nh, .int .i64 M.ra, .slice A M.gs.length c, .int .i64 M.wr]) rfl rfl hu26 rfl info26s (blk_cells b3)) ?_
                          refine E.GL.run rfl rfl rfl (E.Runs.move rfl rfl) ?_
                          refine E.GL.st rfl rfl rfl (E.ST.call rfl ent27 (E.evc rfl (E.evc rfl E.evn)) ((keeps_calls M A c h _ (Kd.C_below hr L) hg6).mono ?_))
                          rintro e w171 ⟨rfl, l171⟩
                          refine ⟨_, rfl, ?_⟩
                          replace b3 := blk_below b3 l171
                          replace b4 := blk_below b4 l171
                          replace b7 := blk_below b7 l171
                          replace b12 := blk_below b12 l171
                          replace b14 := blk_below b14 l171
                          replace R2 := Kd.R_below R2 l171
                          replace L := below_step L l171
                          refine E.GL.run rfl rfl rfl (E.Runs.move rfl rfl) ?_
                          refine E.GL.run rfl rfl rfl (E.Runs.extract rfl rfl rfl) ?_
                          refine E.GL.run rfl rfl rfl (E.Runs.extract rfl rfl rfl) ?_
                          refine E.GL.run rfl rfl rfl (E.Runs.assign rfl rfl) ?_
                          refine E.GL.run rfl rfl rfl (E.Runs.assign rfl rfl) ?_
                          refine E.GL.done ?_
                          refine E.QG.code ?_
                          refine E.CG.seq ?_
                          refine E.CG.list ?_
                          refine E.GL.run rfl rfl rfl (E.Runs.loads (cs := [.int .i64 (mx 0 (M.fl - xf)), .int .i64 (mn 400 (M.fh + xf)), .int .i64 (mx 0 (M.al - xa)), .int .i64 (mn 9 (M.ah + xa)), .int .i64 M.nl, .int .i64 M.nh, .int .i64 M.ra, .slice A2 gs2.length c2, .int .i64 (mn 3 (M.wr + xw))]) rfl rfl hu26 rfl info26s (blk_cells b7)) ?_
                          refine E.GL.run rfl rfl rfl (E.Runs.move rfl rfl) ?_
                          refine E.GL.st rfl rfl rfl (E.ST.call rfl ent27 (E.evc rfl (E.evc rfl E.evn)) ((keeps_calls (loose M gs2 xw xf xa) A2 c2 h _ ((Kd.R_reads' R2).2.2) hgO).mono ?_))
                          rintro e w177 ⟨rfl, l177⟩
                          refine ⟨_, rfl, ?_⟩
                          replace b3 := blk_below b3 l177
                          replace b4 := blk_below b4 l177
                          replace b7 := blk_below b7 l177
                          replace b12 := blk_below b12 l177
                          replace b14 := blk_below b14 l177
                          replace R2 := Kd.R_below R2 l177
                          replace L := below_step L l177
                          refine E.GL.run rfl rfl rfl (E.Runs.move rfl rfl) ?_
                          refine E.GL.run rfl rfl rfl (E.Runs.extract rfl rfl rfl) ?_
                          refine E.GL.run rfl rfl rfl (E.Runs.extract rfl rfl rfl) ?_
                          refine E.GL.run rfl rfl rfl (E.Runs.assign rfl rfl) ?_
                          refine E.GL.run rfl rfl rfl (E.Runs.assign rfl rfl) ?_
                          refine E.GL.done ?_
                          refine E.QG.code ?_
                          refine E.CG.seq ?_
                          refine E.CG.list ?_
                          refine E.GL.run rfl rfl rfl (E.Runs.move rfl rfl) ?_
                          refine E.GL.run rfl rfl rfl (E.Runs.eql rfl rfl rfl (decide_eq_true me1)) ?_
                          refine E.GL.run rfl rfl rfl (E.Runs.move rfl rfl) ?_
                          refine E.GL.run rfl rfl rfl (E.Runs.move rfl rfl) ?_
                          refine E.GL.run rfl rfl rfl (E.Runs.eql rfl rfl rfl (decide_eq_true me2)) ?_
                          refine E.GL.run rfl rfl rfl (E.Runs.pick_t rfl rfl rfl) ?_
                          refine E.GL.run rfl rfl rfl (E.Runs.move rfl rfl) ?_
                          refine E.GL.run rfl rfl rfl (E.Runs.move rfl rfl) ?_
                          refine E.GL.run rfl rfl rfl (E.Runs.eql rfl rfl rfl (decide_eq_true me1)) ?_
                          refine E.GL.run rfl rfl rfl (E.Runs.pick_t rfl rfl rfl) ?_
                          refine E.GL.run rfl rfl rfl (E.Runs.move rfl rfl) ?_
                          refine E.GL.run rfl rfl rfl (E.Runs.move rfl rfl) ?_
                          refine E.GL.run rfl rfl rfl (E.Runs.eql rfl rfl rfl (decide_eq_true me2)) ?_
                          refine E.GL.run rfl rfl rfl (E.Runs.pick_t rfl rfl rfl) ?_
                          refine E.GL.run rfl rfl rfl (E.Runs.move rfl rfl) ?_
                          refine E.GL.run rfl rfl rfl (E.Runs.fieldAddr rfl rfl hu23 rfl (by assumption) rfl) ?_
                          refine E.GL.run rfl rfl rfl (E.Runs.load rfl rfl hu3 (by first | assumption | exact E.blkc (by assumption) rfl | exact pw_cell_below L (by assumption))) ?_
                          refine E.GL.run rfl rfl rfl (E.Runs.fieldAddr rfl rfl hu23 rfl (by assumption) rfl) ?_
                          refine E.GL.run rfl rfl rfl (E.Runs.load rfl rfl hu3 (by first | assumption | exact E.blkc (by assumption) rfl | exact pw_cell_below L (by assumption))) ?_
                          refine E.GL.run rfl rfl rfl (E.Runs.leq rfl rfl rfl (decide_eq_true (by omega))) ?_
                          refine E.GL.run rfl rfl rfl (E.Runs.pick_t rfl rfl rfl) ?_
                          refine E.GL.run rfl rfl rfl (E.Runs.move rfl rfl) ?_
                          refine E.GL.run rfl rfl rfl (E.Runs.fieldAddr rfl rfl hu23 rfl (by assumption) rfl) ?_
                          refine E.GL.run rfl rfl rfl (E.Runs.load rfl rfl hu3 (by first | assumption | exact E.blkc (by assumption) rfl | exact pw_cell_below L (by assumption))) ?_
                          refine E.GL.run rfl rfl rfl (E.Runs.fieldAddr rfl rfl hu23 rfl (by assumption) rfl) ?_
                          refine E.GL.run rfl rfl rfl (E.Runs.load rfl rfl hu3 (by first | assumption | exact E.blkc (by assumption) rfl | exact pw_cell_below L (by assumption))) ?_
                          refine E.GL.run rfl rfl rfl (E.Runs.leq rfl rfl rfl (decide_eq_true (by omega))) ?_
                          refine E.GL.run rfl rfl rfl (E.Runs.pick_t rfl rfl rfl) ?_
                          refine E.GL.run rfl rfl rfl (E.Runs.move rfl rfl) ?_
                          refine E.GL.run rfl rfl rfl (E.Runs.move rfl rfl) ?_
                          refine E.GL.run rfl rfl rfl (E.Runs.move rfl rfl) ?_
                          refine E.GL.cmp rfl rfl rfl (fun _ h => (E.Runs.eql rfl rfl rfl h)) (fun h211 => ?_) (fun h211 => ?_)
                          · refine E.GL.run rfl rfl rfl (E.Runs.move rfl rfl) ?_
                            refine E.GL.skip rfl rfl rfl ?_
                            refine E.GL.skip rfl rfl rfl ?_
                            refine E.GL.run rfl rfl rfl (E.Runs.pick_t rfl rfl rfl) ?_
                            refine E.GL.run rfl rfl rfl (E.Runs.pick_t rfl rfl rfl) ?_
                            refine E.GL.run rfl rfl rfl (E.Runs.move rfl rfl) ?_
                            refine E.GL.st rfl rfl rfl (E.ST.call rfl ent13 E.evn ((works_calls _).mono ?_))
                            rintro e w218 ⟨rfl, l218⟩
                            refine ⟨_, rfl, ?_⟩
                            replace b3 := blk_below b3 l218
                            replace b4 := blk_below b4 l218
                            replace b7 := blk_below b7 l218
                            replace b12 := blk_below b12 l218
                            replace b14 := blk_below b14 l218
                            replace R2 := Kd.R_below R2 l218
                            replace L := below_step L l218
                            refine E.GL.run rfl rfl rfl (E.Runs.pick_t rfl rfl rfl) ?_
                            refine E.GL.run rfl rfl rfl (E.Runs.assign rfl rfl) ?_
                            refine E.GL.done ?_
                            refine E.QG.code ?_
                            refine E.CG.ret ?_
                            exact E.QG.result rfl rfl ⟨rfl, L⟩
                          · refine E.GL.run rfl rfl rfl (E.Runs.move rfl rfl) ?_
                            refine E.GL.run rfl rfl rfl (E.Runs.move rfl rfl) ?_
                            refine E.GL.run rfl rfl rfl (E.Runs.eql rfl rfl rfl (decide_eq_true (me5 h211))) ?_
                            refine E.GL.run rfl rfl rfl (E.Runs.pick_f rfl rfl rfl) ?_
                            refine E.GL.run rfl rfl rfl (E.Runs.pick_t rfl rfl rfl) ?_
                            refine E.GL.run rfl rfl rfl (E.Runs.move rfl rfl) ?_
                            refine E.GL.st rfl rfl rfl (E.ST.call rfl ent13 E.evn ((works_calls _).mono ?_))
                            rintro e w218 ⟨rfl, l218⟩
                            refine ⟨_, rfl, ?_⟩
                            replace b3 := blk_below b3 l218
                            replace b4 := blk_below b4 l218
                            replace b7 := blk_below b7 l218
                            replace b12 := blk_below b12 l218
                            replace b14 := blk_below b14 l218
                            replace R2 := Kd.R_below R2 l218
                            replace L := below_step L l218
                            refine E.GL.run rfl rfl rfl (E.Runs.pick_t rfl rfl rfl) ?_
                            refine E.GL.run rfl rfl rfl (E.Runs.assign rfl rfl) ?_
                            refine E.GL.done ?_
                            refine E.QG.code ?_
                            refine E.CG.ret ?_
                            exact E.QG.result rfl rfl ⟨rfl, L⟩
                      · refine E.GL.st rfl rfl rfl (E.ST.call rfl ent18 (E.evc rfl E.evn) ((ready_calls (loose M gs2 xw xf xa) A2 c2 _ false (iff_of_false Bool.false_ne_true h125) ((Kd.R_reads' R2).2.2)).mono ?_))
                        rintro e w125 ⟨rfl, l125⟩
                        refine ⟨_, rfl, ?_⟩
                        replace b3 := blk_below b3 l125
                        replace b4 := blk_below b4 l125
                        replace b7 := blk_below b7 l125
                        replace R2 := Kd.R_below R2 l125
                        replace L := below_step L l125
                        refine E.GL.run rfl rfl rfl (E.Runs.not rfl rfl) ?_
                        refine E.GL.done ?_
                        refine E.QG.code ?_
                        refine E.CG.cond_t rfl ?_
                        refine E.CG.seq ?_
                        refine E.CG.list ?_
                        refine E.GL.st rfl rfl rfl (E.ST.call rfl ent13 E.evn ((works_calls _).mono ?_))
                        rintro e w127 ⟨rfl, l127⟩
                        refine ⟨_, rfl, ?_⟩
                        replace b3 := blk_below b3 l127
                        replace b4 := blk_below b4 l127
                        replace b7 := blk_below b7 l127
                        replace R2 := Kd.R_below R2 l127
                        replace L := below_step L l127
                        refine E.GL.run rfl rfl rfl (E.Runs.assign rfl rfl) ?_
                        refine E.GL.done ?_
                        refine E.QG.code ?_
                        refine E.CG.ret ?_
                        refine E.QG.pass_ret ?_
                        exact E.QG.result rfl rfl ⟨rfl, L⟩
                    · have hgs : Less gs2 M.gs := .inl hgs2
                      refine E.GL.run rfl rfl rfl (E.Runs.pick_t rfl rfl rfl) ?_
                      refine E.GL.done ?_
                      refine E.QG.code ?_
                      refine E.CG.cond_f rfl ?_
                      refine E.CG.skip ?_
                      refine E.QG.code ?_
                      refine E.CG.seq ?_
                      refine E.CG.list ?_
                      refine E.GL.run rfl rfl rfl (E.Runs.fieldAddr rfl rfl hu26 rfl (by assumption) rfl) ?_
                      refine E.GL.run rfl rfl rfl (E.Runs.load rfl rfl hu3 (by first | assumption | exact E.blkc (by assumption) rfl | exact pw_cell_below L (by assumption))) ?_
                      refine E.GL.run rfl rfl rfl (E.Runs.fieldAddr rfl rfl hu60 rfl (by assumption) rfl) ?_
                      refine E.GL.run rfl rfl rfl (E.Runs.load rfl rfl hu3 (by first | assumption | exact E.blkc (by assumption) rfl | exact pw_cell_below L (by assumption))) ?_
                      refine E.GL.run rfl rfl rfl (E.Runs.add rfl rfl rfl (IntWalk.i64_in _ (by omega))) ?_
                      refine E.GL.run rfl rfl rfl (E.Runs.min rfl rfl rfl rfl) ?_
                      refine E.GL.run rfl rfl rfl (E.Runs.fieldAddr rfl rfl hu26 rfl (by assumption) rfl) ?_
                      refine E.GL.sn rfl rfl (E.ST.store rfl (by assumption) (by assumption) rfl rfl b7 rfl (show _ = #[.int .i64 M.fl, .int .i64 M.fh, .int .i64 M.al, .int .i64 M.ah, .int .i64 M.nl, .int .i64 M.nh, .int .i64 M.ra, .slice A2 gs2.length c2, .int .i64 (mn 3 (M.wr + xw))] from rfl) fun wS6_7 c7 lS6_7 => ?_)
                      replace b3 := blk_grown b3 lS6_7 (E.nes (by first | assumption | exact Ne.symm (by assumption)))
                      replace b4 := blk_grown b4 lS6_7 (E.nes (by first | assumption | exact Ne.symm (by assumption)))
                      replace R2 := Kd.R_grown1 R2 rfl lS6_7 (by first | assumption | exact Kd.R_ne R2 b7 (by decide))
                      replace L := E.below_own L h7_L lS6_7
                      replace b7 := c7
                      clear c7
                      have b7_ : wS6_7.heap[g7]? = some (.cells #[.int .i64 M.fl, .int .i64 M.fh, .int .i64 M.al, .int .i64 M.ah, .int .i64 M.nl, .int .i64 M.nh, .int .i64 M.ra, .slice A2 gs2.length c2, .int .i64 (mn 3 (M.wr + xw))] 26 (0, 0)) := b7
                      replace b7 := b7_
                      clear b7_
                      refine E.GL.done ?_
                      refine E.QG.code ?_
                      refine E.CG.seq ?_
                      refine E.CG.list ?_
                      refine E.GL.run rfl rfl rfl (E.Runs.fieldAddr rfl rfl hu26 rfl (by assumption) rfl) ?_
                      refine E.GL.run rfl rfl rfl (E.Runs.fieldAddr rfl rfl hu23 rfl (by assumption) rfl) ?_
                      refine E.GL.run rfl rfl rfl (E.Runs.load rfl rfl hu3 (by first | assumption | exact E.blkc (by assumption) rfl | exact pw_cell_below L (by assumption))) ?_
                      refine E.GL.run rfl rfl rfl (E.Runs.fieldAddr rfl rfl hu60 rfl (by assumption) rfl) ?_
                      refine E.GL.run rfl rfl rfl (E.Runs.load rfl rfl hu3 (by first | assumption | exact E.blkc (by assumption) rfl | exact pw_cell_below L (by assumption))) ?_
                      refine E.GL.run rfl rfl rfl (E.Runs.sub rfl rfl rfl (IntWalk.i64_in _ (by omega))) ?_
                      refine E.GL.run rfl rfl rfl (E.Runs.max rfl rfl rfl rfl) ?_
                      refine E.GL.run rfl rfl rfl (E.Runs.fieldAddr rfl rfl hu26 rfl (by assumption) rfl) ?_
                      refine E.GL.run rfl rfl rfl (E.Runs.fieldAddr rfl rfl hu23 rfl (by assumption) rfl) ?_
                      refine E.GL.run rfl rfl rfl (E.Runs.load rfl rfl hu3 (by first | assumption | exact E.blkc (by assumption) rfl | exact pw_cell_below L (by assumption))) ?_
                      refine E.GL.run rfl rfl rfl (E.Runs.fieldAddr rfl rfl hu60 rfl (by assumption) rfl) ?_
                      refine E.GL.run rfl rfl rfl (E.Runs.load rfl rfl hu3 (by first | assumption | exact E.blkc (by assumption) rfl | exact pw_cell_below L (by assumption))) ?_
                      refine E.GL.run rfl rfl rfl (E.Runs.add rfl rfl rfl (IntWalk.i64_in _ (by omega))) ?_
                      refine E.GL.run rfl rfl rfl (E.Runs.min rfl rfl rfl rfl) ?_
                      refine E.GL.run rfl rfl rfl (E.Runs.build rfl (E.epc rfl (E.epc rfl E.epn)) (build23 _ _)) ?_
                      refine E.GL.run rfl rfl rfl (E.Runs.fieldAddr rfl rfl hu26 rfl (by assumption) rfl) ?_
                      refine E.GL.sn rfl rfl (E.ST.storeS (off := 0) (cells := [.int .i64 (mx 0 (M.fl - xf)), .int .i64 (mn 400 (M.fh + xf))]) rfl rfl rfl b7 rfl info23s (two_one _ _) (show _ = [.int .i64 (mx 0 (M.fl - xf)), .int .i64 (mn 400 (M.fh + xf)), .int .i64 M.al, .int .i64 M.ah, .int .i64 M.nl, .int .i64 M.nh, .int .i64 M.ra, .slice A2 gs2.length c2, .int .i64 (mn 3 (M.wr + xw))] from rfl) fun wS7_16 c7 lS7_16 => ?_)
                      replace b3 := blk_grown b3 lS7_16 (E.nes (by first | assumption | exact Ne.symm (by assumption)))
                      replace b4 := blk_grown b4 lS7_16 (E.nes (by first | assumption | exact Ne.symm (by assumption)))
                      replace R2 := Kd.R_grown1 R2 rfl lS7_16 (by first | assumption | exact Kd.R_ne R2 b7 (by decide))
                      replace L := E.below_own L h7_L lS7_16
                      replace b7 := c7
                      clear c7
                      have b7_ : wS7_16.heap[g7]? = some (.cells #[.int .i64 (mx 0 (M.fl - xf)), .int .i64 (mn 400 (M.fh + xf)), .int .i64 M.al, .int .i64 M.ah, .int .i64 M.nl, .int .i64 M.nh, .int .i64 M.ra, .slice A2 gs2.length c2, .int .i64 (mn 3 (M.wr + xw))] 26 (0, 0)) := b7
                      replace b7 := b7_
                      clear b7_
                      refine E.GL.done ?_
                      refine E.QG.code ?_
                      refine E.CG.seq ?_
                      refine E.CG.list ?_
                      refine E.GL.run rfl rfl rfl (E.Runs.fieldAddr rfl rfl hu26 rfl (by assumption) rfl) ?_
                      refine E.GL.run rfl rfl rfl (E.Runs.fieldAddr rfl rfl hu23 rfl (by assumption) rfl) ?_
                      refine E.GL.run rfl rfl rfl (E.Runs.load rfl rfl hu3 (by first | assumption | exact E.blkc (by assumption) rfl | exact pw_cell_below L (by assumption))) ?_
                      refine E.GL.run rfl rfl rfl (E.Runs.fieldAddr rfl rfl hu60 rfl (by assumption) rfl) ?_
                      refine E.GL.run rfl rfl rfl (E.Runs.load rfl rfl hu3 (by first | assumption | exact E.blkc (by assumption) rfl | exact pw_cell_below L (by assumption))) ?_
                      refine E.GL.run rfl rfl rfl (E.Runs.sub rfl rfl rfl (IntWalk.i64_in _ (by omega))) ?_
                      refine E.GL.run rfl rfl rfl (E.Runs.max rfl rfl rfl rfl) ?_
                      refine E.GL.run rfl rfl rfl (E.Runs.fieldAddr rfl rfl hu26 rfl (by assumption) rfl) ?_
                      refine E.GL.run rfl rfl rfl (E.Runs.fieldAddr rfl rfl hu23 rfl (by assumption) rfl) ?_
                      refine E.GL.run rfl rfl rfl (E.Runs.load rfl rfl hu3 (by first | assumption | exact E.blkc (by assumption) rfl | exact pw_cell_below L (by assumption))) ?_
                      refine E.GL.run rfl rfl rfl (E.Runs.fieldAddr rfl rfl hu60 rfl (by assumption) rfl) ?_
                      refine E.GL.run rfl rfl rfl (E.Runs.load rfl rfl hu3 (by first | assumption | exact E.blkc (by assumption) rfl | exact pw_cell_below L (by assumption))) ?_
                      refine E.GL.run rfl rfl rfl (E.Runs.add rfl rfl rfl (IntWalk.i64_in _ (by omega))) ?_
                      refine E.GL.run rfl rfl rfl (E.Runs.min rfl rfl rfl rfl) ?_
                      refine E.GL.run rfl rfl rfl (E.Runs.build rfl (E.epc rfl (E.epc rfl E.epn)) (build23 _ _)) ?_
                      refine E.GL.run rfl rfl rfl (E.Runs.fieldAddr rfl rfl hu26 rfl (by assumption) rfl) ?_
                      refine E.GL.sn rfl rfl (E.ST.storeS (off := 2) (cells := [.int .i64 (mx 0 (M.al - xa)), .int .i64 (mn 9 (M.ah + xa))]) rfl rfl rfl b7 rfl info23s (two_one _ _) (show _ = [.int .i64 (mx 0 (M.fl - xf)), .int .i64 (mn 400 (M.fh + xf)), .int .i64 (mx 0 (M.al - xa)), .int .i64 (mn 9 (M.ah + xa)), .int .i64 M.nl, .int .i64 M.nh, .int .i64 M.ra, .slice A2 gs2.length c2, .int .i64 (mn 3 (M.wr + xw))] from rfl) fun wS8_16 c7 lS8_16 => ?_)
                      replace b3 := blk_grown b3 lS8_16 (E.nes (by first | assumption | exact Ne.symm (by assumption)))
                      replace b4 := blk_grown b4 lS8_16 (E.nes (by first | assumption | exact Ne.symm (by assumption)))
                      replace R2 := Kd.R_grown1 R2 rfl lS8_16 (by first | assumption | exact Kd.R_ne R2 b7 (by decide))
                      replace L := E.below_own L h7_L lS8_16
                      replace b7 := c7
                      clear c7
                      have b7_ : wS8_16.heap[g7]? = some (.cells #[.int .i64 (mx 0 (M.fl - xf)), .int .i64 (mn 400 (M.fh + xf)), .int .i64 (mx 0 (M.al - xa)), .int .i64 (mn 9 (M.ah + xa)), .int .i64 M.nl, .int .i64 M.nh, .int .i64 M.ra, .slice A2 gs2.length c2, .int .i64 (mn 3 (M.wr + xw))] 26 (0, 0)) := b7
                      replace b7 := b7_
                      clear b7_
                      refine E.GL.done ?_
                      refine E.QG.code ?_
                      refine E.CG.seq ?_
                      refine E.CG.seq ?_
                      refine E.CG.list ?_
                      refine E.GL.run rfl rfl rfl (E.Runs.loads (cs := [.int .i64 (mx 0 (M.fl - xf)), .int .i64 (mn 400 (M.fh + xf)), .int .i64 (mx 0 (M.al - xa)), .int .i64 (mn 9 (M.ah + xa)), .int .i64 M.nl, .int .i64 M.nh, .int .i64 M.ra, .slice A2 gs2.length c2, .int .i64 (mn 3 (M.wr + xw))]) rfl rfl hu26 rfl info26s (blk_cells b7)) ?_
                      by_cases h125 : ¬ far (loose M gs2 xw xf xa) ∧ LampOk (loose M gs2 xw xf xa)
                      · have hgO := ready_few h125.1
                        have hsub : ∀ x ∈ truths M, x ∈ truths (loose M gs2 xw xf xa) := fun x hx => loose_truths hV0 hgs (by omega) (by omega) (by omega) hx
                        obtain ⟨mm1, mm2⟩ := more_many hV0 h125.2 hsub
                        have hck : checkE M = 0 := checkE_yes hV0
                        have hck2 : checkE (loose M gs2 xw xf xa) = 0 := checkE_yes h125.2
                        refine E.GL.st rfl rfl rfl (E.ST.call rfl ent18 (E.evc rfl E.evn) ((ready_calls (loose M gs2 xw xf xa) A2 c2 _ true (iff_of_true rfl h125) ((Kd.R_reads' R2).2.2)).mono ?_))
                        rintro e w125 ⟨rfl, l125⟩
                        refine ⟨_, rfl, ?_⟩
                        replace b3 := blk_below b3 l125
                        replace b4 := blk_below b4 l125
                        replace b7 := blk_below b7 l125
                        replace R2 := Kd.R_below R2 l125
                        replace L := below_step L l125
                        refine E.GL.run rfl rfl rfl (E.Runs.not rfl rfl) ?_
                        refine E.GL.done ?_
                        refine E.QG.code ?_
                        refine E.CG.cond_f rfl ?_
                        refine E.CG.skip ?_
                        refine E.QG.code ?_
                        refine E.CG.seq ?_
                        refine E.CG.list ?_
                        refine E.GL.run rfl rfl rfl (E.Runs.loads (cs := [.int .i64 M.fl, .int .i64 M.fh, .int .i64 M.al, .int .i64 M.ah, .int .i64 M.nl, .int .i64 M.nh, .int .i64 M.ra, .slice A M.gs.length c, .int .i64 M.wr]) rfl rfl hu26 rfl info26s (blk_cells b3)) ?_
                        refine E.GL.st rfl rfl rfl (E.ST.call rfl ent33 (E.evc rfl E.evn) ((many_calls M A c _ (Kd.C_below hr L) hg6).mono ?_))
                        rintro e w130 ⟨rfl, l130⟩
                        refine ⟨_, rfl, ?_⟩
                        replace b3 := blk_below b3 l130
                        replace b4 := blk_below b4 l130
                        replace b7 := blk_below b7 l130
                        replace R2 := Kd.R_below R2 l130
                        replace L := below_step L l130
                        refine E.GL.run rfl rfl rfl (E.Runs.move rfl rfl) ?_
                        refine E.GL.run rfl rfl rfl (E.Runs.extract rfl rfl rfl) ?_
                        refine E.GL.run rfl rfl rfl (E.Runs.extract rfl rfl rfl) ?_
                        refine E.GL.run rfl rfl rfl (E.Runs.assign rfl rfl) ?_
                        refine E.GL.run rfl rfl rfl (E.Runs.assign rfl rfl) ?_
                        refine E.GL.done ?_
                        refine E.QG.code ?_
                        refine E.CG.seq ?_
                        refine E.CG.list ?_
                        refine E.GL.run rfl rfl rfl (E.Runs.loads (cs := [.int .i64 (mx 0 (M.fl - xf)), .int .i64 (mn 400 (M.fh + xf)), .int .i64 (mx 0 (M.al - xa)), .int .i64 (mn 9 (M.ah + xa)), .int .i64 M.nl, .int .i64 M.nh, .int .i64 M.ra, .slice A2 gs2.length c2, .int .i64 (mn 3 (M.wr + xw))]) rfl rfl hu26 rfl info26s (blk_cells b7)) ?_
                        refine E.GL.st rfl rfl rfl (E.ST.call rfl ent33 (E.evc rfl E.evn) ((many_calls (loose M gs2 xw xf xa) A2 c2 _ ((Kd.R_reads' R2).2.2) hgO).mono ?_))
                        rintro e w135 ⟨rfl, l135⟩
                        refine ⟨_, rfl, ?_⟩
                        replace b3 := blk_below b3 l135
                        replace b4 := blk_below b4 l135
                        replace b7 := blk_below b7 l135
                        replace R2 := Kd.R_below R2 l135
                        replace L := below_step L l135
                        refine E.GL.run rfl rfl rfl (E.Runs.move rfl rfl) ?_
                        refine E.GL.run rfl rfl rfl (E.Runs.extract rfl rfl rfl) ?_
                        refine E.GL.run rfl rfl rfl (E.Runs.extract rfl rfl rfl) ?_
                        refine E.GL.run rfl rfl rfl (E.Runs.assign rfl rfl) ?_
                        refine E.GL.run rfl rfl rfl (E.Runs.assign rfl rfl) ?_
                        refine E.GL.done ?_
                        refine E.QG.code ?_
                        refine E.CG.seq ?_
                        refine E.CG.seq ?_
                        refine E.CG.list ?_
                        refine E.GL.run rfl rfl rfl (E.Runs.move rfl rfl) ?_
                        refine E.GL.run rfl rfl rfl (E.Runs.neq rfl rfl rfl (E.ne_f hck)) ?_
                        refine E.GL.run rfl rfl rfl (E.Runs.move rfl rfl) ?_
                        refine E.GL.run rfl rfl rfl (E.Runs.move rfl rfl) ?_
                        refine E.GL.run rfl rfl rfl (E.Runs.neq rfl rfl rfl (E.ne_f hck2)) ?_
                        refine E.GL.run rfl rfl rfl (E.Runs.pick_f rfl rfl rfl) ?_
                        refine E.GL.run rfl rfl rfl (E.Runs.move rfl rfl) ?_
                        refine E.GL.run rfl rfl rfl (E.Runs.move rfl rfl) ?_
                        refine E.GL.run rfl rfl rfl (E.Runs.lss rfl rfl rfl (decide_eq_false (by omega))) ?_
                        refine E.GL.run rfl rfl rfl (E.Runs.pick_f rfl rfl rfl) ?_
                        refine E.GL.run rfl rfl rfl (E.Runs.move rfl rfl) ?_
                        refine E.GL.run rfl rfl rfl (E.Runs.move rfl rfl) ?_
                        refine E.GL.run rfl rfl rfl (E.Runs.move rfl rfl) ?_
                        refine E.GL.run rfl rfl rfl (E.Runs.lss rfl rfl rfl (decide_eq_false (by omega))) ?_
                        refine E.GL.run rfl rfl rfl (E.Runs.pick_f rfl rfl rfl) ?_
                        refine E.GL.done ?_
                        refine E.QG.code ?_
                        refine E.CG.cond_f rfl ?_
                        refine E.CG.skip ?_
                        refine E.QG.code ?_
                        refine E.CG.seq ?_
                        refine E.CG.seq ?_
                        refine E.CG.list ?_
                        refine E.GL.run rfl rfl rfl (E.Runs.move rfl rfl) ?_
                        refine E.GL.cmp rfl rfl rfl (fun _ h => (E.Runs.eql rfl rfl rfl h)) (fun h154 => ?_) (fun h154 => ?_)
                        · refine E.GL.done ?_
                          refine E.QG.code ?_
                          refine E.CG.cond_t rfl ?_
                          refine E.CG.seq ?_
                          refine E.CG.list ?_
                          refine E.GL.st rfl rfl rfl (E.ST.call rfl ent13 E.evn ((works_calls _).mono ?_))
                          rintro e w155 ⟨rfl, l155⟩
                          refine ⟨_, rfl, ?_⟩
                          replace b3 := blk_below b3 l155
                          replace b4 := blk_below b4 l155
                          replace b7 := blk_below b7 l155
                          replace R2 := Kd.R_below R2 l155
                          replace L := below_step L l155
                          refine E.GL.run rfl rfl rfl (E.Runs.assign rfl rfl) ?_
                          refine E.GL.done ?_
                          refine E.QG.code ?_
                          refine E.CG.ret ?_
                          refine E.QG.pass_ret ?_
                          exact E.QG.result rfl rfl ⟨rfl, L⟩
                        · obtain ⟨me1, me2, me3, me4, me5⟩ := more_plain h25 hV0 h125.2 hsub rfl rfl h154
                          refine E.GL.done ?_
                          refine E.QG.code ?_
                          refine E.CG.cond_f rfl ?_
                          refine E.CG.skip ?_
                          refine E.QG.code ?_
                          refine E.CG.seq ?_
                          refine E.CG.list ?_
                          refine E.GL.run rfl rfl rfl (E.Runs.loads (cs := [.int .i64 M.fl, .int .i64 M.fh, .int .i64 M.al, .int .i64 M.ah, .int .i64 M.nl, .int .i64 M.nh, .int .i64 M.ra, .slice A M.gs.length c, .int .i64 M.wr]) rfl rfl hu26 rfl info26s (blk_cells b3)) ?_
                          refine E.GL.run rfl rfl rfl (E.Runs.move rfl rfl) ?_
                          refine E.GL.st rfl rfl rfl (E.ST.call rfl ent20 (E.evc rfl (E.evc rfl E.evn)) ((at_calls M A c h _ (Kd.C_below hr L) hg6).mono ?_))
                          rintro e w159 ⟨rfl, l159⟩
                          refine ⟨_, rfl, ?_⟩
                          replace b3 := blk_below b3 l159
                          replace b4 := blk_below b4 l159
                          replace b7 := blk_below b7 l159
                          replace R2 := Kd.R_below R2 l159
                          replace L := below_step L l159
                          refine E.GL.run rfl rfl rfl (E.Runs.move rfl rfl) ?_
                          refine E.GL.run rfl rfl rfl (E.Runs.extract rfl rfl rfl) ?_
                          refine E.GL.run rfl rfl rfl (E.Runs.extract rfl rfl rfl) ?_
                          refine E.GL.st rfl rfl rfl (E.ST.alloc rfl info23z fun g12 w12 e12 b12 l12 => ?_)
                          have h12_L : w.heap.size ≤ g12 := by rw [e12]; exact L.size
                          have n12_b3 : g3 ≠ g12 := by have := blk_lt b3; omega
                          have n12_b4 : g4 ≠ g12 := by have := blk_lt b4; omega
                          have n12_b7 : g7 ≠ g12 := by have := blk_lt b7; omega
                          have n12_R2 : some g12 ≠ ((Value.slice A2 gs2.length c2)).ownBlock := fun h => by have := Kd.R_lt R2 _ h.symm; omega
                          replace b3 := blk_below b3 l12
                          replace b4 := blk_below b4 l12
                          replace b7 := blk_below b7 l12
                          replace R2 := Kd.R_below R2 l12
                          replace L := below_step L l12
                          refine E.GL.store_whole rfl rfl rfl rfl rfl b12 rfl info23s (two_one _ _) fun wS17_7 c12 lS17_7 => ?_
                          replace b3 := blk_grown b3 lS17_7 (E.nes (by first | assumption | exact Ne.symm (by assumption)))
                          replace b4 := blk_grown b4 lS17_7 (E.nes (by first | assumption | exact Ne.symm (by assumption)))
                          replace b7 := blk_grown b7 lS17_7 (E.nes (by first | assumption | exact Ne.symm (by assumption)))
                          replace R2 := Kd.R_grown1 R2 rfl lS17_7 (by first | assumption | exact Kd.R_ne R2 b12 (by decide))
                          replace L := E.below_own L h12_L lS17_7
                          replace b12 := c12
                          clear c12
                          refine E.GL.run rfl rfl rfl (E.Runs.assign rfl rfl) ?_
                          refine E.GL.done ?_
                          refine E.QG.code ?_
                          refine E.CG.seq ?_
                          refine E.CG.list ?_
                          refine E.GL.run rfl rfl rfl (E.Runs.loads (cs := [.int .i64 (mx 0 (M.fl - xf)), .int .i64 (mn 400 (M.fh + xf)), .int .i64 (mx 0 (M.al - xa)), .int .i64 (mn 9 (M.ah + xa)), .int .i64 M.nl, .int .i64 M.nh, .int .i64 M.ra, .slice A2 gs2.length c2, .int .i64 (mn 3 (M.wr + xw))]) rfl rfl hu26 rfl info26s (blk_cells b7)) ?_
                          refine E.GL.run rfl rfl rfl (E.Runs.move rfl rfl) ?_
                          refine E.GL.st rfl rfl rfl (E.ST.call rfl ent20 (E.evc rfl (E.evc rfl E.evn)) ((at_calls (loose M gs2 xw xf xa) A2 c2 h _ ((Kd.R_reads' R2).2.2) hgO).mono ?_))
                          rintro e w165 ⟨rfl, l165⟩
                          refine ⟨_, rfl, ?_⟩
                          replace b3 := blk_below b3 l165
                          replace b4 := blk_below b4 l165
                          replace b7 := blk_below b7 l165
                          replace b12 := blk_below b12 l165
                          replace R2 := Kd.R_below R2 l165
                          replace L := below_step L l165
                          refine E.GL.run rfl rfl rfl (E.Runs.move rfl rfl) ?_
                          refine E.GL.run rfl rfl rfl (E.Runs.extract rfl rfl rfl) ?_
                          refine E.GL.run rfl rfl rfl (E.Runs.extract rfl rfl rfl) ?_
                          refine E.GL.st rfl rfl rfl (E.ST.alloc rfl info23z fun g14 w14 e14 b14 l14 => ?_)
                          have h14_L : w.heap.size ≤ g14 := by rw [e14]; exact L.size
                          have n14_b3 : g3 ≠ g14 := by have := blk_lt b3; omega
                          have n14_b4 : g4 ≠ g14 := by have := blk_lt b4; omega
                          have n14_b7 : g7 ≠ g14 := by have := blk_lt b7; omega
                          have n14_b12 : g12 ≠ g14 := by have := blk_lt b12; omega
                          have n14_R2 : some g14 ≠ ((Value.slice A2 gs2.length c2)).ownBlock := fun h => by have := Kd.R_lt R2 _ h.symm; omega
                          replace b3 := blk_below b3 l14
                          replace b4 := blk_below b4 l14
                          replace b7 := blk_below b7 l14
                          replace b12 := blk_below b12 l14
                          replace R2 := Kd.R_below R2 l14
                          replace L := below_step L l14
                          refine E.GL.store_whole rfl rfl rfl rfl rfl b14 rfl info23s (two_one _ _) fun wS18_7 c14 lS18_7 => ?_
                          replace b3 := blk_grown b3 lS18_7 (E.nes (by first | assumption | exact Ne.symm (by assumption)))
                          replace b4 := blk_grown b4 lS18_7 (E.nes (by first | assumption | exact Ne.symm (by assumption)))
                          replace b7 := blk_grown b7 lS18_7 (E.nes (by first | assumption | exact Ne.symm (by assumption)))
                          replace b12 := blk_grown b12 lS18_7 (E.nes (by first | assumption | exact Ne.symm (by assumption)))
                          replace R2 := Kd.R_grown1 R2 rfl lS18_7 (by first | assumption | exact Kd.R_ne R2 b14 (by decide))
                          replace L := E.below_own L h14_L lS18_7
                          replace b14 := c14
                          clear c14
                          refine E.GL.run rfl rfl rfl (E.Runs.assign rfl rfl) ?_
                          refine E.GL.done ?_
                          refine E.QG.code ?_
                          refine E.CG.seq ?_
                          refine E.CG.list ?_
                          refine E.GL.run rfl rfl rfl (E.Runs.loads (cs := [.int .i64 M.fl, .int .i64 M.fh, .int .i64 M.al, .int .i64 M.ah, .int .i64 M.nl, .int .i64 M.nh, .int .i64 M.ra, .slice A M.gs.length c, .int .i64 M.wr]) rfl rfl hu26 rfl info26s (blk_cells b3)) ?_
                          refine E.GL.run rfl rfl rfl (E.Runs.move rfl rfl) ?_
                          refine E.GL.st rfl rfl rfl (E.ST.call rfl ent27 (E.evc rfl (E.evc rfl E.evn)) ((keeps_calls M A c h _ (Kd.C_below hr L) hg6).mono ?_))
                          rintro e w171 ⟨rfl, l171⟩
                          refine ⟨_, rfl, ?_⟩
                          replace b3 := blk_below b3 l171
                          replace b4 := blk_below b4 l171
                          replace b7 := blk_below b7 l171
                          replace b12 := blk_below b12 l171
                          replace b14 := blk_below b14 l171
                          replace R2 := Kd.R_below R2 l171
                          replace L := below_step L l171
                          refine E.GL.run rfl rfl rfl (E.Runs.move rfl rfl) ?_
                          refine E.GL.run rfl rfl rfl (E.Runs.extract rfl rfl rfl) ?_
                          refine E.GL.run rfl rfl rfl (E.Runs.extract rfl rfl rfl) ?_
                          refine E.GL.run rfl rfl rfl (E.Runs.assign rfl rfl) ?_
                          refine E.GL.run rfl rfl rfl (E.Runs.assign rfl rfl) ?_
                          refine E.GL.done ?_
                          refine E.QG.code ?_
                          refine E.CG.seq ?_
                          refine E.CG.list ?_
                          refine E.GL.run rfl rfl rfl (E.Runs.loads (cs := [.int .i64 (mx 0 (M.fl - xf)), .int .i64 (mn 400 (M.fh + xf)), .int .i64 (mx 0 (M.al - xa)), .int .i64 (mn 9 (M.ah + xa)), .int .i64 M.nl, .int .i64 M.nh, .int .i64 M.ra, .slice A2 gs2.length c2, .int .i64 (mn 3 (M.wr + xw))]) rfl rfl hu26 rfl info26s (blk_cells b7)) ?_
                          refine E.GL.run rfl rfl rfl (E.Runs.move rfl rfl) ?_
                          refine E.GL.st rfl rfl rfl (E.ST.call rfl ent27 (E.evc rfl (E.evc rfl E.evn)) ((keeps_calls (loose M gs2 xw xf xa) A2 c2 h _ ((Kd.R_reads' R2).2.2) hgO).mono ?_))
                          rintro e w177 ⟨rfl, l177⟩
                          refine ⟨_, rfl, ?_⟩
                          replace b3 := blk_below b3 l177
                          replace b4 := blk_below b4 l177
                          replace b7 := blk_below b7 l177
                          replace b12 := blk_below b12 l177
                          replace b14 := blk_below b14 l177
                          replace R2 := Kd.R_below R2 l177
                          replace L := below_step L l177
                          refine E.GL.run rfl rfl rfl (E.Runs.move rfl rfl) ?_
                          refine E.GL.run rfl rfl rfl (E.Runs.extract rfl rfl rfl) ?_
                          refine E.GL.run rfl rfl rfl (E.Runs.extract rfl rfl rfl) ?_
                          refine E.GL.run rfl rfl rfl (E.Runs.assign rfl rfl) ?_
                          refine E.GL.run rfl rfl rfl (E.Runs.assign rfl rfl) ?_
                          refine E.GL.done ?_
                          refine E.QG.code ?_
                          refine E.CG.seq ?_
                          refine E.CG.list ?_
                          refine E.GL.run rfl rfl rfl (E.Runs.move rfl rfl) ?_
                          refine E.GL.run rfl rfl rfl (E.Runs.eql rfl rfl rfl (decide_eq_true me1)) ?_
                          refine E.GL.run rfl rfl rfl (E.Runs.move rfl rfl) ?_
                          refine E.GL.run rfl rfl rfl (E.Runs.move rfl rfl) ?_
                          refine E.GL.run rfl rfl rfl (E.Runs.eql rfl rfl rfl (decide_eq_true me2)) ?_
                          refine E.GL.run rfl rfl rfl (E.Runs.pick_t rfl rfl rfl) ?_
                          refine E.GL.run rfl rfl rfl (E.Runs.move rfl rfl) ?_
                          refine E.GL.run rfl rfl rfl (E.Runs.move rfl rfl) ?_
                          refine E.GL.run rfl rfl rfl (E.Runs.eql rfl rfl rfl (decide_eq_true me1)) ?_
                          refine E.GL.run rfl rfl rfl (E.Runs.pick_t rfl rfl rfl) ?_
                          refine E.GL.run rfl rfl rfl (E.Runs.move rfl rfl) ?_
                          refine E.GL.run rfl rfl rfl (E.Runs.move rfl rfl) ?_
                          refine E.GL.run rfl rfl rfl (E.Runs.eql rfl rfl rfl (decide_eq_true me2)) ?_
                          refine E.GL.run rfl rfl rfl (E.Runs.pick_t rfl rfl rfl) ?_
                          refine E.GL.run rfl rfl rfl (E.Runs.move rfl rfl) ?_
                          refine E.GL.run rfl rfl rfl (E.Runs.fieldAddr rfl rfl hu23 rfl (by assumption) rfl) ?_
                          refine E.GL.run rfl rfl rfl (E.Runs.load rfl rfl hu3 (by first | assumption | exact E.blkc (by assumption) rfl | exact pw_cell_below L (by assumption))) ?_
                          refine E.GL.run rfl rfl rfl (E.Runs.fieldAddr rfl rfl hu23 rfl (by assumption) rfl) ?_
                          refine E.GL.run rfl rfl rfl (E.Runs.load rfl rfl hu3 (by first | assumption | exact E.blkc (by assumption) rfl | exact pw_cell_below L (by assumption))) ?_
                          refine E.GL.run rfl rfl rfl (E.Runs.leq rfl rfl rfl (decide_eq_true (by omega))) ?_
                          refine E.GL.run rfl rfl rfl (E.Runs.pick_t rfl rfl rfl) ?_
                          refine E.GL.run rfl rfl rfl (E.Runs.move rfl rfl) ?_
                          refine E.GL.run rfl rfl rfl (E.Runs.fieldAddr rfl rfl hu23 rfl (by assumption) rfl) ?_
                          refine E.GL.run rfl rfl rfl (E.Runs.load rfl rfl hu3 (by first | assumption | exact E.blkc (by assumption) rfl | exact pw_cell_below L (by assumption))) ?_
                          refine E.GL.run rfl rfl rfl (E.Runs.fieldAddr rfl rfl hu23 rfl (by assumption) rfl) ?_
                          refine E.GL.run rfl rfl rfl (E.Runs.load rfl rfl hu3 (by first | assumption | exact E.blkc (by assumption) rfl | exact pw_cell_below L (by assumption))) ?_
                          refine E.GL.run rfl rfl rfl (E.Runs.leq rfl rfl rfl (decide_eq_true (by omega))) ?_
                          refine E.GL.run rfl rfl rfl (E.Runs.pick_t rfl rfl rfl) ?_
                          refine E.GL.run rfl rfl rfl (E.Runs.move rfl rfl) ?_
                          refine E.GL.run rfl rfl rfl (E.Runs.move rfl rfl) ?_
                          refine E.GL.run rfl rfl rfl (E.Runs.move rfl rfl) ?_
                          refine E.GL.cmp rfl rfl rfl (fun _ h => (E.Runs.eql rfl rfl rfl h)) (fun h211 => ?_) (fun h211 => ?_)
                          · refine E.GL.run rfl rfl rfl (E.Runs.move rfl rfl) ?_
                            refine E.GL.skip rfl rfl rfl ?_
                            refine E.GL.skip rfl rfl rfl ?_
                            refine E.GL.run rfl rfl rfl (E.Runs.pick_t rfl rfl rfl) ?_
                            refine E.GL.run rfl rfl rfl (E.Runs.pick_t rfl rfl rfl) ?_
                            refine E.GL.run rfl rfl rfl (E.Runs.move rfl rfl) ?_
                            refine E.GL.st rfl rfl rfl (E.ST.call rfl ent13 E.evn ((works_calls _).mono ?_))
                            rintro e w218 ⟨rfl, l218⟩
                            refine ⟨_, rfl, ?_⟩
                            replace b3 := blk_below b3 l218
                            replace b4 := blk_below b4 l218
                            replace b7 := blk_below b7 l218
                            replace b12 := blk_below b12 l218
                            replace b14 := blk_below b14 l218
                            replace R2 := Kd.R_below R2 l218
                            replace L := below_step L l218
                            refine E.GL.run rfl rfl rfl (E.Runs.pick_t rfl rfl rfl) ?_
                            refine E.GL.run rfl rfl rfl (E.Runs.assign rfl rfl) ?_
                            refine E.GL.done ?_
                            refine E.QG.code ?_
                            refine E.CG.ret ?_
                            exact E.QG.result rfl rfl ⟨rfl, L⟩
                          · refine E.GL.run rfl rfl rfl (E.Runs.move rfl rfl) ?_
                            refine E.GL.run rfl rfl rfl (E.Runs.move rfl rfl) ?_
                            refine E.GL.run rfl rfl rfl (E.Runs.eql rfl rfl rfl (decide_eq_true (me5 h211))) ?_
                            refine E.GL.run rfl rfl rfl (E.Runs.pick_f rfl rfl rfl) ?_
                            refine E.GL.run rfl rfl rfl (E.Runs.pick_t rfl rfl rfl) ?_
                            refine E.GL.run rfl rfl rfl (E.Runs.move rfl rfl) ?_
                            refine E.GL.st rfl rfl rfl (E.ST.call rfl ent13 E.evn ((works_calls _).mono ?_))
                            rintro e w218 ⟨rfl, l218⟩
                            refine ⟨_, rfl, ?_⟩
                            replace b3 := blk_below b3 l218
                            replace b4 := blk_below b4 l218
                            replace b7 := blk_below b7 l218
                            replace b12 := blk_below b12 l218
                            replace b14 := blk_below b14 l218
                            replace R2 := Kd.R_below R2 l218
                            replace L := below_step L l218
                            refine E.GL.run rfl rfl rfl (E.Runs.pick_t rfl rfl rfl) ?_
                            refine E.GL.run rfl rfl rfl (E.Runs.assign rfl rfl) ?_
                            refine E.GL.done ?_
                            refine E.QG.code ?_
                            refine E.CG.ret ?_
                            exact E.QG.result rfl rfl ⟨rfl, L⟩
                      · refine E.GL.st rfl rfl rfl (E.ST.call rfl ent18 (E.evc rfl E.evn) ((ready_calls (loose M gs2 xw xf xa) A2 c2 _ false (iff_of_false Bool.false_ne_true h125) ((Kd.R_reads' R2).2.2)).mono ?_))
                        rintro e w125 ⟨rfl, l125⟩
                        refine ⟨_, rfl, ?_⟩
                        replace b3 := blk_below b3 l125
                        replace b4 := blk_below b4 l125
                        replace b7 := blk_below b7 l125
                        replace R2 := Kd.R_below R2 l125
                        replace L := below_step L l125
                        refine E.GL.run rfl rfl rfl (E.Runs.not rfl rfl) ?_
                        refine E.GL.done ?_
                        refine E.QG.code ?_
                        refine E.CG.cond_t rfl ?_
                        refine E.CG.seq ?_
                        refine E.CG.list ?_
                        refine E.GL.st rfl rfl rfl (E.ST.call rfl ent13 E.evn ((works_calls _).mono ?_))
                        rintro e w127 ⟨rfl, l127⟩
                        refine ⟨_, rfl, ?_⟩
                        replace b3 := blk_below b3 l127
                        replace b4 := blk_below b4 l127
                        replace b7 := blk_below b7 l127
                        replace R2 := Kd.R_below R2 l127
                        replace L := below_step L l127
                        refine E.GL.run rfl rfl rfl (E.Runs.assign rfl rfl) ?_
                        refine E.GL.done ?_
                        refine E.QG.code ?_
                        refine E.CG.ret ?_
                        refine E.QG.pass_ret ?_
                        exact E.QG.result rfl rfl ⟨rfl, L⟩
                  · have hgs : Less gs2 M.gs := .inl hgs2
                    refine E.GL.run rfl rfl rfl (E.Runs.move rfl rfl) ?_
                    refine E.GL.skip rfl rfl rfl ?_
                    refine E.GL.skip rfl rfl rfl ?_
                    refine E.GL.skip rfl rfl rfl ?_
                    refine E.GL.skip rfl rfl rfl ?_
                    refine E.GL.skip rfl rfl rfl ?_
                    refine E.GL.skip rfl rfl rfl ?_
                    refine E.GL.run rfl rfl rfl (E.Runs.pick_f rfl rfl rfl) ?_
                    refine E.GL.done ?_
                    refine E.QG.code ?_
                    refine E.CG.cond_f rfl ?_
                    refine E.CG.skip ?_
                    refine E.QG.code ?_
                    refine E.CG.seq ?_
                    refine E.CG.list ?_
                    refine E.GL.run rfl rfl rfl (E.Runs.fieldAddr rfl rfl hu26 rfl (by assumption) rfl) ?_
                    refine E.GL.run rfl rfl rfl (E.Runs.load rfl rfl hu3 (by first | assumption | exact E.blkc (by assumption) rfl | exact pw_cell_below L (by assumption))) ?_
                    refine E.GL.run rfl rfl rfl (E.Runs.fieldAddr rfl rfl hu60 rfl (by assumption) rfl) ?_
                    refine E.GL.run rfl rfl rfl (E.Runs.load rfl rfl hu3 (by first | assumption | exact E.blkc (by assumption) rfl | exact pw_cell_below L (by assumption))) ?_
                    refine E.GL.run rfl rfl rfl (E.Runs.add rfl rfl rfl (IntWalk.i64_in _ (by omega))) ?_
                    refine E.GL.run rfl rfl rfl (E.Runs.min rfl rfl rfl rfl) ?_
                    refine E.GL.run rfl rfl rfl (E.Runs.fieldAddr rfl rfl hu26 rfl (by assumption) rfl) ?_
                    refine E.GL.sn rfl rfl (E.ST.store rfl (by assumption) (by assumption) rfl rfl b7 rfl (show _ = #[.int .i64 M.fl, .int .i64 M.fh, .int .i64 M.al, .int .i64 M.ah, .int .i64 M.nl, .int .i64 M.nh, .int .i64 M.ra, .slice A2 gs2.length c2, .int .i64 (mn 3 (M.wr + xw))] from rfl) fun wS6_7 c7 lS6_7 => ?_)
                    replace b3 := blk_grown b3 lS6_7 (E.nes (by first | assumption | exact Ne.symm (by assumption)))
                    replace b4 := blk_grown b4 lS6_7 (E.nes (by first | assumption | exact Ne.symm (by assumption)))
                    replace R2 := Kd.R_grown1 R2 rfl lS6_7 (by first | assumption | exact Kd.R_ne R2 b7 (by decide))
                    replace L := E.below_own L h7_L lS6_7
                    replace b7 := c7
                    clear c7
                    have b7_ : wS6_7.heap[g7]? = some (.cells #[.int .i64 M.fl, .int .i64 M.fh, .int .i64 M.al, .int .i64 M.ah, .int .i64 M.nl, .int .i64 M.nh, .int .i64 M.ra, .slice A2 gs2.length c2, .int .i64 (mn 3 (M.wr + xw))] 26 (0, 0)) := b7
                    replace b7 := b7_
                    clear b7_
                    refine E.GL.done ?_
                    refine E.QG.code ?_
                    refine E.CG.seq ?_
                    refine E.CG.list ?_
                    refine E.GL.run rfl rfl rfl (E.Runs.fieldAddr rfl rfl hu26 rfl (by assumption) rfl) ?_
                    refine E.GL.run rfl rfl rfl (E.Runs.fieldAddr rfl rfl hu23 rfl (by assumption) rfl) ?_
                    refine E.GL.run rfl rfl rfl (E.Runs.load rfl rfl hu3 (by first | assumption | exact E.blkc (by assumption) rfl | exact pw_cell_below L (by assumption))) ?_
                    refine E.GL.run rfl rfl rfl (E.Runs.fieldAddr rfl rfl hu60 rfl (by assumption) rfl) ?_
                    refine E.GL.run rfl rfl rfl (E.Runs.load rfl rfl hu3 (by first | assumption | exact E.blkc (by assumption) rfl | exact pw_cell_below L (by assumption))) ?_
                    refine E.GL.run rfl rfl rfl (E.Runs.sub rfl rfl rfl (IntWalk.i64_in _ (by omega))) ?_
                    refine E.GL.run rfl rfl rfl (E.Runs.max rfl rfl rfl rfl) ?_
                    refine E.GL.run rfl rfl rfl (E.Runs.fieldAddr rfl rfl hu26 rfl (by assumption) rfl) ?_
                    refine E.GL.run rfl rfl rfl (E.Runs.fieldAddr rfl rfl hu23 rfl (by assumption) rfl) ?_
                    refine E.GL.run rfl rfl rfl (E.Runs.load rfl rfl hu3 (by first | assumption | exact E.blkc (by assumption) rfl | exact pw_cell_below L (by assumption))) ?_
                    refine E.GL.run rfl rfl rfl (E.Runs.fieldAddr rfl rfl hu60 rfl (by assumption) rfl) ?_
                    refine E.GL.run rfl rfl rfl (E.Runs.load rfl rfl hu3 (by first | assumption | exact E.blkc (by assumption) rfl | exact pw_cell_below L (by assumption))) ?_
                    refine E.GL.run rfl rfl rfl (E.Runs.add rfl rfl rfl (IntWalk.i64_in _ (by omega))) ?_
                    refine E.GL.run rfl rfl rfl (E.Runs.min rfl rfl rfl rfl) ?_
                    refine E.GL.run rfl rfl rfl (E.Runs.build rfl (E.epc rfl (E.epc rfl E.epn)) (build23 _ _)) ?_
                    refine E.GL.run rfl rfl rfl (E.Runs.fieldAddr rfl rfl hu26 rfl (by assumption) rfl) ?_
                    refine E.GL.sn rfl rfl (E.ST.storeS (off := 0) (cells := [.int .i64 (mx 0 (M.fl - xf)), .int .i64 (mn 400 (M.fh + xf))]) rfl rfl rfl b7 rfl info23s (two_one _ _) (show _ = [.int .i64 (mx 0 (M.fl - xf)), .int .i64 (mn 400 (M.fh + xf)), .int .i64 M.al, .int .i64 M.ah, .int .i64 M.nl, .int .i64 M.nh, .int .i64 M.ra, .slice A2 gs2.length c2, .int .i64 (mn 3 (M.wr + xw))] from rfl) fun wS7_16 c7 lS7_16 => ?_)
                    replace b3 := blk_grown b3 lS7_16 (E.nes (by first | assumption | exact Ne.symm (by assumption)))
                    replace b4 := blk_grown b4 lS7_16 (E.nes (by first | assumption | exact Ne.symm (by assumption)))
                    replace R2 := Kd.R_grown1 R2 rfl lS7_16 (by first | assumption | exact Kd.R_ne R2 b7 (by decide))
                    replace L := E.below_own L h7_L lS7_16
                    replace b7 := c7
                    clear c7
                    have b7_ : wS7_16.heap[g7]? = some (.cells #[.int .i64 (mx 0 (M.fl - xf)), .int .i64 (mn 400 (M.fh + xf)), .int .i64 M.al, .int .i64 M.ah, .int .i64 M.nl, .int .i64 M.nh, .int .i64 M.ra, .slice A2 gs2.length c2, .int .i64 (mn 3 (M.wr + xw))] 26 (0, 0)) := b7
                    replace b7 := b7_
                    clear b7_
                    refine E.GL.done ?_
                    refine E.QG.code ?_
                    refine E.CG.seq ?_
                    refine E.CG.list ?_
                    refine E.GL.run rfl rfl rfl (E.Runs.fieldAddr rfl rfl hu26 rfl (by assumption) rfl) ?_
                    refine E.GL.run rfl rfl rfl (E.Runs.fieldAddr rfl rfl hu23 rfl (by assumption) rfl) ?_
                    refine E.GL.run rfl rfl rfl (E.Runs.load rfl rfl hu3 (by first | assumption | exact E.blkc (by assumption) rfl | exact pw_cell_below L (by assumption))) ?_
                    refine E.GL.run rfl rfl rfl (E.Runs.fieldAddr rfl rfl hu60 rfl (by assumption) rfl) ?_
                    refine E.GL.run rfl rfl rfl (E.Runs.load rfl rfl hu3 (by first | assumption | exact E.blkc (by assumption) rfl | exact pw_cell_below L (by assumption))) ?_
                    refine E.GL.run rfl rfl rfl (E.Runs.sub rfl rfl rfl (IntWalk.i64_in _ (by omega))) ?_
                    refine E.GL.run rfl rfl rfl (E.Runs.max rfl rfl rfl rfl) ?_
                    refine E.GL.run rfl rfl rfl (E.Runs.fieldAddr rfl rfl hu26 rfl (by assumption) rfl) ?_
                    refine E.GL.run rfl rfl rfl (E.Runs.fieldAddr rfl rfl hu23 rfl (by assumption) rfl) ?_
                    refine E.GL.run rfl rfl rfl (E.Runs.load rfl rfl hu3 (by first | assumption | exact E.blkc (by assumption) rfl | exact pw_cell_below L (by assumption))) ?_
                    refine E.GL.run rfl rfl rfl (E.Runs.fieldAddr rfl rfl hu60 rfl (by assumption) rfl) ?_
                    refine E.GL.run rfl rfl rfl (E.Runs.load rfl rfl hu3 (by first | assumption | exact E.blkc (by assumption) rfl | exact pw_cell_below L (by assumption))) ?_
                    refine E.GL.run rfl rfl rfl (E.Runs.add rfl rfl rfl (IntWalk.i64_in _ (by omega))) ?_
                    refine E.GL.run rfl rfl rfl (E.Runs.min rfl rfl rfl rfl) ?_
                    refine E.GL.run rfl rfl rfl (E.Runs.build rfl (E.epc rfl (E.epc rfl E.epn)) (build23 _ _)) ?_
                    refine E.GL.run rfl rfl rfl (E.Runs.fieldAddr rfl rfl hu26 rfl (by assumption) rfl) ?_
                    refine E.GL.sn rfl rfl (E.ST.storeS (off := 2) (cells := [.int .i64 (mx 0 (M.al - xa)), .int .i64 (mn 9 (M.ah + xa))]) rfl rfl rfl b7 rfl info23s (two_one _ _) (show _ = [.int .i64 (mx 0 (M.fl - xf)), .int .i64 (mn 400 (M.fh + xf)), .int .i64 (mx 0 (M.al - xa)), .int .i64 (mn 9 (M.ah + xa)), .int .i64 M.nl, .int .i64 M.nh, .int .i64 M.ra, .slice A2 gs2.length c2, .int .i64 (mn 3 (M.wr + xw))] from rfl) fun wS8_16 c7 lS8_16 => ?_)
                    replace b3 := blk_grown b3 lS8_16 (E.nes (by first | assumption | exact Ne.symm (by assumption)))
                    replace b4 := blk_grown b4 lS8_16 (E.nes (by first | assumption | exact Ne.symm (by assumption)))
                    replace R2 := Kd.R_grown1 R2 rfl lS8_16 (by first | assumption | exact Kd.R_ne R2 b7 (by decide))
                    replace L := E.below_own L h7_L lS8_16
                    replace b7 := c7
                    clear c7
                    have b7_ : wS8_16.heap[g7]? = some (.cells #[.int .i64 (mx 0 (M.fl - xf)), .int .i64 (mn 400 (M.fh + xf)), .int .i64 (mx 0 (M.al - xa)), .int .i64 (mn 9 (M.ah + xa)), .int .i64 M.nl, .int .i64 M.nh, .int .i64 M.ra, .slice A2 gs2.length c2, .int .i64 (mn 3 (M.wr + xw))] 26 (0, 0)) := b7
                    replace b7 := b7_
                    clear b7_
                    refine E.GL.done ?_
                    refine E.QG.code ?_
                    refine E.CG.seq ?_
                    refine E.CG.seq ?_
                    refine E.CG.list ?_
                    refine E.GL.run rfl rfl rfl (E.Runs.loads (cs := [.int .i64 (mx 0 (M.fl - xf)), .int .i64 (mn 400 (M.fh + xf)), .int .i64 (mx 0 (M.al - xa)), .int .i64 (mn 9 (M.ah + xa)), .int .i64 M.nl, .int .i64 M.nh, .int .i64 M.ra, .slice A2 gs2.length c2, .int .i64 (mn 3 (M.wr + xw))]) rfl rfl hu26 rfl info26s (blk_cells b7)) ?_
                    by_cases h125 : ¬ far (loose M gs2 xw xf xa) ∧ LampOk (loose M gs2 xw xf xa)
                    · have hgO := ready_few h125.1
                      have hsub : ∀ x ∈ truths M, x ∈ truths (loose M gs2 xw xf xa) := fun x hx => loose_truths hV0 hgs (by omega) (by omega) (by omega) hx
                      obtain ⟨mm1, mm2⟩ := more_many hV0 h125.2 hsub
                      have hck : checkE M = 0 := checkE_yes hV0
                      have hck2 : checkE (loose M gs2 xw xf xa) = 0 := checkE_yes h125.2
                      refine E.GL.st rfl rfl rfl (E.ST.call rfl ent18 (E.evc rfl E.evn) ((ready_calls (loose M gs2 xw xf xa) A2 c2 _ true (iff_of_true rfl h125) ((Kd.R_reads' R2).2.2)).mono ?_))
                      rintro e w125 ⟨rfl, l125⟩
                      refine ⟨_, rfl, ?_⟩
                      replace b3 := blk_below b3 l125
                      replace b4 := blk_below b4 l125
                      replace b7 := blk_below b7 l125
                      replace R2 := Kd.R_below R2 l125
                      replace L := below_step L l125
                      refine E.GL.run rfl rfl rfl (E.Runs.not rfl rfl) ?_
                      refine E.GL.done ?_
                      refine E.QG.code ?_
                      refine E.CG.cond_f rfl ?_
                      refine E.CG.skip ?_
                      refine E.QG.code ?_
                      refine E.CG.seq ?_
                      refine E.CG.list ?_
                      refine E.GL.run rfl rfl rfl (E.Runs.loads (cs := [.int .i64 M.fl, .int .i64 M.fh, .int .i64 M.al, .int .i64 M.ah, .int .i64 M.nl, .int .i64 M.nh, .int .i64 M.ra, .slice A M.gs.length c, .int .i64 M.wr]) rfl rfl hu26 rfl info26s (blk_cells b3)) ?_
                      refine E.GL.st rfl rfl rfl (E.ST.call rfl ent33 (E.evc rfl E.evn) ((many_calls M A c _ (Kd.C_below hr L) hg6).mono ?_))
                      rintro e w130 ⟨rfl, l130⟩
                      refine ⟨_, rfl, ?_⟩
                      replace b3 := blk_below b3 l130
                      replace b4 := blk_below b4 l130
                      replace b7 := blk_below b7 l130
                      replace R2 := Kd.R_below R2 l130
                      replace L := below_step L l130
                      refine E.GL.run rfl rfl rfl (E.Runs.move rfl rfl) ?_
                      refine E.GL.run rfl rfl rfl (E.Runs.extract rfl rfl rfl) ?_
                      refine E.GL.run rfl rfl rfl (E.Runs.extract rfl rfl rfl) ?_
                      refine E.GL.run rfl rfl rfl (E.Runs.assign rfl rfl) ?_
                      refine E.GL.run rfl rfl rfl (E.Runs.assign rfl rfl) ?_
                      refine E.GL.done ?_
                      refine E.QG.code ?_
                      refine E.CG.seq ?_
                      refine E.CG.list ?_
                      refine E.GL.run rfl rfl rfl (E.Runs.loads (cs := [.int .i64 (mx 0 (M.fl - xf)), .int .i64 (mn 400 (M.fh + xf)), .int .i64 (mx 0 (M.al - xa)), .int .i64 (mn 9 (M.ah + xa)), .int .i64 M.nl, .int .i64 M.nh, .int .i64 M.ra, .slice A2 gs2.length c2, .int .i64 (mn 3 (M.wr + xw))]) rfl rfl hu26 rfl info26s (blk_cells b7)) ?_
                      refine E.GL.st rfl rfl rfl (E.ST.call rfl ent33 (E.evc rfl E.evn) ((many_calls (loose M gs2 xw xf xa) A2 c2 _ ((Kd.R_reads' R2).2.2) hgO).mono ?_))
                      rintro e w135 ⟨rfl, l135⟩
                      refine ⟨_, rfl, ?_⟩
                      replace b3 := blk_below b3 l135
                      replace b4 := blk_below b4 l135
                      replace b7 := blk_below b7 l135
                      replace R2 := Kd.R_below R2 l135
                      replace L := below_step L l135
                      refine E.GL.run rfl rfl rfl (E.Runs.move rfl rfl) ?_
                      refine E.GL.run rfl rfl rfl (E.Runs.extract rfl rfl rfl) ?_
                      refine E.GL.run rfl rfl rfl (E.Runs.extract rfl rfl rfl) ?_
                      refine E.GL.run rfl rfl rfl (E.Runs.assign rfl rfl) ?_
                      refine E.GL.run rfl rfl rfl (E.Runs.assign rfl rfl) ?_
                      refine E.GL.done ?_
                      refine E.QG.code ?_
                      refine E.CG.seq ?_
                      refine E.CG.seq ?_
                      refine E.CG.list ?_
                      refine E.GL.run rfl rfl rfl (E.Runs.move rfl rfl) ?_
                      refine E.GL.run rfl rfl rfl (E.Runs.neq rfl rfl rfl (E.ne_f hck)) ?_
                      refine E.GL.run rfl rfl rfl (E.Runs.move rfl rfl) ?_
                      refine E.GL.run rfl rfl rfl (E.Runs.move rfl rfl) ?_
                      refine E.GL.run rfl rfl rfl (E.Runs.neq rfl rfl rfl (E.ne_f hck2)) ?_
                      refine E.GL.run rfl rfl rfl (E.Runs.pick_f rfl rfl rfl) ?_
                      refine E.GL.run rfl rfl rfl (E.Runs.move rfl rfl) ?_
                      refine E.GL.run rfl rfl rfl (E.Runs.move rfl rfl) ?_
                      refine E.GL.run rfl rfl rfl (E.Runs.lss rfl rfl rfl (decide_eq_false (by omega))) ?_
                      refine E.GL.run rfl rfl rfl (E.Runs.pick_f rfl rfl rfl) ?_
                      refine E.GL.run rfl rfl rfl (E.Runs.move rfl rfl) ?_
                      refine E.GL.run rfl rfl rfl (E.Runs.move rfl rfl) ?_
                      refine E.GL.run rfl rfl rfl (E.Runs.move rfl rfl) ?_
                      refine E.GL.run rfl rfl rfl (E.Runs.lss rfl rfl rfl (decide_eq_false (by omega))) ?_
                      refine E.GL.run rfl rfl rfl (E.Runs.pick_f rfl rfl rfl) ?_
                      refine E.GL.done ?_
                      refine E.QG.code ?_
                      refine E.CG.cond_f rfl ?_
                      refine E.CG.skip ?_
                      refine E.QG.code ?_
                      refine E.CG.seq ?_
                      refine E.CG.seq ?_
                      refine E.CG.list ?_
                      refine E.GL.run rfl rfl rfl (E.Runs.move rfl rfl) ?_
                      refine E.GL.cmp rfl rfl rfl (fun _ h => (E.Runs.eql rfl rfl rfl h)) (fun h154 => ?_) (fun h154 => ?_)
                      · refine E.GL.done ?_
                        refine E.QG.code ?_
                        refine E.CG.cond_t rfl ?_
                        refine E.CG.seq ?_
                        refine E.CG.list ?_
                        refine E.GL.st rfl rfl rfl (E.ST.call rfl ent13 E.evn ((works_calls _).mono ?_))
                        rintro e w155 ⟨rfl, l155⟩
                        refine ⟨_, rfl, ?_⟩
                        replace b3 := blk_below b3 l155
                        replace b4 := blk_below b4 l155
                        replace b7 := blk_below b7 l155
                        replace R2 := Kd.R_below R2 l155
                        replace L := below_step L l155
                        refine E.GL.run rfl rfl rfl (E.Runs.assign rfl rfl) ?_
                        refine E.GL.done ?_
                        refine E.QG.code ?_
                        refine E.CG.ret ?_
                        refine E.QG.pass_ret ?_
                        exact E.QG.result rfl rfl ⟨rfl, L⟩
                      · obtain ⟨me1, me2, me3, me4, me5⟩ := more_plain h25 hV0 h125.2 hsub rfl rfl h154
                        refine E.GL.done ?_
                        refine E.QG.code ?_
                        refine E.CG.cond_f rfl ?_
                        refine E.CG.skip ?_
                        refine E.QG.code ?_
                        refine E.CG.seq ?_
                        refine E.CG.list ?_
                        refine E.GL.run rfl rfl rfl (E.Runs.loads (cs := [.int .i64 M.fl, .int .i64 M.fh, .int .i64 M.al, .int .i64 M.ah, .int .i64 M.nl, .int .i64 M.nh, .int .i64 M.ra, .slice A M.gs.length c, .int .i64 M.wr]) rfl rfl hu26 rfl info26s (blk_cells b3)) ?_
                        refine E.GL.run rfl rfl rfl (E.Runs.move rfl rfl) ?_
                        refine E.GL.st rfl rfl rfl (E.ST.call rfl ent20 (E.evc rfl (E.evc rfl E.evn)) ((at_calls M A c h _ (Kd.C_below hr L) hg6).mono ?_))
                        rintro e w159 ⟨rfl, l159⟩
                        refine ⟨_, rfl, ?_⟩
                        replace b3 := blk_below b3 l159
                        replace b4 := blk_below b4 l159
                        replace b7 := blk_below b7 l159
                        replace R2 := Kd.R_below R2 l159
                        replace L := below_step L l159
                        refine E.GL.run rfl rfl rfl (E.Runs.move rfl rfl) ?_
                        refine E.GL.run rfl rfl rfl (E.Runs.extract rfl rfl rfl) ?_
                        refine E.GL.run rfl rfl rfl (E.Runs.extract rfl rfl rfl) ?_
                        refine E.GL.st rfl rfl rfl (E.ST.alloc rfl info23z fun g12 w12 e12 b12 l12 => ?_)
                        have h12_L : w.heap.size ≤ g12 := by rw [e12]; exact L.size
                        have n12_b3 : g3 ≠ g12 := by have := blk_lt b3; omega
                        have n12_b4 : g4 ≠ g12 := by have := blk_lt b4; omega
                        have n12_b7 : g7 ≠ g12 := by have := blk_lt b7; omega
                        have n12_R2 : some g12 ≠ ((Value.slice A2 gs2.length c2)).ownBlock := fun h => by have := Kd.R_lt R2 _ h.symm; omega
                        replace b3 := blk_below b3 l12
                        replace b4 := blk_below b4 l12
                        replace b7 := blk_below b7 l12
                        replace R2 := Kd.R_below R2 l12
                        replace L := below_step L l12
                        refine E.GL.store_whole rfl rfl rfl rfl rfl b12 rfl info23s (two_one _ _) fun wS17_7 c12 lS17_7 => ?_
                        replace b3 := blk_grown b3 lS17_7 (E.nes (by first | assumption | exact Ne.symm (by assumption)))
                        replace b4 := blk_grown b4 lS17_7 (E.nes (by first | assumption | exact Ne.symm (by assumption)))
                        replace b7 := blk_grown b7 lS17_7 (E.nes (by first | assumption | exact Ne.symm (by assumption)))
                        replace R2 := Kd.R_grown1 R2 rfl lS17_7 (by first | assumption | exact Kd.R_ne R2 b12 (by decide))
                        replace L := E.below_own L h12_L lS17_7
                        replace b12 := c12
                        clear c12
                        refine E.GL.run rfl rfl rfl (E.Runs.assign rfl rfl) ?_
                        refine E.GL.done ?_
                        refine E.QG.code ?_
                        refine E.CG.seq ?_
                        refine E.CG.list ?_
                        refine E.GL.run rfl rfl rfl (E.Runs.loads (cs := [.int .i64 (mx 0 (M.fl - xf)), .int .i64 (mn 400 (M.fh + xf)), .int .i64 (mx 0 (M.al - xa)), .int .i64 (mn 9 (M.ah + xa)), .int .i64 M.nl, .int .i64 M.nh, .int .i64 M.ra, .slice A2 gs2.length c2, .int .i64 (mn 3 (M.wr + xw))]) rfl rfl hu26 rfl info26s (blk_cells b7)) ?_
                        refine E.GL.run rfl rfl rfl (E.Runs.move rfl rfl) ?_
                        refine E.GL.st rfl rfl rfl (E.ST.call rfl ent20 (E.evc rfl (E.evc rfl E.evn)) ((at_calls (loose M gs2 xw xf xa) A2 c2 h _ ((Kd.R_reads' R2).2.2) hgO).mono ?_))
                        rintro e w165 ⟨rfl, l165⟩
                        refine ⟨_, rfl, ?_⟩
                        replace b3 := blk_below b3 l165
                        replace b4 := blk_below b4 l165
                        replace b7 := blk_below b7 l165
                        replace b12 := blk_below b12 l165
                        replace R2 := Kd.R_below R2 l165
                        replace L := below_step L l165
                        refine E.GL.run rfl rfl rfl (E.Runs.move rfl rfl) ?_
                        refine E.GL.run rfl rfl rfl (E.Runs.extract rfl rfl rfl) ?_
                        refine E.GL.run rfl rfl rfl (E.Runs.extract rfl rfl rfl) ?_
                        refine E.GL.st rfl rfl rfl (E.ST.alloc rfl info23z fun g14 w14 e14 b14 l14 => ?_)
                        have h14_L : w.heap.size ≤ g14 := by rw [e14]; exact L.size
                        have n14_b3 : g3 ≠ g14 := by have := blk_lt b3; omega
                        have n14_b4 : g4 ≠ g14 := by have := blk_lt b4; omega
                        have n14_b7 : g7 ≠ g14 := by have := blk_lt b7; omega
                        have n14_b12 : g12 ≠ g14 := by have := blk_lt b12; omega
                        have n14_R2 : some g14 ≠ ((Value.slice A2 gs2.length c2)).ownBlock := fun h => by have := Kd.R_lt R2 _ h.symm; omega
                        replace b3 := blk_below b3 l14
                        replace b4 := blk_below b4 l14
                        replace b7 := blk_below b7 l14
                        replace b12 := blk_below b12 l14
                        replace R2 := Kd.R_below R2 l14
                        replace L := below_step L l14
                        refine E.GL.store_whole rfl rfl rfl rfl rfl b14 rfl info23s (two_one _ _) fun wS18_7 c14 lS18_7 => ?_
                        replace b3 := blk_grown b3 lS18_7 (E.nes (by first | assumption | exact Ne.symm (by assumption)))
                        replace b4 := blk_grown b4 lS18_7 (E.nes (by first | assumption | exact Ne.symm (by assumption)))
                        replace b7 := blk_grown b7 lS18_7 (E.nes (by first | assumption | exact Ne.symm (by assumption)))
                        replace b12 := blk_grown b12 lS18_7 (E.nes (by first | assumption | exact Ne.symm (by assumption)))
                        replace R2 := Kd.R_grown1 R2 rfl lS18_7 (by first | assumption | exact Kd.R_ne R2 b14 (by decide))
                        replace L := E.below_own L h14_L lS18_7
                        replace b14 := c14
                        clear c14
                        refine E.GL.run rfl rfl rfl (E.Runs.assign rfl rfl) ?_
                        refine E.GL.done ?_
                        refine E.QG.code ?_
                        refine E.CG.seq ?_
                        refine E.CG.list ?_
                        refine E.GL.run rfl rfl rfl (E.Runs.loads (cs := [.int .i64 M.fl, .int .i64 M.fh, .int .i64 M.al, .int .i64 M.ah, .int .i64 M.nl, .int .i64 M.nh, .int .i64 M.ra, .slice A M.gs.length c, .int .i64 M.wr]) rfl rfl hu26 rfl info26s (blk_cells b3)) ?_
                        refine E.GL.run rfl rfl rfl (E.Runs.move rfl rfl) ?_
                        refine E.GL.st rfl rfl rfl (E.ST.call rfl ent27 (E.evc rfl (E.evc rfl E.evn)) ((keeps_calls M A c h _ (Kd.C_below hr L) hg6).mono ?_))
                        rintro e w171 ⟨rfl, l171⟩
                        refine ⟨_, rfl, ?_⟩
                        replace b3 := blk_below b3 l171
                        replace b4 := blk_below b4 l171
                        replace b7 := blk_below b7 l171
                        replace b12 := blk_below b12 l171
                        replace b14 := blk_below b14 l171
                        replace R2 := Kd.R_below R2 l171
                        replace L := below_step L l171
                        refine E.GL.run rfl rfl rfl (E.Runs.move rfl rfl) ?_
                        refine E.GL.run rfl rfl rfl (E.Runs.extract rfl rfl rfl) ?_
                        refine E.GL.run rfl rfl rfl (E.Runs.extract rfl rfl rfl) ?_
                        refine E.GL.run rfl rfl rfl (E.Runs.assign rfl rfl) ?_
                        refine E.GL.run rfl rfl rfl (E.Runs.assign rfl rfl) ?_
                        refine E.GL.done ?_
                        refine E.QG.code ?_
                        refine E.CG.seq ?_
                        refine E.CG.list ?_
                        refine E.GL.run rfl rfl rfl (E.Runs.loads (cs := [.int .i64 (mx 0 (M.fl - xf)), .int .i64 (mn 400 (M.fh + xf)), .int .i64 (mx 0 (M.al - xa)), .int .i64 (mn 9 (M.ah + xa)), .int .i64 M.nl, .int .i64 M.nh, .int .i64 M.ra, .slice A2 gs2.length c2, .int .i64 (mn 3 (M.wr + xw))]) rfl rfl hu26 rfl info26s (blk_cells b7)) ?_
                        refine E.GL.run rfl rfl rfl (E.Runs.move rfl rfl) ?_
                        refine E.GL.st rfl rfl rfl (E.ST.call rfl ent27 (E.evc rfl (E.evc rfl E.evn)) ((keeps_calls (loose M gs2 xw xf xa) A2 c2 h _ ((Kd.R_reads' R2).2.2) hgO).mono ?_))
                        rintro e w177 ⟨rfl, l177⟩
                        refine ⟨_, rfl, ?_⟩
                        replace b3 := blk_below b3 l177
                        replace b4 := blk_below b4 l177
                        replace b7 := blk_below b7 l177
                        replace b12 := blk_below b12 l177
                        replace b14 := blk_below b14 l177
                        replace R2 := Kd.R_below R2 l177
                        replace L := below_step L l177
                        refine E.GL.run rfl rfl rfl (E.Runs.move rfl rfl) ?_
                        refine E.GL.run rfl rfl rfl (E.Runs.extract rfl rfl rfl) ?_
                        refine E.GL.run rfl rfl rfl (E.Runs.extract rfl rfl rfl) ?_
                        refine E.GL.run rfl rfl rfl (E.Runs.assign rfl rfl) ?_
                        refine E.GL.run rfl rfl rfl (E.Runs.assign rfl rfl) ?_
                        refine E.GL.done ?_
                        refine E.QG.code ?_
                        refine E.CG.seq ?_
                        refine E.CG.list ?_
                        refine E.GL.run rfl rfl rfl (E.Runs.move rfl rfl) ?_
                        refine E.GL.run rfl rfl rfl (E.Runs.eql rfl rfl rfl (decide_eq_true me1)) ?_
                        refine E.GL.run rfl rfl rfl (E.Runs.move rfl rfl) ?_
                        refine E.GL.run rfl rfl rfl (E.Runs.move rfl rfl) ?_
                        refine E.GL.run rfl rfl rfl (E.Runs.eql rfl rfl rfl (decide_eq_true me2)) ?_
                        refine E.GL.run rfl rfl rfl (E.Runs.pick_t rfl rfl rfl) ?_
                        refine E.GL.run rfl rfl rfl (E.Runs.move rfl rfl) ?_
                        refine E.GL.run rfl rfl rfl (E.Runs.move rfl rfl) ?_
                        refine E.GL.run rfl rfl rfl (E.Runs.eql rfl rfl rfl (decide_eq_true me1)) ?_
                        refine E.GL.run rfl rfl rfl (E.Runs.pick_t rfl rfl rfl) ?_
                        refine E.GL.run rfl rfl rfl (E.Runs.move rfl rfl) ?_
                        refine E.GL.run rfl rfl rfl (E.Runs.move rfl rfl) ?_
                        refine E.GL.run rfl rfl rfl (E.Runs.eql rfl rfl rfl (decide_eq_true me2)) ?_
                        refine E.GL.run rfl rfl rfl (E.Runs.pick_t rfl rfl rfl) ?_
                        refine E.GL.run rfl rfl rfl (E.Runs.move rfl rfl) ?_
                        refine E.GL.run rfl rfl rfl (E.Runs.fieldAddr rfl rfl hu23 rfl (by assumption) rfl) ?_
                        refine E.GL.run rfl rfl rfl (E.Runs.load rfl rfl hu3 (by first | assumption | exact E.blkc (by assumption) rfl | exact pw_cell_below L (by assumption))) ?_
                        refine E.GL.run rfl rfl rfl (E.Runs.fieldAddr rfl rfl hu23 rfl (by assumption) rfl) ?_
                        refine E.GL.run rfl rfl rfl (E.Runs.load rfl rfl hu3 (by first | assumption | exact E.blkc (by assumption) rfl | exact pw_cell_below L (by assumption))) ?_
                        refine E.GL.run rfl rfl rfl (E.Runs.leq rfl rfl rfl (decide_eq_true (by omega))) ?_
                        refine E.GL.run rfl rfl rfl (E.Runs.pick_t rfl rfl rfl) ?_
                        refine E.GL.run rfl rfl rfl (E.Runs.move rfl rfl) ?_
                        refine E.GL.run rfl rfl rfl (E.Runs.fieldAddr rfl rfl hu23 rfl (by assumption) rfl) ?_
                        refine E.GL.run rfl rfl rfl (E.Runs.load rfl rfl hu3 (by first | assumption | exact E.blkc (by assumption) rfl | exact pw_cell_below L (by assumption))) ?_
                        refine E.GL.run rfl rfl rfl (E.Runs.fieldAddr rfl rfl hu23 rfl (by assumption) rfl) ?_
                        refine E.GL.run rfl rfl rfl (E.Runs.load rfl rfl hu3 (by first | assumption | exact E.blkc (by assumption) rfl | exact pw_cell_below L (by assumption))) ?_
                        refine E.GL.run rfl rfl rfl (E.Runs.leq rfl rfl rfl (decide_eq_true (by omega))) ?_
                        refine E.GL.run rfl rfl rfl (E.Runs.pick_t rfl rfl rfl) ?_
                        refine E.GL.run rfl rfl rfl (E.Runs.move rfl rfl) ?_
                        refine E.GL.run rfl rfl rfl (E.Runs.move rfl rfl) ?_
                        refine E.GL.run rfl rfl rfl (E.Runs.move rfl rfl) ?_
                        refine E.GL.cmp rfl rfl rfl (fun _ h => (E.Runs.eql rfl rfl rfl h)) (fun h211 => ?_) (fun h211 => ?_)
                        · refine E.GL.run rfl rfl rfl (E.Runs.move rfl rfl) ?_
                          refine E.GL.skip rfl rfl rfl ?_
                          refine E.GL.skip rfl rfl rfl ?_
                          refine E.GL.run rfl rfl rfl (E.Runs.pick_t rfl rfl rfl) ?_
                          refine E.GL.run rfl rfl rfl (E.Runs.pick_t rfl rfl rfl) ?_
                          refine E.GL.run rfl rfl rfl (E.Runs.move rfl rfl) ?_
                          refine E.GL.st rfl rfl rfl (E.ST.call rfl ent13 E.evn ((works_calls _).mono ?_))
                          rintro e w218 ⟨rfl, l218⟩
                          refine ⟨_, rfl, ?_⟩
                          replace b3 := blk_below b3 l218
                          replace b4 := blk_below b4 l218
                          replace b7 := blk_below b7 l218
                          replace b12 := blk_below b12 l218
                          replace b14 := blk_below b14 l218
                          replace R2 := Kd.R_below R2 l218
                          replace L := below_step L l218
                          refine E.GL.run rfl rfl rfl (E.Runs.pick_t rfl rfl rfl) ?_
                          refine E.GL.run rfl rfl rfl (E.Runs.assign rfl rfl) ?_
                          refine E.GL.done ?_
                          refine E.QG.code ?_
                          refine E.CG.ret ?_
                          exact E.QG.result rfl rfl ⟨rfl, L⟩
                        · refine E.GL.run rfl rfl rfl (E.Runs.move rfl rfl) ?_
                          refine E.GL.run rfl rfl rfl (E.Runs.move rfl rfl) ?_
                          refine E.GL.run rfl rfl rfl (E.Runs.eql rfl rfl rfl (decide_eq_true (me5 h211))) ?_
                          refine E.GL.run rfl rfl rfl (E.Runs.pick_f rfl rfl rfl) ?_
                          refine E.GL.run rfl rfl rfl (E.Runs.pick_t rfl rfl rfl) ?_
                          refine E.GL.run rfl rfl rfl (E.Runs.move rfl rfl) ?_
                          refine E.GL.st rfl rfl rfl (E.ST.call rfl ent13 E.evn ((works_calls _).mono ?_))
                          rintro e w218 ⟨rfl, l218⟩
                          refine ⟨_, rfl, ?_⟩
                          replace b3 := blk_below b3 l218
                          replace b4 := blk_below b4 l218
                          replace b7 := blk_below b7 l218
                          replace b12 := blk_below b12 l218
                          replace b14 := blk_below b14 l218
                          replace R2 := Kd.R_below R2 l218
                          replace L := below_step L l218
                          refine E.GL.run rfl rfl rfl (E.Runs.pick_t rfl rfl rfl) ?_
                          refine E.GL.run rfl rfl rfl (E.Runs.assign rfl rfl) ?_
                          refine E.GL.done ?_
                          refine E.QG.code ?_
                          refine E.CG.ret ?_
                          exact E.QG.result rfl rfl ⟨rfl, L⟩
                    · refine E.GL.st rfl rfl rfl (E.ST.call rfl ent18 (E.evc rfl E.evn) ((ready_calls (loose M gs2 xw xf xa) A2 c2 _ false (iff_of_false Bool.false_ne_true h125) ((Kd.R_reads' R2).2.2)).mono ?_))
                      rintro e w125 ⟨rfl, l125⟩
                      refine ⟨_, rfl, ?_⟩
                      replace b3 := blk_below b3 l125
                      replace b4 := blk_below b4 l125
                      replace b7 := blk_below b7 l125
                      replace R2 := Kd.R_below R2 l125
                      replace L := below_step L l125
                      refine E.GL.run rfl rfl rfl (E.Runs.not rfl rfl) ?_
                      refine E.GL.done ?_
                      refine E.QG.code ?_
                      refine E.CG.cond_t rfl ?_
                      refine E.CG.seq ?_
                      refine E.CG.list ?_
                      refine E.GL.st rfl rfl rfl (E.ST.call rfl ent13 E.evn ((works_calls _).mono ?_))
                      rintro e w127 ⟨rfl, l127⟩
                      refine ⟨_, rfl, ?_⟩
                      replace b3 := blk_below b3 l127
                      replace b4 := blk_below b4 l127
                      replace b7 := blk_below b7 l127
                      replace R2 := Kd.R_below R2 l127
                      replace L := below_step L l127
                      refine E.GL.run rfl rfl rfl (E.Runs.assign rfl rfl) ?_
                      refine E.GL.done ?_
                      refine E.QG.code ?_
                      refine E.CG.ret ?_
                      refine E.QG.pass_ret ?_
                      exact E.QG.result rfl rfl ⟨rfl, L⟩
    · refine E.GL.st rfl rfl rfl (E.ST.call rfl ent19 (E.evc rfl E.evn) ((ishour_calls h _ false (iff_of_false Bool.false_ne_true h25)).mono ?_))
      rintro e w25 ⟨rfl, l25⟩
      refine ⟨_, rfl, ?_⟩
      replace b3 := blk_below b3 l25
      replace b4 := blk_below b4 l25
      replace L := below_step L l25
      refine E.GL.run rfl rfl rfl (E.Runs.not rfl rfl) ?_
      refine E.GL.run rfl rfl rfl (E.Runs.pick_f rfl rfl rfl) ?_
      refine E.GL.run rfl rfl rfl (E.Runs.move rfl rfl) ?_
      refine E.GL.skip rfl rfl rfl ?_
      refine E.GL.skip rfl rfl rfl ?_
      refine E.GL.skip rfl rfl rfl ?_
      refine E.GL.run rfl rfl rfl (E.Runs.pick_t rfl rfl rfl) ?_
      refine E.GL.run rfl rfl rfl (E.Runs.move rfl rfl) ?_
      refine E.GL.skip rfl rfl rfl ?_
      refine E.GL.skip rfl rfl rfl ?_
      refine E.GL.skip rfl rfl rfl ?_
      refine E.GL.run rfl rfl rfl (E.Runs.pick_t rfl rfl rfl) ?_
      refine E.GL.run rfl rfl rfl (E.Runs.move rfl rfl) ?_
      refine E.GL.skip rfl rfl rfl ?_
      refine E.GL.skip rfl rfl rfl ?_
      refine E.GL.skip rfl rfl rfl ?_
      refine E.GL.run rfl rfl rfl (E.Runs.pick_t rfl rfl rfl) ?_
      refine E.GL.run rfl rfl rfl (E.Runs.move rfl rfl) ?_
      refine E.GL.skip rfl rfl rfl ?_
      refine E.GL.skip rfl rfl rfl ?_
      refine E.GL.skip rfl rfl rfl ?_
      refine E.GL.run rfl rfl rfl (E.Runs.pick_t rfl rfl rfl) ?_
      refine E.GL.run rfl rfl rfl (E.Runs.move rfl rfl) ?_
      refine E.GL.skip rfl rfl rfl ?_
      refine E.GL.skip rfl rfl rfl ?_
      refine E.GL.skip rfl rfl rfl ?_
      refine E.GL.run rfl rfl rfl (E.Runs.pick_t rfl rfl rfl) ?_
      refine E.GL.run rfl rfl rfl (E.Runs.move rfl rfl) ?_
      refine E.GL.skip rfl rfl rfl ?_
      refine E.GL.skip rfl rfl rfl ?_
      refine E.GL.skip rfl rfl rfl ?_
      refine E.GL.run rfl rfl rfl (E.Runs.pick_t rfl rfl rfl) ?_
      refine E.GL.done ?_
      refine E.QG.code ?_
      refine E.CG.cond_t rfl ?_
      refine E.CG.seq ?_
      refine E.CG.list ?_
      refine E.GL.st rfl rfl rfl (E.ST.call rfl ent13 E.evn ((works_calls _).mono ?_))
      rintro e w58 ⟨rfl, l58⟩
      refine ⟨_, rfl, ?_⟩
      replace b3 := blk_below b3 l58
      replace b4 := blk_below b4 l58
      replace L := below_step L l58
      refine E.GL.run rfl rfl rfl (E.Runs.assign rfl rfl) ?_
      refine E.GL.done ?_
      refine E.QG.code ?_
      refine E.CG.ret ?_
      refine E.QG.pass_ret ?_
      exact E.QG.result rfl rfl ⟨rfl, L⟩
  · refine E.GL.st rfl rfl rfl (E.ST.call rfl ent18 (E.evc rfl E.evn) ((ready_calls M A c _ false (iff_of_false Bool.false_ne_true h21) (Kd.C_below hr L)).mono ?_))
    rintro e w21 ⟨rfl, l21⟩
    refine ⟨_, rfl, ?_⟩
    replace b3 := blk_below b3 l21
    replace b4 := blk_below b4 l21
    replace L := below_step L l21
    refine E.GL.run rfl rfl rfl (E.Runs.not rfl rfl) ?_
    refine E.GL.run rfl rfl rfl (E.Runs.move rfl rfl) ?_
    refine E.GL.skip rfl rfl rfl ?_
    refine E.GL.skip rfl rfl rfl ?_
    refine E.GL.skip rfl rfl rfl ?_
    refine E.GL.run rfl rfl rfl (E.Runs.pick_t rfl rfl rfl) ?_
    refine E.GL.run rfl rfl rfl (E.Runs.move rfl rfl) ?_
    refine E.GL.skip rfl rfl rfl ?_
    refine E.GL.skip rfl rfl rfl ?_
    refine E.GL.skip rfl rfl rfl ?_
    refine E.GL.run rfl rfl rfl (E.Runs.pick_t rfl rfl rfl) ?_
    refine E.GL.run rfl rfl rfl (E.Runs.move rfl rfl) ?_
    refine E.GL.skip rfl rfl rfl ?_
    refine E.GL.skip rfl rfl rfl ?_
    refine E.GL.skip rfl rfl rfl ?_
    refine E.GL.run rfl rfl rfl (E.Runs.pick_t rfl rfl rfl) ?_
    refine E.GL.run rfl rfl rfl (E.Runs.move rfl rfl) ?_
    refine E.GL.skip rfl rfl rfl ?_
    refine E.GL.skip rfl rfl rfl ?_
    refine E.GL.skip rfl rfl rfl ?_
    refine E.GL.run rfl rfl rfl (E.Runs.pick_t rfl rfl rfl) ?_
    refine E.GL.run rfl rfl rfl (E.Runs.move rfl rfl) ?_
    refine E.GL.skip rfl rfl rfl ?_
    refine E.GL.skip rfl rfl rfl ?_
    refine E.GL.skip rfl rfl rfl ?_
    refine E.GL.run rfl rfl rfl (E.Runs.pick_t rfl rfl rfl) ?_
    refine E.GL.run rfl rfl rfl (E.Runs.move rfl rfl) ?_
    refine E.GL.skip rfl rfl rfl ?_
    refine E.GL.skip rfl rfl rfl ?_
    refine E.GL.skip rfl rfl rfl ?_
    refine E.GL.run rfl rfl rfl (E.Runs.pick_t rfl rfl rfl) ?_
    refine E.GL.run rfl rfl rfl (E.Runs.move rfl rfl) ?_
    refine E.GL.skip rfl rfl rfl ?_
    refine E.GL.skip rfl rfl rfl ?_
    refine E.GL.skip rfl rfl rfl ?_
    refine E.GL.run rfl rfl rfl (E.Runs.pick_t rfl rfl rfl) ?_
    refine E.GL.done ?_
    refine E.QG.code ?_
    refine E.CG.cond_t rfl ?_
    refine E.CG.seq ?_
    refine E.CG.list ?_
    refine E.GL.st rfl rfl rfl (E.ST.call rfl ent13 E.evn ((works_calls _).mono ?_))
    rintro e w58 ⟨rfl, l58⟩
    refine ⟨_, rfl, ?_⟩
    replace b3 := blk_below b3 l58
    replace b4 := blk_below b4 l58
    replace L := below_step L l58
    refine E.GL.run rfl rfl rfl (E.Runs.assign rfl rfl) ?_
    refine E.GL.done ?_
    refine E.QG.code ?_
    refine E.CG.ret ?_
    refine E.QG.pass_ret ?_
    exact E.QG.result rfl rfl ⟨rfl, L⟩

end Go.Proofs.Ytbajpjnloikpdaa.T
