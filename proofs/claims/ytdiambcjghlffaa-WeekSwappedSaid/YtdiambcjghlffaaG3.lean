/- Texts of this claim, put together: A9, N4, A10, A11, A12, A13, A14, N5, N6, N7, A15, A16, A17, A18, A19, N8, A20, A21, N9, A22, A23. -/
import Derived.Test.YtdiambcjghlffaaG2
namespace Go.Proofs.Ytdiambcjghlffaa.T
open Go.RowKit Go.Proofs.YtdiambcjghlffaaW.PrintWords Go.Proofs.YtdiambcjghlffaaW.PrintMore
open Go.Proofs.Ytdiambcjghlffaa.P
set_option linter.unusedVariables false
set_option linter.unusedSimpArgs false

/-- The first so many slots are dark. -/
def rp (m n : Nat) : List Value := List.replicate m (.int .i64 (-1)) ++ List.replicate (n - m) (.int .i64 0)
theorem rp_zero (n : Nat) : rp 0 n = List.replicate n (.int .i64 0) := by simp [rp]
theorem rp_full (n : Nat) : rp n n = (List.replicate n (-1 : Int)).map (Value.int .i64) := by simp [rp]
theorem rp_len {m n : Nat} (h : m ≤ n) : (rp m n).length = n := by simp [rp]; omega
theorem rp_copy {m n k : Nat} (h : m + k ≤ n) : (rp m n).take m ++ (List.replicate k (.int .i64 (-1)) ++ (rp m n).drop (m + (List.replicate k (Value.int .i64 (-1))).length)) = rp (m + k) n := by
  unfold rp
  rw [List.length_replicate, List.take_left' (by simp), List.drop_append, List.length_replicate, List.drop_eq_nil_of_le (by simp), List.nil_append, Nat.add_sub_cancel_left, List.drop_replicate, ← List.append_assoc, List.replicate_append_replicate, Nat.sub_sub]
theorem rp_at {m n j : Nat} (h : j < m) : (rp m n)[j]? = some (.int .i64 (-1)) := by
  unfold rp
  rw [List.getElem?_append_left (by simpa using h)]
  simp [h]
set_option maxRecDepth 100000 in
set_option maxHeartbeats 8000000 in

theorem mul64_calls (x y : Nat) (w : World) (hx : x < 65536) (hy : y < 65536) :
    Calls Try.prog 85 #[.int .u64 (x : Int), .int .u64 (y : Int)] w fun e w' => e = .returned (.tuple #[.int .u64 0, .int .u64 ((x * y : Nat) : Int)]) ∧ Below w.heap.size w w' := by
  have hxy : x * y ≤ 65535 * 65535 := Nat.mul_le_mul (by omega) (by omega)
  have hxy2 : x * y < 2 ^ 32 := by omega
  refine E.enter (N := 51) Try.func85 rfl Try.ntmps85 (args := [.int .u64 (x : Int), .int .u64 (y : Int)]) (by simp) ?_
  have L := Below.refl w.heap.size w
  refine E.CG.seq ?_
  refine E.CG.list ?_
  refine E.GL.run rfl rfl rfl (E.Runs.assign rfl rfl) ?_
  refine E.GL.run rfl rfl rfl (E.Runs.assign rfl rfl) ?_
  refine E.GL.done ?_
  refine E.QG.code ?_
  refine E.CG.seq ?_
  refine E.CG.list ?_
  refine E.GL.run rfl rfl rfl (E.Runs.move rfl rfl) ?_
  refine E.GL.run rfl rfl rfl (E.Runs.low32 (a := x) rfl rfl rfl (by omega)) ?_
  refine E.GL.run rfl rfl rfl (E.Runs.assign rfl rfl) ?_
  refine E.GL.done ?_
  refine E.QG.code ?_
  refine E.CG.seq ?_
  refine E.CG.list ?_
  refine E.GL.run rfl rfl rfl (E.Runs.move rfl rfl) ?_
  refine E.GL.run rfl rfl rfl (E.Runs.hi32 (a := x) rfl rfl rfl (by omega)) ?_
  refine E.GL.run rfl rfl rfl (E.Runs.assign rfl rfl) ?_
  refine E.GL.done ?_
  refine E.QG.code ?_
  refine E.CG.seq ?_
  refine E.CG.list ?_
  refine E.GL.run rfl rfl rfl (E.Runs.move rfl rfl) ?_
  refine E.GL.run rfl rfl rfl (E.Runs.low32 (a := y) rfl rfl rfl (by omega)) ?_
  refine E.GL.run rfl rfl rfl (E.Runs.assign rfl rfl) ?_
  refine E.GL.done ?_
  refine E.QG.code ?_
  refine E.CG.seq ?_
  refine E.CG.list ?_
  refine E.GL.run rfl rfl rfl (E.Runs.move rfl rfl) ?_
  refine E.GL.run rfl rfl rfl (E.Runs.hi32 (a := y) rfl rfl rfl (by omega)) ?_
  refine E.GL.run rfl rfl rfl (E.Runs.assign rfl rfl) ?_
  refine E.GL.done ?_
  refine E.QG.code ?_
  refine E.CG.seq ?_
  refine E.CG.list ?_
  refine E.GL.run rfl rfl rfl (E.Runs.move rfl rfl) ?_
  refine E.GL.run rfl rfl rfl (E.Runs.move rfl rfl) ?_
  refine E.GL.run rfl rfl rfl (E.Runs.mul rfl rfl rfl (show _ = ((x * y : Nat) : Int) from by rw [← Int.natCast_mul]; exact E.u64_in _ (by omega))) ?_
  refine E.GL.run rfl rfl rfl (E.Runs.assign rfl rfl) ?_
  refine E.GL.done ?_
  refine E.QG.code ?_
  refine E.CG.seq ?_
  refine E.CG.list ?_
  refine E.GL.run rfl rfl rfl (E.Runs.move rfl rfl) ?_
  refine E.GL.run rfl rfl rfl (E.Runs.move rfl rfl) ?_
  refine E.GL.run rfl rfl rfl (E.Runs.mul rfl rfl rfl (show _ = (0 : Int) from by rw [Int.zero_mul]; decide)) ?_
  refine E.GL.run rfl rfl rfl (E.Runs.move rfl rfl) ?_
  refine E.GL.run rfl rfl rfl (E.Runs.hi32 (a := x * y) rfl rfl rfl hxy2) ?_
  refine E.GL.run rfl rfl rfl (E.Runs.add rfl rfl rfl (show _ = (0 : Int) from by decide)) ?_
  refine E.GL.run rfl rfl rfl (E.Runs.assign rfl rfl) ?_
  refine E.GL.done ?_
  refine E.QG.code ?_
  refine E.CG.seq ?_
  refine E.CG.list ?_
  refine E.GL.run rfl rfl rfl (E.Runs.move rfl rfl) ?_
  refine E.GL.run rfl rfl rfl (E.Runs.low32 (a := 0) rfl rfl rfl (by omega)) ?_
  refine E.GL.run rfl rfl rfl (E.Runs.assign rfl rfl) ?_
  refine E.GL.done ?_
  refine E.QG.code ?_
  refine E.CG.seq ?_
  refine E.CG.list ?_
  refine E.GL.run rfl rfl rfl (E.Runs.move rfl rfl) ?_
  refine E.GL.run rfl rfl rfl (E.Runs.hi32 (a := 0) rfl rfl rfl (by omega)) ?_
  refine E.GL.run rfl rfl rfl (E.Runs.assign rfl rfl) ?_
  refine E.GL.done ?_
  refine E.QG.code ?_
  refine E.CG.seq ?_
  refine E.CG.list ?_
  refine E.GL.run rfl rfl rfl (E.Runs.move rfl rfl) ?_
  refine E.GL.run rfl rfl rfl (E.Runs.move rfl rfl) ?_
  refine E.GL.run rfl rfl rfl (E.Runs.move rfl rfl) ?_
  refine E.GL.run rfl rfl rfl (E.Runs.mul rfl rfl rfl (show _ = (0 : Int) from by rw [Int.mul_zero]; decide)) ?_
  refine E.GL.run rfl rfl rfl (E.Runs.add rfl rfl rfl (show _ = (0 : Int) from by decide)) ?_
  refine E.GL.run rfl rfl rfl (E.Runs.assign rfl rfl) ?_
  refine E.GL.done ?_
  refine E.QG.code ?_
  refine E.CG.seq ?_
  refine E.CG.list ?_
  refine E.GL.run rfl rfl rfl (E.Runs.move rfl rfl) ?_
  refine E.GL.run rfl rfl rfl (E.Runs.move rfl rfl) ?_
  refine E.GL.run rfl rfl rfl (E.Runs.mul rfl rfl rfl (show _ = (0 : Int) from by decide)) ?_
  refine E.GL.run rfl rfl rfl (E.Runs.move rfl rfl) ?_
  refine E.GL.run rfl rfl rfl (E.Runs.add rfl rfl rfl (show _ = (0 : Int) from by decide)) ?_
  refine E.GL.run rfl rfl rfl (E.Runs.move rfl rfl) ?_
  refine E.GL.run rfl rfl rfl (E.Runs.hi32 (a := 0) rfl rfl rfl (by omega)) ?_
  refine E.GL.run rfl rfl rfl (E.Runs.add rfl rfl rfl (show _ = (0 : Int) from by decide)) ?_
  refine E.GL.run rfl rfl rfl (E.Runs.assign rfl rfl) ?_
  refine E.GL.done ?_
  refine E.QG.code ?_
  refine E.CG.seq ?_
  refine E.CG.list ?_
  refine E.GL.run rfl rfl rfl (E.Runs.move rfl rfl) ?_
  refine E.GL.run rfl rfl rfl (E.Runs.move rfl rfl) ?_
  refine E.GL.run rfl rfl rfl (E.Runs.mul rfl rfl rfl (show _ = ((x * y : Nat) : Int) from by rw [← Int.natCast_mul]; exact E.u64_in _ (by omega))) ?_
  refine E.GL.run rfl rfl rfl (E.Runs.assign rfl rfl) ?_
  refine E.GL.done ?_
  refine E.QG.code ?_
  refine E.CG.ret ?_
  exact E.QG.result2 rfl rfl rfl ⟨rfl, L⟩

set_option maxRecDepth 100000 in
set_option maxHeartbeats 8000000 in

theorem mul_calls (x y : Nat) (w : World) (hx : x < 65536) (hy : y < 65536) :
    Calls Try.prog 83 #[.int .u64 (x : Int), .int .u64 (y : Int)] w fun e w' => e = .returned (.tuple #[.int .u64 0, .int .u64 ((x * y : Nat) : Int)]) ∧ Below w.heap.size w w' := by
  refine E.enter (N := 30) Try.func83 rfl Try.ntmps83 (args := [.int .u64 (x : Int), .int .u64 (y : Int)]) (by simp) ?_
  have L := Below.refl w.heap.size w
  refine E.CG.seq ?_
  refine E.CG.list ?_
  refine E.GL.run rfl rfl rfl (E.Runs.assign rfl rfl) ?_
  refine E.GL.run rfl rfl rfl (E.Runs.assign rfl rfl) ?_
  refine E.GL.done ?_
  refine E.QG.code ?_
  refine E.CG.seq ?_
  refine E.CG.cond_f rfl ?_
  refine E.CG.skip ?_
  refine E.QG.code ?_
  refine E.CG.seq ?_
  refine E.CG.list ?_
  refine E.GL.run rfl rfl rfl (E.Runs.move rfl rfl) ?_
  refine E.GL.run rfl rfl rfl (E.Runs.move rfl rfl) ?_
  refine E.GL.st rfl rfl rfl (E.ST.call rfl ent85 (E.evc rfl (E.evc rfl E.evn)) ((mul64_calls x y _ hx hy).mono ?_))
  rintro e w25 ⟨rfl, l25⟩
  refine ⟨_, rfl, ?_⟩
  replace L := below_step L l25
  refine E.GL.run rfl rfl rfl (E.Runs.move rfl rfl) ?_
  refine E.GL.run rfl rfl rfl (E.Runs.extract rfl rfl rfl) ?_
  refine E.GL.run rfl rfl rfl (E.Runs.extract rfl rfl rfl) ?_
  refine E.GL.run rfl rfl rfl (E.Runs.assign rfl rfl) ?_
  refine E.GL.run rfl rfl rfl (E.Runs.assign rfl rfl) ?_
  refine E.GL.done ?_
  refine E.QG.code ?_
  refine E.CG.seq ?_
  refine E.CG.list ?_
  refine E.GL.run rfl rfl rfl (E.Runs.move rfl rfl) ?_
  refine E.GL.run rfl rfl rfl (E.Runs.move rfl rfl) ?_
  refine E.GL.run rfl rfl rfl (E.Runs.assign rfl rfl) ?_
  refine E.GL.run rfl rfl rfl (E.Runs.assign rfl rfl) ?_
  refine E.GL.done ?_
  refine E.QG.code ?_
  refine E.CG.ret ?_
  exact E.QG.result2 rfl rfl rfl ⟨rfl, L⟩

set_option maxRecDepth 100000 in
set_option maxHeartbeats 8000000 in

theorem repeat_calls (g0 n : Nat) (w : World) (h1 : 1 ≤ n) (h8 : n ≤ 8) (b0 : w.heap[g0]? = some (.cells #[.int .i64 (-1)] 3 (0, 0))) :
    Calls Try.prog 81 #[.slice (some ⟨g0, 0, none⟩) 1 1, .int .i64 (n : Int)] w fun e w' => ∃ g, e = .returned (.slice (some ⟨g, 0, none⟩) n n) ∧ w'.heap[g]? = some (.cells ((List.replicate n (-1 : Int)).map (Value.int .i64)).toArray 3 (0, 0)) ∧ w.heap.size ≤ g ∧ Below w.heap.size w w' := by
  have hu3 := Try.underlying3
  have hu22 := Try.underlying22
  have hu65 := Try.underlying65
  obtain ⟨z3, o3⟩ := info_some info3s (by decide)
  refine E.enter (N := 48) Try.func81 rfl Try.ntmps81 (args := [.slice (some ⟨g0, 0, none⟩) 1 1, .int .i64 (n : Int)]) (by simp) ?_
  have L := Below.refl w.heap.size w
  refine E.CG.seq ?_
  refine E.CG.list ?_
  refine E.GL.run rfl rfl rfl (E.Runs.assign rfl rfl) ?_
  refine E.GL.done ?_
  refine E.QG.code ?_
  refine E.CG.seq ?_
  refine E.CG.seq ?_
  refine E.CG.list ?_
  refine E.GL.run rfl rfl rfl (E.Runs.move rfl rfl) ?_
  refine E.GL.run rfl rfl rfl (E.Runs.lss rfl rfl rfl (decide_eq_false (by omega))) ?_
  refine E.GL.done ?_
  refine E.QG.code ?_
  refine E.CG.cond_f rfl ?_
  refine E.CG.skip ?_
  refine E.QG.code ?_
  refine E.CG.seq ?_
  refine E.CG.list ?_
  refine E.GL.run rfl rfl rfl (E.Runs.move rfl rfl) ?_
  refine E.GL.run rfl rfl rfl (E.Runs.len rfl rfl hu22) ?_
  refine E.GL.run rfl rfl rfl (E.Runs.conv (a := 1) hu65 hu3 (.inl rfl) rfl rfl (by omega)) ?_
  refine E.GL.run rfl rfl rfl (E.Runs.move rfl rfl) ?_
  refine E.GL.run rfl rfl rfl (E.Runs.conv (a := n) hu65 hu3 (.inl rfl) rfl rfl (by omega)) ?_
  refine E.GL.st rfl rfl rfl (E.ST.call rfl ent83 (E.evc rfl (E.evc rfl E.evn)) ((mul_calls 1 n _ (by omega) (by omega)).mono ?_))
  rintro e w18 ⟨rfl, l18⟩
  refine ⟨_, rfl, ?_⟩
  replace L := below_step L l18
  rw [Nat.one_mul]
  refine E.GL.run rfl rfl rfl (E.Runs.move rfl rfl) ?_
  refine E.GL.run rfl rfl rfl (E.Runs.extract rfl rfl rfl) ?_
  refine E.GL.run rfl rfl rfl (E.Runs.extract rfl rfl rfl) ?_
  refine E.GL.run rfl rfl rfl (E.Runs.assign rfl rfl) ?_
  refine E.GL.run rfl rfl rfl (E.Runs.assign rfl rfl) ?_
  refine E.GL.done ?_
  refine E.QG.code ?_
  refine E.CG.seq ?_
  refine E.CG.seq ?_
  refine E.CG.list ?_
  refine E.GL.run rfl rfl rfl (E.Runs.move rfl rfl) ?_
  refine E.GL.run rfl rfl rfl (E.Runs.gtr rfl rfl rfl (decide_eq_false (by omega))) ?_
  refine E.GL.run rfl rfl rfl (E.Runs.move rfl rfl) ?_
  refine E.GL.run rfl rfl rfl (E.Runs.move rfl rfl) ?_
  refine E.GL.run rfl rfl rfl (E.Runs.gtr rfl rfl rfl (decide_eq_false (by omega))) ?_
  refine E.GL.run rfl rfl rfl (E.Runs.pick_f rfl rfl rfl) ?_
  refine E.GL.done ?_
  refine E.QG.code ?_
  refine E.CG.cond_f rfl ?_
  refine E.CG.skip ?_
  refine E.QG.code ?_
  refine E.CG.seq ?_
  refine E.CG.list ?_
  refine E.GL.run rfl rfl rfl (E.Runs.move rfl rfl) ?_
  refine E.GL.run rfl rfl rfl (E.Runs.conv (a := n) hu3 hu65 (.inr rfl) rfl rfl (by omega)) ?_
  refine E.GL.st rfl rfl rfl (E.ST.makeC (m := n) rfl rfl rfl hu22 info3 rfl (by decide) (by omega) fun g30 w30 e30 b30 l30 => ?_)
  have h30_L : w.heap.size ≤ g30 := by rw [e30]; exact L.size
  have b0' := blk_below b0 L
  have hg0 := blk_lt b0'
  replace L := below_step L l30
  have hne : g0 ≠ g30 := by omega
  replace b0' := blk_below b0' l30
  rw [← rp_zero] at b30
  refine E.GL.run rfl rfl rfl (E.Runs.assign rfl rfl) ?_
  refine E.GL.done ?_
  refine E.QG.code ?_
  refine E.CG.seq ?_
  refine E.CG.list ?_
  refine E.GL.run rfl rfl rfl (E.Runs.move rfl rfl) ?_
  refine E.GL.run rfl rfl rfl (E.Runs.move rfl rfl) ?_
  refine E.GL.st rfl rfl rfl (E.ST.copy (cs := List.replicate 1 (.int .i64 (-1))) (all := rp 0 n) rfl rfl rfl hu22 info3s b30 (show 1 = Nat.min 1 n from (Nat.min_eq_left h1).symm) (fun _ => ⟨_, rfl, fun j v hj => by rw [Addr.add_mid, blk_cell b0']; rcases j with _ | j; exact hj; simp at hj⟩) (by rw [rp_len (by omega)]; simp; omega) (by simp [Value.oneCell']) (rp_copy (by omega)) fun w33 c33 gr33 => ?_)
  replace b30 := c33
  replace L := E.below_own L h30_L gr33
  clear c33
  refine E.GL.run rfl rfl rfl (E.Runs.assign rfl rfl) ?_
  refine E.GL.done ?_
  refine E.QG.code ?_
  refine E.CG.seq ?_
  refine E.CG.block ?_
  have s8_L := L
  refine E.CG.loop (fun (q : Nat) => [(7, .slice (some ⟨g30, 0, none⟩) n n), (8, .int .i64 ((q : Nat) : Int))]) (fun q w' => 1 ≤ q ∧ q ≤ n ∧ w'.heap[g30]? = some (.cells (rp q n).toArray 3 (0, 0)) ∧ Below w.heap.size w w') (fun q => n - q) 1 (E.subc rfl (E.subc rfl E.subn)) ⟨Nat.le_refl _, h1, b30, L⟩ ?_
  rintro q w8 ⟨hq1, hq, b30, L⟩
  have hg30 : w.heap.size ≤ g30 := h30_L
  refine E.CG.seq ?_
  refine E.CG.seq ?_
  refine E.CG.list ?_
  refine E.GL.run rfl rfl rfl (E.Runs.move rfl rfl) ?_
  refine E.GL.run rfl rfl rfl (E.Runs.move rfl rfl) ?_
  refine E.GL.run rfl rfl rfl (E.Runs.len rfl rfl hu22) ?_
  refine E.GL.cmp rfl rfl rfl (fun _ h => (E.Runs.lss rfl rfl rfl h)) (fun h37 => ?_) (fun h37 => ?_)
  · refine E.GL.done ?_
    refine E.QG.code ?_
    refine E.CG.cond_t rfl ?_
    refine E.CG.skip ?_
    refine E.QG.code ?_
    refine E.CG.block ?_
    refine E.CG.heldJ 7 (fun v W => v.grownBy W (some g30)) (fun _ _ => True) (by kernel_rfl) (by kernel_rfl) (fun v => World.grownBy.refl _ _) fun v9 lD => ?_
    replace b30 := blk_below b30 lD
    replace L := below_step L lD
    have lD9 := lD
    clear lD
    have s_b30 := b30
    have s_L := L
    have hh : v9.grownBy v9 (some g30) := World.grownBy.refl _ _
    refine E.GJ.take2 (i := 0) rfl (by kernel_rfl) (by kernel_rfl) (by kernel_rfl) (by kernel_rfl) (by intro c a d v w h; first | (cases d <;> exact h) | exact nomatch (show _ ∧ _ from h).1) rfl rfl rfl (fun w' hS => (E.Runs.move rfl rfl)) ?_
    refine E.GJ.take1t (i := 1) 3 rfl (by kernel_rfl) (by kernel_rfl) (by kernel_rfl) (by kernel_rfl) rfl (by kernel_rfl) rfl (by kernel_rfl) (by kernel_rfl) (by kernel_rfl) (by kernel_rfl) (by kernel_rfl) (by intro c a d v w h; first | (cases d <;> exact h) | exact nomatch (show _ ∧ _ from h).1) rfl rfl rfl (fun w' hS => (E.Runs.move rfl rfl)) ?_
    refine E.GJ.take1t (i := 2) 3 rfl (by kernel_rfl) (by kernel_rfl) (by kernel_rfl) (by kernel_rfl) rfl (by kernel_rfl) rfl (by kernel_rfl) (by kernel_rfl) (by kernel_rfl) (by kernel_rfl) (by kernel_rfl) (by intro c a d v w h; first | (cases d <;> exact h) | exact nomatch (show _ ∧ _ from h).1) rfl rfl rfl (fun w' hS => (E.Runs.move rfl rfl)) ?_
    refine E.GJ.take1 (i := 3) rfl (by kernel_rfl) (by kernel_rfl) (by kernel_rfl) (by kernel_rfl) rfl (by kernel_rfl) (by kernel_rfl) (by intro c a d v w h; first | (cases d <;> exact h) | exact nomatch (show _ ∧ _ from h).1) rfl rfl rfl (fun w' hS => (E.Runs.sliceFrom (i := q) (q := some ⟨g30, q, none⟩) rfl rfl rfl hu22 z3 o3 (by omega) (Nat.le_refl _) (by rw [if_neg (by omega)]; simp [Go.Addr.add_mid]))) ?_
    refine E.GJ.take1t (i := 4) 6 rfl (by kernel_rfl) (by kernel_rfl) (by kernel_rfl) (by kernel_rfl) rfl (by kernel_rfl) rfl (by kernel_rfl) (by kernel_rfl) (by kernel_rfl) (by kernel_rfl) (by kernel_rfl) (by intro c a d v w h; first | (cases d <;> exact h) | exact nomatch (show _ ∧ _ from h).1) rfl rfl rfl (fun w' hS => (E.Runs.move rfl rfl)) ?_
    refine E.GJ.take1t (i := 5) 6 rfl (by kernel_rfl) (by kernel_rfl) (by kernel_rfl) (by kernel_rfl) rfl (by kernel_rfl) rfl (by kernel_rfl) (by kernel_rfl) (by kernel_rfl) (by kernel_rfl) (by kernel_rfl) (by intro c a d v w h; first | (cases d <;> exact h) | exact nomatch (show _ ∧ _ from h).1) rfl rfl rfl (fun w' hS => (E.Runs.move rfl rfl)) ?_
    refine E.GJ.take1 (i := 6) rfl (by kernel_rfl) (by kernel_rfl) (by kernel_rfl) (by kernel_rfl) rfl (by kernel_rfl) (by kernel_rfl) (by intro c a d v w h; first | (cases d <;> exact h) | exact nomatch (show _ ∧ _ from h).1) rfl rfl rfl (fun w' hS => (E.Runs.sliceTo rfl rfl rfl hu22 z3 (by omega))) ?_
    refine E.GJ.one (i := 7) (by kernel_rfl) (E.OJ.st rfl rfl rfl rfl (E.ST.copy (cs := List.replicate (min (n - q) q) (.int .i64 (-1))) (all := rp q n) rfl rfl rfl hu22 info3s b30 (by rw [List.length_replicate]; exact (Nat.min_comm _ _)) (fun _ => ⟨_, rfl, fun j v hj => by rw [Addr.add_mid, Nat.zero_add, blk_cell b30]; rw [List.getElem?_replicate] at hj; split at hj; (obtain rfl := Option.some.inj hj; simpa using rp_at (show j < q by omega)); cases hj⟩) (by rw [rp_len (by omega), List.length_replicate]; omega) (by intro v hv; rw [List.eq_of_mem_replicate hv]; rfl) (rp_copy (by omega)) fun w45 c45 gr45 => ⟨(E.SJ.behind (by kernel_rfl)).mpr trivial, ?_⟩))
    replace b30 := c45
    replace L := E.below_own L hg30 gr45
    clear c45
    refine E.GJ.one (i := 8) (by kernel_rfl) (E.OJ.st rfl rfl rfl rfl (E.ST.reads (E.Runs.add rfl rfl rfl (show _ = ((q + (min (n - q) q) : Nat) : Int) from by rw [List.length_replicate, ← Int.natCast_add]; exact IntWalk.i64_in _ (by omega))) ⟨(E.SJ.behind (by kernel_rfl)).mpr trivial, ?_⟩))
    refine E.GJ.one (i := 9) (by kernel_rfl) (E.OJ.st rfl rfl rfl rfl (E.ST.reads (E.Runs.assign rfl rfl) ⟨(E.SJ.behind (by kernel_rfl)).mpr trivial, ?_⟩))
    refine E.GJ.done (by kernel_rfl) ?_
    refine E.QG.block_normal ?_
    exact E.QG.round (q + (min (n - q) q)) (E.subc rfl (E.subc rfl E.subn)) ⟨by omega, by omega, b30, L⟩ (by omega)
  · obtain rfl : n = q := by omega
    refine E.GL.done ?_
    refine E.QG.code ?_
    refine E.CG.cond_f rfl ?_
    refine E.CG.exit ?_
    refine E.QG.pass_exit ?_
    refine E.QG.pass_exit ?_
    refine E.QG.block_here ?_
    refine E.QG.code ?_
    refine E.CG.seq ?_
    refine E.CG.list ?_
    refine E.GL.run rfl rfl rfl (E.Runs.move rfl rfl) ?_
    refine E.GL.run rfl rfl rfl (E.Runs.assign rfl rfl) ?_
    refine E.GL.done ?_
    refine E.QG.code ?_
    refine E.CG.ret ?_
    exact E.QG.result rfl rfl ⟨g30, rfl, by rw [← rp_full]; exact b30, h30_L, L⟩

end Go.Proofs.Ytdiambcjghlffaa.T
namespace Go.Proofs.Ytdiambcjghlffaa.T
open Go.RowKit Go.Proofs.YtdiambcjghlffaaW.PrintWords Go.Proofs.YtdiambcjghlffaaW.PrintMore
open Go.Proofs.Ytdiambcjghlffaa.P
set_option linter.unusedVariables false
set_option linter.unusedSimpArgs false
/-- A digit. -/
def dg (B t i : Nat) : Nat := t / B ^ i % B
theorem dg_lt {B t i : Nat} (hB : 0 < B) : dg B t i < B := Nat.mod_lt _ hB
theorem low_max {B t : Nat} (hB : 0 < B) : ∀ {i : Nat}, (∀ j, j < i → dg B t j = B - 1) → t % B ^ i = B ^ i - 1
  | 0, _ => by simp [Nat.mod_one]
  | i + 1, h => by
    have ih := low_max hB (i := i) fun j hj => h j (by omega)
    have hd := h i (by omega)
    unfold dg at hd
    have hp : 0 < B ^ i := Nat.pow_pos hB
    rw [Nat.mod_pow_succ, ih, hd, Nat.pow_succ, Nat.mul_sub, Nat.mul_one]
    have : B ^ i ≤ B ^ i * B := Nat.le_mul_of_pos_right _ hB
    omega
theorem succ_low {B t i : Nat} (hB : 0 < B) (h : t % B ^ i = B ^ i - 1) : t + 1 = B ^ i * (t / B ^ i + 1) := by
  have hp : 0 < B ^ i := Nat.pow_pos hB
  have := Nat.div_add_mod t (B ^ i)
  rw [h] at this
  rw [Nat.mul_add, Nat.mul_one]
  omega
/-- The next number's digits. -/
theorem dg_below {B t i j : Nat} (hB : 0 < B) (h : t % B ^ i = B ^ i - 1) (hj : j < i) : dg B (t + 1) j = 0 := by
  unfold dg
  have hp : 0 < B ^ j := Nat.pow_pos hB
  rw [succ_low hB h]
  have e : B ^ i = B ^ j * (B ^ (i - j - 1) * B) := by
    rw [← Nat.pow_succ, ← Nat.pow_add]
    congr 1
    omega
  rw [e, Nat.mul_assoc, Nat.mul_div_cancel_left _ hp, Nat.mul_assoc, Nat.mul_comm B, ← Nat.mul_assoc, Nat.mul_mod_left]
theorem div_low {B t i : Nat} (hB : 0 < B) (h : t % B ^ i = B ^ i - 1) : (t + 1) / B ^ i = t / B ^ i + 1 := by
  have hp : 0 < B ^ i := Nat.pow_pos hB
  rw [succ_low hB h, Nat.mul_div_cancel_left _ hp]
theorem dg_here {B t i : Nat} (hB : 0 < B) (h : t % B ^ i = B ^ i - 1) (hd : dg B t i < B - 1) : dg B (t + 1) i = dg B t i + 1 := by
  unfold dg at hd ⊢
  rw [div_low hB h, Nat.add_mod, Nat.mod_eq_of_lt (a := t / B ^ i % B + 1 % B)]
  · by_cases h1 : B = 1
    · omega
    · rw [Nat.mod_eq_of_lt (show 1 < B by omega)]
  · by_cases h1 : B = 1
    · omega
    · rw [Nat.mod_eq_of_lt (show 1 < B by omega)]; omega
theorem dg_above {B t i j : Nat} (hB : 0 < B) (h : t % B ^ i = B ^ i - 1) (hd : dg B t i < B - 1) (hj : i < j) : dg B (t + 1) j = dg B t j := by
  unfold dg at hd ⊢
  have e : B ^ j = B ^ i * (B * B ^ (j - i - 1)) := by
    rw [← Nat.pow_succ', ← Nat.pow_add]
    congr 1
    omega
  have key : (t / B ^ i + 1) / B = t / B ^ i / B := by
    have h1 := Nat.div_add_mod (t / B ^ i) B
    generalize t / B ^ i = q at hd h1 ⊢
    have : q + 1 = B * (q / B) + (q % B + 1) := by omega
    rw [this, Nat.mul_add_div hB, Nat.div_eq_of_lt (show q % B + 1 < B by omega), Nat.add_zero]
  rw [e, ← Nat.div_div_eq_div_mul, ← Nat.div_div_eq_div_mul, div_low hB h, key, Nat.div_div_eq_div_mul, Nat.div_div_eq_div_mul]
/-- The base: dark, or a film. -/
def bs (V : Wk) : Nat := V.fs.length + 1
/-- The t-th program. -/
def pr (V : Wk) (t : Nat) : List Int := (List.range (Sl V)).map fun i => ((dg (bs V) t i : Nat) : Int) - 1
def nP (V : Wk) : Nat := bs V ^ Sl V
theorem pr_len (V : Wk) (t : Nat) : (pr V t).length = Sl V := by simp [pr]
theorem pr_at {V : Wk} {t i : Nat} (h : i < Sl V) : (pr V t)[i]? = some (((dg (bs V) t i : Nat) : Int) - 1) := by simp [pr, h]
theorem pr_ok (V : Wk) (t : Nat) : IsP V (pr V t) := by
  refine ⟨pr_len V t, fun x hx => ?_⟩
  obtain ⟨i, hi⟩ := List.mem_iff_getElem?.mp hx
  have hl := (List.getElem?_eq_some_iff.1 hi).1
  rw [pr_len] at hl
  rw [pr_at hl] at hi
  have := dg_lt (B := bs V) (t := t) (i := i) (by unfold bs; omega)
  unfold bs at this hi
  obtain rfl := Option.some.inj hi
  omega
theorem pr_zero (V : Wk) : pr V 0 = List.replicate (Sl V) (-1) := by
  refine List.ext_getElem? fun i => ?_
  by_cases h : i < Sl V
  · rw [pr_at h]
    simp [dg, h]
  · rw [List.getElem?_eq_none (by rw [pr_len]; omega), List.getElem?_eq_none (by simp; omega)]
/-- The first so many slots are dark again. -/
def mixP (V : Wk) (t i : Nat) : List Int := (List.range (Sl V)).map fun j => if j < i then -1 else ((dg (bs V) t j : Nat) : Int) - 1
theorem mixP_zero (V : Wk) (t : Nat) : mixP V t 0 = pr V t := by simp [mixP, pr]
theorem mixP_len (V : Wk) (t i : Nat) : (mixP V t i).length = Sl V := by simp [mixP]
theorem mixP_at {V : Wk} {t i : Nat} (h : i < Sl V) : (mixP V t i)[i]? = some (((dg (bs V) t i : Nat) : Int) - 1) := by simp [mixP, h]
theorem mixP_set {V : Wk} {t i : Nat} (h : i < Sl V) : (mixP V t i).set i (-1) = mixP V t (i + 1) := by
  refine List.ext_getElem? fun j => ?_
  by_cases e : j = i
  · subst e
    rw [List.getElem?_set_self (by rw [mixP_len]; exact h)]
    simp [mixP, h]
  · rw [List.getElem?_set_ne (Ne.symm e)]
    by_cases hj : j < Sl V
    · simp only [mixP, List.getElem?_map, List.getElem?_range hj, Option.map_some]
      by_cases q : j < i
      · rw [if_pos q, if_pos (by omega)]
      · rw [if_neg q, if_neg (by omega)]
    · rw [List.getElem?_eq_none (by rw [mixP_len]; omega), List.getElem?_eq_none (by rw [mixP_len]; omega)]
theorem mixP_next {V : Wk} {t i : Nat} (h : i < Sl V) (hl : ∀ j, j < i → dg (bs V) t j = bs V - 1) (hd : dg (bs V) t i < bs V - 1) : (mixP V t i).set i (((dg (bs V) t i : Nat) : Int) - 1 + 1) = pr V (t + 1) := by
  have hB : 0 < bs V := by unfold bs; omega
  have hm := low_max hB hl
  refine List.ext_getElem? fun j => ?_
  by_cases hj : j < Sl V
  · rw [pr_at hj]
    by_cases e : j = i
    · subst e
      rw [List.getElem?_set_self (by rw [mixP_len]; exact h), dg_here hB hm hd]
      congr 1
      omega
    · rw [List.getElem?_set_ne (Ne.symm e)]
      simp only [mixP, List.getElem?_map, List.getElem?_range hj, Option.map_some]
      by_cases q : j < i
      · rw [if_pos q, dg_below hB hm q]
        rfl
      · rw [if_neg q, dg_above hB hm hd (by omega)]
  · rw [List.getElem?_eq_none (by rw [List.length_set, mixP_len]; omega), List.getElem?_eq_none (by rw [pr_len]; omega)]
/-- All slots show the last film: the last program. -/
theorem pr_last {V : Wk} {t : Nat} (ht : t < nP V) (hl : ∀ j, j < Sl V → dg (bs V) t j = bs V - 1) : t + 1 = nP V := by
  have hB : 0 < bs V := by unfold bs; omega
  have hm := low_max hB hl
  unfold nP at ht ⊢
  rw [Nat.mod_eq_of_lt ht] at hm
  have : 0 < bs V ^ Sl V := Nat.pow_pos hB
  omega
/-- Not the last one: some slot does not. -/
theorem pr_more {V : Wk} {t i : Nat} (ht : t < nP V) (h : i < Sl V) (hl : ∀ j, j < i → dg (bs V) t j = bs V - 1) (hd : dg (bs V) t i < bs V - 1) : t + 1 < nP V := by
  have hB : 0 < bs V := by unfold bs; omega
  refine Nat.lt_of_le_of_ne ht fun e => ?_
  have hp : 0 < bs V ^ Sl V := Nat.pow_pos hB
  have h0 : dg (bs V) t i = bs V - 1 := by
    have et : t = bs V ^ Sl V - 1 := by unfold nP at e; omega
    unfold dg
    have e2 : bs V ^ Sl V = bs V ^ i * (bs V ^ (Sl V - i - 1) * bs V) := by
      rw [← Nat.pow_succ, ← Nat.pow_add]
      congr 1
      omega
    have hpi : 0 < bs V ^ i := Nat.pow_pos hB
    have hq : 0 < bs V ^ (Sl V - i - 1) := Nat.pow_pos hB
    have hm : t % bs V ^ i = bs V ^ i - 1 := low_max hB hl
    have hsl := succ_low hB hm
    have e3 : bs V ^ i * (t / bs V ^ i + 1) = bs V ^ i * (bs V ^ (Sl V - i - 1) * bs V) := by rw [← hsl, ← e2]; omega
    have e4 := Nat.eq_of_mul_eq_mul_left hpi e3
    have e5 : (t / bs V ^ i + 1) % bs V = 0 := by rw [e4, Nat.mul_mod_left]
    generalize t / bs V ^ i = q at e5 ⊢
    have h1 := Nat.mod_lt q hB
    by_cases hq1 : q % bs V + 1 < bs V
    · rw [Nat.add_mod] at e5
      by_cases hb1 : bs V = 1
      · omega
      · rw [Nat.mod_eq_of_lt (show 1 < bs V by omega), Nat.mod_eq_of_lt hq1] at e5
        omega
    · omega
  omega
end Go.Proofs.Ytdiambcjghlffaa.T
namespace Go.Proofs.Ytdiambcjghlffaa.T
open Go.RowKit Go.Proofs.YtdiambcjghlffaaW.PrintWords Go.Proofs.YtdiambcjghlffaaW.PrintMore
open Go.Proofs.Ytdiambcjghlffaa.P
set_option linter.unusedVariables false
set_option linter.unusedSimpArgs false

/-- A program, and the block of the row in which it lies. -/
abbrev It := List Int × Nat
def itV (V : Wk) (x : It) : Array Value := #[.slice (some ⟨x.2, 0, none⟩) (Sl V) (Sl V)]
def Fp (V : Wk) (x : It) (W : World) : Prop := W.heap[x.2]? = some (.cells (x.1.map (Value.int .i64)).toArray 3 (0, 0)) ∧ IsP V x.1
/-- What a round keeps. -/
def KpP (w : World) (g : Nat) (x : It) (X Y : World) : Prop := Below w.heap.size X Y ∧ Y.heap[g]? = X.heap[g]? ∧ Y.heap[x.2]? = X.heap[x.2]?
theorem cells_at {W : World} {g i : Nat} {l : List Int} {x : Int} (b : W.heap[g]? = some (.cells (l.map (Value.int .i64)).toArray 3 (0, 0))) (h : l[i]? = some x) : W.cell? ⟨g, i * 1, none⟩ = some (.int .i64 x) := by
  rw [Nat.mul_one, blk_cell b]
  simp [h]
theorem cells_at' {W : World} {g i : Nat} {l : List Int} {x : Int} (b : W.heap[g]? = some (.cells (l.map (Value.int .i64)).toArray 3 (0, 0))) (h : l[i]? = some x) : W.cell? ⟨g, i, none⟩ = some (.int .i64 x) := by
  have := cells_at b h
  rwa [Nat.mul_one] at this
theorem cells_put (l : List Int) (i : Nat) (x : Int) : (l.map (Value.int .i64)).toArray.setIfInBounds i (.int .i64 x) = ((l.set i x).map (Value.int .i64)).toArray := by
  simp [List.map_set]
/-- What is told of the programs handed out so far, and that it abides. -/
structure JA (B : Nat) (J : List It → World → Prop) (l : List It) (w : World) : Prop where
  ab : E.AbidesC B (fun x : It => x.2) J
  j : J l w
theorem JA.below {B : Nat} {J : List It → World → Prop} {l : List It} {w w' : World} (h : JA B J l w) (lb : Below w.heap.size w w') : JA B J l w' := ⟨h.ab, h.ab _ _ _ none h.j (E.gbB lb) (fun r er => nomatch er)⟩
theorem rng_snoc (V : Wk) (t : Nat) : (List.range (t + 1)).map (pr V) = (List.range t).map (pr V) ++ [pr V t] := by rw [List.range_succ, List.map_append]; rfl
set_option maxRecDepth 100000 in
set_option maxHeartbeats 8000000 in

theorem programs_run (V : Wk) (m : Wa) (g : Nat) (w W : World) (y k : Nat) (J : List It → World → Prop) (ok : Shp V) (hB : Below w.heap.size w W) (b1 : W.heap[g]? = some (.cells #[.int .i64 V.d, .slice m.A V.rs.length m.a, .int .i64 V.h, .slice m.B V.fs.length m.b, .slice m.C V.ds.length m.c] 26 (0, 0))) (hgw : w.heap.size ≤ g)
    (hJ : E.AbidesC W.heap.size (fun x : It => x.2) J) (h0 : J [] W)
    (hY : ∀ pre x W1, J pre W1 → Fp V x W1 → W.heap.size ≤ x.2 → (∀ y ∈ pre, y.2 = x.2) → YieldAt Fence.wide (k - 1) Try.prog y (itV V x) W1 fun e W' => e = .returned (.bool true) ∧ J (pre ++ [x]) W' ∧ KpP w g x W1 W') :
    Calls Try.prog 80 #[.func (.yield y) #[] #[], .pointer (some ⟨g, 0, none⟩)] W fun e W' => (∃ v, e = .returned v) ∧ ∃ xs, xs.map Prod.fst = (List.range (nP V)).map (pr V) ∧ J xs W' := by
  have hu3 := Try.underlying3
  have hu22 := Try.underlying22
  have hu23 := Try.underlying23
  have hu26 := Try.underlying26
  obtain ⟨z3, o3⟩ := info_some info3s (by decide)
  obtain ⟨z22, o22⟩ := info_some info22s (by decide)
  obtain ⟨z23, o23⟩ := info_some info23s (by decide)
  have hsn := slots_nat ok
  have okf := ok.f
  have hbs : bs V = V.fs.length + 1 := rfl
  have hnp : 0 < nP V := Nat.pow_pos (by omega)
  refine E.enter (N := 43) Try.func80 rfl Try.ntmps80 (args := [.func (.yield y) #[] #[], .pointer (some ⟨g, 0, none⟩)]) (by simp) ?_
  have L := hB
  have hgl := blk_lt b1
  refine E.CG.seq ?_
  refine E.CG.list ?_
  refine E.GL.st rfl rfl rfl (E.ST.litB (cs := #[.int .i64 (-1)]) rfl (E.epc rfl E.epn) (lit22 _) fun g5 w5 e5 b5 l5 => ?_)
  replace L := below_step L l5
  replace b1 := blk_below b1 l5
  refine E.GL.run rfl rfl rfl (E.Runs.loads (cs := [.int .i64 V.d, .slice m.A V.rs.length m.a, .int .i64 V.h, .slice m.B V.fs.length m.b, .slice m.C V.ds.length m.c]) rfl rfl hu26 rfl info26s (blk_cells b1)) ?_
  refine E.GL.st rfl rfl rfl (E.ST.call rfl ent64 (E.evc rfl E.evn) ((slots_o V m _ ok.d ok.r ok.h).mono ?_))
  rintro e w7 ⟨rfl, l7⟩
  refine ⟨_, rfl, ?_⟩
  replace b1 := blk_below b1 l7
  replace b5 := blk_below b5 l7
  replace L := below_step L l7
  rw [hsn.1]
  refine E.GL.st rfl rfl rfl (E.ST.call rfl ent81 (E.evc rfl (E.evc rfl E.evn)) ((repeat_calls g5 (Sl V) _ hsn.2.2 hsn.2.1 b5).mono ?_))
  rintro e w8 ⟨gp, rfl, bp, hgp, l8⟩
  refine ⟨_, rfl, ?_⟩
  replace b1 := blk_below b1 l8
  replace b5 := blk_below b5 l8
  replace L := below_step L l8
  refine E.GL.run rfl rfl rfl (E.Runs.assign rfl rfl) ?_
  refine E.GL.done ?_
  refine E.QG.code ?_
  refine E.CG.block ?_
  have lq : Below W.heap.size W w8 := (l5.trans (l7.mono l5.size)).trans (l8.mono (Nat.le_trans l5.size l7.size))
  have hJ8 : J [] w8 := hJ _ _ _ none h0 (E.gbB lq) (fun r er => nomatch er)
  have hgpW : W.heap.size ≤ gp := by have := l5.size; have := l7.size; omega
  have hgne : g ≠ gp := by omega
  rw [← pr_zero] at bp
  have s1_b1 := b1
  have s1_b5 := b5
  have s1_bp := bp
  have s1_L := L
  refine E.CG.loop2 (fun (t : Nat) (pre : List It) => [(0, .func (.yield y) #[] #[]), (1, .pointer (some ⟨g, 0, none⟩)), (3, .slice (some ⟨gp, 0, none⟩) (Sl V) (Sl V))]) (fun t pre w' => t < nP V ∧ pre.map Prod.fst = (List.range t).map (pr V) ∧ (∀ y ∈ pre, y.2 = gp) ∧ w'.heap[g]? = some (.cells #[.int .i64 V.d, .slice m.A V.rs.length m.a, .int .i64 V.h, .slice m.B V.fs.length m.b, .slice m.C V.ds.length m.c] 26 (0, 0)) ∧ w'.heap[gp]? = some (.cells ((pr V t).map (Value.int .i64)).toArray 3 (0, 0)) ∧ Below w.heap.size w w' ∧ J pre w') (fun t pre => nP V - t) 0 [] (E.subc rfl (E.subc rfl (E.subc rfl E.subn))) ⟨hnp, rfl, (fun y hy => nomatch hy), b1, bp, L, hJ8⟩ ?_
  rintro t pre w1 ⟨ht, hmap, hsame, b1, bp, L, hJ1⟩
  refine E.CG.block ?_
  refine E.CG.seq ?_
  refine E.CG.seq ?_
  refine E.CG.wide k (E.CI.list ?_)
  refine E.GI.run E.WF.wide rfl rfl rfl rfl (E.Runs.move rfl rfl) ?_
  refine E.GI.run E.WF.wide rfl rfl rfl rfl (E.Runs.move rfl rfl) ?_
  refine E.GI.yield E.WF.wide rfl rfl rfl rfl rfl (E.evc rfl E.evn) (hY pre (pr V t, gp) _ hJ1 ⟨bp, pr_ok V t⟩ hgpW hsame) ?_
  rintro e w1 ⟨rfl, hJ2, hk⟩
  · refine ⟨_, rfl, ?_⟩
    refine E.GI.run E.WF.wide rfl rfl rfl rfl (E.Runs.not rfl rfl) ?_
    refine E.GI.done ?_
    replace L := L.trans hk.1
    replace b1 := hk.2.1.trans b1
    replace bp := hk.2.2.trans bp
    have hmap2 : (pre ++ [(pr V t, gp)]).map Prod.fst = (List.range (t + 1)).map (pr V) := by rw [List.map_append, hmap, rng_snoc]; rfl
    have hsame2 : ∀ y ∈ pre ++ [((pr V t, gp) : It)], y.2 = gp := fun y hy => by
      rcases List.mem_append.mp hy with h | h
      · exact hsame y h
      · rw [List.mem_singleton.mp h]
    clear hk
    replace hJ2 : JA W.heap.size J _ _ := ⟨hJ, hJ2⟩
    refine E.QG.code ?_
    refine E.CG.cond_f rfl ?_
    refine E.CG.skip ?_
    refine E.QG.code ?_
    refine E.CG.seq ?_
    refine E.CG.list ?_
    refine E.GL.run rfl rfl rfl (E.Runs.assign rfl rfl) ?_
    refine E.GL.done ?_
    refine E.QG.code ?_
    refine E.CG.seq ?_
    refine E.CG.block ?_
    have s3_b1 := b1
    have s3_bp := bp
    have s3_L := L
    refine E.CG.loop (fun (i : Nat) => [(0, .func (.yield y) #[] #[]), (1, .pointer (some ⟨g, 0, none⟩)), (3, .slice (some ⟨gp, 0, none⟩) (Sl V) (Sl V)), (4, .int .i64 (i : Int))]) (fun i w' => i ≤ Sl V ∧ (∀ j, j < i → dg (bs V) t j = bs V - 1) ∧ w'.heap[g]? = some (.cells #[.int .i64 V.d, .slice m.A V.rs.length m.a, .int .i64 V.h, .slice m.B V.fs.length m.b, .slice m.C V.ds.length m.c] 26 (0, 0)) ∧ w'.heap[gp]? = some (.cells ((mixP V t i).map (Value.int .i64)).toArray 3 (0, 0)) ∧ Below w.heap.size w w' ∧ JA W.heap.size J (pre ++ [(pr V t, gp)]) w') (fun i => Sl V - i) 0 (E.subc rfl (E.subc rfl (E.subc rfl (E.subc rfl E.subn)))) ⟨Nat.zero_le _, fun j hj => by omega, b1, by rw [mixP_zero]; exact bp, L, hJ2⟩ ?_
    rintro i w3 ⟨hi, hmx, b1, bp, L, hJ2⟩
    refine E.CG.seq ?_
    refine E.CG.seq ?_
    refine E.CG.quietF (by kernel_rfl) rfl (by kernel_rfl) (by kernel_rfl) ?_
    refine E.GQ.run rfl rfl rfl (E.Runs.move rfl rfl) ?_
    refine E.GQ.run rfl rfl rfl (E.Runs.move rfl rfl) ?_
    refine E.GQ.run rfl rfl rfl (E.Runs.len rfl rfl hu22) ?_
    refine E.GQ.cmp rfl rfl rfl (fun _ h => (E.Runs.lss rfl rfl rfl h)) (fun h16 => ?_) (fun h16 => ?_)
    · refine E.GQ.run rfl rfl rfl (E.Runs.move rfl rfl) ?_
      refine E.GQ.run rfl rfl rfl (E.Runs.move rfl rfl) ?_
      refine E.GQ.run rfl rfl rfl (E.Runs.move rfl rfl) ?_
      refine E.GQ.run rfl rfl rfl (E.Runs.indexAddrA (i := i) rfl rfl rfl hu22 z3 o3 (by omega) rfl (show _ = (⟨gp, i, none⟩ : Addr) from by rw [Go.Addr.add_mid, Nat.zero_add, Nat.mul_one])) ?_
      refine E.GQ.run rfl rfl rfl (E.Runs.load rfl rfl hu3 (cells_at' bp (mixP_at (by omega)))) ?_
      refine E.GQ.run rfl rfl rfl (E.Runs.fieldAddr rfl rfl hu26 rfl (by assumption) rfl) ?_
      refine E.GQ.run rfl rfl rfl (E.Runs.load1 rfl rfl hu23 rfl (by first | assumption | exact E.blkc (by assumption) rfl | exact pw_cell_below L (by assumption))) ?_
      refine E.GQ.run rfl rfl rfl (E.Runs.len rfl rfl hu23) ?_
      refine E.GQ.run rfl rfl rfl (E.Runs.sub rfl rfl rfl (IntWalk.i64_in _ (by omega))) ?_
      refine E.GQ.cmp rfl rfl rfl (fun _ h => (E.Runs.eql rfl rfl rfl h)) (fun h26 => ?_) (fun h26 => ?_)
      · have hdl := dg_lt (B := bs V) (t := t) (i := i) (by omega)
        refine E.GQ.run rfl rfl rfl (E.Runs.pick_t rfl rfl rfl) ?_
        refine E.GQ.doneB fun v3 lD => ?_
        replace b1 := blk_below b1 lD
        replace bp := blk_below bp lD
        replace hJ2 := hJ2.below lD
        replace L := below_step L lD
        have lD3 := lD
        clear lD
        refine E.QG.code ?_
        refine E.CG.cond_t rfl ?_
        refine E.CG.skip ?_
        refine E.QG.code ?_
        refine E.CG.seq ?_
        refine E.CG.block ?_
        refine E.CG.list ?_
        refine E.GL.run rfl rfl rfl (E.Runs.move rfl rfl) ?_
        refine E.GL.run rfl rfl rfl (E.Runs.move rfl rfl) ?_
        refine E.GL.run rfl rfl rfl (E.Runs.indexAddrA (i := i) rfl rfl rfl hu22 z3 o3 (by omega) rfl (show _ = (⟨gp, i, none⟩ : Addr) from by rw [Go.Addr.add_mid, Nat.zero_add, Nat.mul_one])) ?_
        refine E.GL.sn rfl rfl (E.ST.store rfl z3 o3 rfl rfl bp (show Nat.blt i _ = true from by rw [Nat.blt_eq]; simp [mixP_len]; omega) (show _ = ((mixP V t (i + 1)).map (Value.int .i64)).toArray from by rw [cells_put, mixP_set (by omega)]) fun wS cS lS => ?_)
        replace b1 := blk_grown b1 lS (E.nes hgne)
        replace L := E.below_own L (Nat.le_trans hB.size hgpW) lS
        have hJn : JA W.heap.size J (pre ++ [(pr V t, gp)]) wS := ⟨hJ, hJ _ _ _ (some gp) hJ2.j lS (fun r er => by cases er; exact ⟨hgpW, ⟨_, _, bp⟩, _, List.mem_append_right _ (List.mem_singleton.mpr rfl), rfl⟩)⟩
        replace bp := cS
        clear cS
        refine E.GL.done ?_
        refine E.QG.block_normal ?_
        refine E.QG.code ?_
        refine E.CG.list ?_
        refine E.GL.run rfl rfl rfl (E.Runs.move rfl rfl) ?_
        refine E.GL.run rfl rfl rfl (E.Runs.add rfl rfl rfl (IntWalk.i64_in _ (by omega))) ?_
        refine E.GL.run rfl rfl rfl (E.Runs.assign rfl rfl) ?_
        refine E.GL.done ?_
        exact E.QG.round (i + 1) (E.subc rfl (E.subc rfl (E.subc rfl (E.subc rfl E.subn)))) ⟨by omega, fun j hj => by
          by_cases e : j = i
          · rw [e]; omega
          · exact hmx j (by omega), b1, bp, L, hJn⟩ (by omega)
      · have hdl := dg_lt (B := bs V) (t := t) (i := i) (by omega)
        have hd : dg (bs V) t i < bs V - 1 := by omega
        have hmore := pr_more ht (show i < Sl V by omega) hmx hd
        refine E.GQ.run rfl rfl rfl (E.Runs.pick_t rfl rfl rfl) ?_
        refine E.GQ.doneB fun v3 lD => ?_
        replace b1 := blk_below b1 lD
        replace bp := blk_below bp lD
        replace hJ2 := hJ2.below lD
        replace L := below_step L lD
        have lD3 := lD
        clear lD
        refine E.QG.code ?_
        refine E.CG.cond_f rfl ?_
        refine E.CG.exit ?_
        refine E.QG.pass_exit ?_
        refine E.QG.pass_exit ?_
        refine E.QG.block_here ?_
        refine E.QG.code ?_
        refine E.CG.seq ?_
        refine E.CG.seq ?_
        refine E.CG.list ?_
        refine E.GL.run rfl rfl rfl (E.Runs.move rfl rfl) ?_
        refine E.GL.run rfl rfl rfl (E.Runs.move rfl rfl) ?_
        refine E.GL.run rfl rfl rfl (E.Runs.len rfl rfl hu22) ?_
        refine E.GL.run rfl rfl rfl (E.Runs.eql rfl rfl rfl (decide_eq_false (by omega))) ?_
        refine E.GL.done ?_
        refine E.QG.code ?_
        refine E.CG.cond_f rfl ?_
        refine E.CG.skip ?_
        refine E.QG.code ?_
        refine E.CG.list ?_
        refine E.GL.run rfl rfl rfl (E.Runs.move rfl rfl) ?_
        refine E.GL.run rfl rfl rfl (E.Runs.move rfl rfl) ?_
        refine E.GL.run rfl rfl rfl (E.Runs.indexAddrA (i := i) rfl rfl rfl hu22 z3 o3 (by omega) rfl (show _ = (⟨gp, i, none⟩ : Addr) from by rw [Go.Addr.add_mid, Nat.zero_add, Nat.mul_one])) ?_
        refine E.GL.run rfl rfl rfl (E.Runs.load rfl rfl hu3 (cells_at' bp (mixP_at (by omega)))) ?_
        refine E.GL.run rfl rfl rfl (E.Runs.add rfl rfl rfl (IntWalk.i64_in _ (by omega))) ?_
        refine E.GL.run rfl rfl rfl (E.Runs.indexAddrA (i := i) rfl rfl rfl hu22 z3 o3 (by omega) rfl (show _ = (⟨gp, i, none⟩ : Addr) from by rw [Go.Addr.add_mid, Nat.zero_add, Nat.mul_one])) ?_
        refine E.GL.sn rfl rfl (E.ST.store rfl z3 o3 rfl rfl bp (show Nat.blt i _ = true from by rw [Nat.blt_eq]; simp [mixP_len]; omega) (show _ = ((pr V (t + 1)).map (Value.int .i64)).toArray from by rw [cells_put, mixP_next (by omega) hmx hd]) fun wS cS lS => ?_)
        replace b1 := blk_grown b1 lS (E.nes hgne)
        replace L := E.below_own L (Nat.le_trans hB.size hgpW) lS
        have hJ4 : JA W.heap.size J (pre ++ [(pr V t, gp)]) wS := ⟨hJ, hJ _ _ _ (some gp) hJ2.j lS (fun r er => by cases er; exact ⟨hgpW, ⟨_, _, bp⟩, _, List.mem_append_right _ (List.mem_singleton.mpr rfl), rfl⟩)⟩
        replace bp := cS
        clear cS
        refine E.GL.done ?_
        refine E.QG.block_normal ?_
        exact E.QG.round2 (d := []) (t + 1) _ (E.subc rfl (E.subc rfl (E.subc rfl E.subn))) ⟨hmore, hmap2, hsame2, b1, bp, L, hJ4.j⟩ (by omega)
    · refine E.GQ.run rfl rfl rfl (E.Runs.move rfl rfl) ?_
      refine E.GQ.skip rfl rfl rfl ?_
      refine E.GQ.skip rfl rfl rfl ?_
      refine E.GQ.skip rfl rfl rfl ?_
      refine E.GQ.skip rfl rfl rfl ?_
      refine E.GQ.skip rfl rfl rfl ?_
      refine E.GQ.skip rfl rfl rfl ?_
      refine E.GQ.skip rfl rfl rfl ?_
      refine E.GQ.skip rfl rfl rfl ?_
      refine E.GQ.skip rfl rfl rfl ?_
      refine E.GQ.run rfl rfl rfl (E.Runs.pick_f rfl rfl rfl) ?_
      refine E.GQ.doneB fun v3 lD => ?_
      replace b1 := blk_below b1 lD
      replace bp := blk_below bp lD
      replace hJ2 := hJ2.below lD
      replace L := below_step L lD
      have lD3 := lD
      clear lD
      refine E.QG.code ?_
      refine E.CG.cond_f rfl ?_
      refine E.CG.exit ?_
      refine E.QG.pass_exit ?_
      refine E.QG.pass_exit ?_
      refine E.QG.block_here ?_
      refine E.QG.code ?_
      refine E.CG.seq ?_
      refine E.CG.seq ?_
      refine E.CG.list ?_
      refine E.GL.run rfl rfl rfl (E.Runs.move rfl rfl) ?_
      refine E.GL.run rfl rfl rfl (E.Runs.move rfl rfl) ?_
      refine E.GL.run rfl rfl rfl (E.Runs.len rfl rfl hu22) ?_
      refine E.GL.run rfl rfl rfl (E.Runs.eql rfl rfl rfl (decide_eq_true (by omega))) ?_
      refine E.GL.done ?_
      refine E.QG.code ?_
      refine E.CG.cond_t rfl ?_
      refine E.CG.ret ?_
      refine E.QG.pass_ret ?_
      refine E.QG.block_ret ?_
      refine E.QG.pass_ret ?_
      refine E.QG.block_ret ?_
      exact E.QG.result0 rfl ⟨⟨_, rfl⟩, _, by rw [hmap2, pr_last ht (fun j hj => hmx j (by omega))], hJ2.j⟩

set_option maxRecDepth 100000 in
set_option maxHeartbeats 8000000 in

theorem programs_calls (V : Wk) (m : Wa) (w : World) :
    Calls Try.prog 72 #[wv V m] w fun e w' => ∃ g, e = .returned (.func (.func 80) #[] #[.pointer (some ⟨g, 0, none⟩)]) ∧ w'.heap[g]? = some (.cells #[.int .i64 V.d, .slice m.A V.rs.length m.a, .int .i64 V.h, .slice m.B V.fs.length m.b, .slice m.C V.ds.length m.c] 26 (0, 0)) ∧ w.heap.size ≤ g ∧ Below w.heap.size w w' := by
  have hu26 := Try.underlying26
  refine E.enter (N := 4) Try.func72 rfl Try.ntmps72 (args := [wv V m]) (by simp) ?_
  have L := Below.refl w.heap.size w
  refine E.CG.seq ?_
  refine E.CG.list ?_
  refine E.GL.st rfl rfl rfl (E.ST.box rfl rfl fun g1 w1 e1 b1 l1 => ?_)
  have h1_L : w.heap.size ≤ g1 := by rw [e1]; exact L.size
  replace L := below_step L l1
  refine E.GL.run rfl rfl rfl (E.Runs.assign rfl rfl) ?_
  refine E.GL.done ?_
  refine E.QG.code ?_
  refine E.CG.seq ?_
  refine E.CG.list ?_
  refine E.GL.run rfl rfl rfl (E.Runs.makeFunc rfl (E.evc rfl E.evn)) ?_
  refine E.GL.run rfl rfl rfl (E.Runs.assign rfl rfl) ?_
  refine E.GL.done ?_
  refine E.QG.code ?_
  refine E.CG.ret ?_
  exact E.QG.result rfl rfl ⟨_, rfl, b1, h1_L, L⟩

theorem programs_seq (V : Wk) (m : Wa) (g n : Nat) (w w6 : World) (ok : Shp V) (L : Below w.heap.size w w6) (b : w6.heap[g]? = some (.cells #[.int .i64 V.d, .slice m.A V.rs.length m.a, .int .i64 V.h, .slice m.B V.fs.length m.b, .slice m.C V.ds.length m.c] 26 (0, 0))) (hgw : w.heap.size ≤ g) :
    E.SeqC n Try.prog 80 #[.pointer (some ⟨g, 0, none⟩)] (itV V) (fun x => x.2) (Fp V) (KpP w g) (fun xs => xs.map Prod.fst = (List.range (nP V)).map (pr V)) w6 :=
  fun l J W hW hJ h hj => callsIn_wide.2 (programs_run V m g w W l n J ok (L.trans (hW.mono L.size)) (blk_below b hW) hgw hJ hj h)
end Go.Proofs.Ytdiambcjghlffaa.T
namespace Go.Proofs.Ytdiambcjghlffaa.T
open Go.RowKit Go.Proofs.YtdiambcjghlffaaW.PrintWords Go.Proofs.YtdiambcjghlffaaW.PrintMore
open Go.Proofs.Ytdiambcjghlffaa.P
set_option linter.unusedVariables false
set_option linter.unusedSimpArgs false

set_option maxRecDepth 100000 in
theorem eqNil22 (A : Option Addr) (n c : Nat) (W : World) : (Op.equal 22 (.slice A n c) (.slice none 0 0)).run Try.prog W = .ok A.isNone W := by
  have hu22 := Try.underlying22
  unfold Op.equal Op.maxDepth
  rw [show (10000 : Nat) = 9999 + 1 from rfl]
  cases A <;> (unfold Op.equalIn; go_simp)
set_option maxRecDepth 100000 in
theorem lit22n (W : World) : (Instr.buildSlice 22 0 #[]).run Try.prog W = .ok (.slice (some ⟨W.heap.size, 0, none⟩) 0 0) (W.alloc (.cells #[] 3)) := by
  have hu22 := Try.underlying22
  go_simp
theorem C_none {α : Type} {d : Kd α} {w : World} {xs : List α} (h : Kd.C d w none xs.length xs) : xs = [] := by
  cases xs with
  | nil => rfl
  | cons a l =>
    obtain ⟨ad, c, e, _⟩ := Kd.C_get h a 0 (by omega) (by simp only [List.length_cons]; omega)
    cases e
theorem made22 {W : World} {base : Nat} : ∀ (x : Int) cs, kI.K W x cs → kI.M W base (fun _ => False) x cs := fun x cs h => h
theorem C_nums {w : World} {g : Nat} (l : List Int) (hb : w.heap[g]? = some (.cells (l.map (Value.int .i64)).toArray 3 (0, 0))) (hn : l.length ≤ 1000000) : Kd.C kI w (some ⟨g, 0, none⟩) l.length l := by
  refine ⟨rfl, by omega, fun _ => ⟨_, rfl, ?_⟩⟩
  intro j p hj
  refine ⟨[.int .i64 p], rfl, rfl, fun i u hu => ?_⟩
  have hi : i = 0 := by have := (List.getElem?_eq_some_iff.1 hu).1; simpa using this
  subst hi
  rw [Addr.add_mid, Nat.zero_add, blk_cell hb]
  have : (l.map (Value.int .i64))[j]? = some u := by rw [List.getElem?_map, hj]; exact hu
  show (l.map (Value.int .i64)).toArray[j * 1 + 0]? = some u
  simpa using this
/-- The elements of a set. -/
def elN (s n : Nat) : List Int := ((List.range n).filter (fun i => decide (s / 2 ^ i % 2 = 1))).map (fun (i : Nat) => (i : Int))
theorem elN_yes {s i : Nat} (h : s / 2 ^ i % 2 = 1) : elN s (i + 1) = elN s i ++ [(i : Int)] := by
  unfold elN
  rw [List.range_succ, List.filter_append, List.map_append]
  simp [h]
theorem elN_no {s i : Nat} (h : ¬ s / 2 ^ i % 2 = 1) : elN s (i + 1) = elN s i := by
  unfold elN
  rw [List.range_succ, List.filter_append, List.map_append]
  simp [h]
theorem elN_len (s n : Nat) : (elN s n).length ≤ n := by
  unfold elN
  rw [List.length_map]
  have := List.length_filter_le (fun i => decide (s / 2 ^ i % 2 = 1)) (List.range n)
  rw [List.length_range] at this
  exact this
theorem pow_8 {n : Nat} (h : n ≤ 8) : 1 ≤ 2 ^ n ∧ 2 ^ n ≤ 256 := ⟨Nat.pow_pos (by decide), Nat.pow_le_pow_right (n := 2) (by decide) h⟩
theorem all_wrap {n : Nat} (h : n ≤ 8) : IntKind.u64.wrap (((1 * 2 ^ n : Nat) : Int) - 1) = ((2 ^ n - 1 : Nat) : Int) := by
  have := pow_8 h
  rw [Nat.one_mul]
  generalize 2 ^ n = q at this ⊢
  rw [show (q : Int) - 1 = ((q - 1 : Nat) : Int) by omega]
  exact E.u64_in _ (by omega)
set_option maxRecDepth 100000 in
set_option maxHeartbeats 8000000 in

theorem same_calls (l k : List Int) (A A1 : Option Addr) (c c1 : Nat) (w : World) (r : Bool) (hb : r = true ↔ l = k) (h1 : Kd.C kI w A l.length l) (h2 : Kd.C kI w A1 k.length k) (hn : l.length ≤ 1000000) :
    Calls Try.prog 21 #[.slice A l.length c, .slice A1 k.length c1] w fun e w' => e = .returned (.bool r) ∧ Below w.heap.size w w' := by
  have hu3 := Try.underlying3
  have hu22 := Try.underlying22
  obtain ⟨z3, o3⟩ := info_some info3s (by decide)
  refine E.enter (N := 26) Try.func21 rfl Try.ntmps21 (args := [.slice A l.length c, .slice A1 k.length c1]) (by simp) ?_
  have L := Below.refl w.heap.size w
  refine E.CG.seq ?_
  refine E.CG.list ?_
  refine E.GL.run rfl rfl rfl (E.Runs.assign rfl rfl) ?_
  refine E.GL.done ?_
  refine E.QG.code ?_
  refine E.CG.seq ?_
  refine E.CG.seq ?_
  refine E.CG.list ?_
  refine E.GL.run rfl rfl rfl (E.Runs.move rfl rfl) ?_
  refine E.GL.run rfl rfl rfl (E.Runs.len rfl rfl hu22) ?_
  refine E.GL.run rfl rfl rfl (E.Runs.move rfl rfl) ?_
  refine E.GL.run rfl rfl rfl (E.Runs.len rfl rfl hu22) ?_
  refine E.GL.cmpn rfl rfl rfl (fun _ h => (E.Runs.neq rfl rfl rfl h)) (fun h10 => ?_) (fun h10 => ?_)
  · refine E.GL.done ?_
    refine E.QG.code ?_
    refine E.CG.cond_t rfl ?_
    refine E.CG.seq ?_
    refine E.CG.list ?_
    refine E.GL.run rfl rfl rfl (E.Runs.assign rfl rfl) ?_
    refine E.GL.done ?_
    refine E.QG.code ?_
    refine E.CG.ret ?_
    refine E.QG.pass_ret ?_
    exact E.QG.result rfl rfl ⟨by rw [bool_no hb (fun e => h10 (by rw [e]))], L⟩
  · refine E.GL.done ?_
    refine E.QG.code ?_
    refine E.CG.cond_f rfl ?_
    refine E.CG.skip ?_
    refine E.QG.code ?_
    refine E.CG.seq ?_
    refine E.CG.seq ?_
    refine E.CG.list ?_
    refine E.GL.run rfl rfl rfl (E.Runs.assign rfl rfl) ?_
    refine E.GL.done ?_
    refine E.QG.code ?_
    refine E.CG.block ?_
    have s4_L := L
    refine E.CG.loop (fun (i : Nat) => [(0, .slice A l.length c), (1, .slice A1 k.length c1), (5, .int .i64 i)]) (fun i w' => i ≤ l.length ∧ Below w.heap.size w w' ∧ ∀ j, j < i → l[j]? = k[j]?) (fun i => l.length - i) 0 (E.subc rfl (E.subc rfl (E.subc rfl E.subn))) ⟨Nat.zero_le _, L, fun j hj => by omega⟩ ?_
    rintro i w4 ⟨hi, L, hs⟩
    refine E.CG.seq ?_
    refine E.CG.seq ?_
    refine E.CG.list ?_
    refine E.GL.run rfl rfl rfl (E.Runs.move rfl rfl) ?_
    refine E.GL.run rfl rfl rfl (E.Runs.move rfl rfl) ?_
    refine E.GL.run rfl rfl rfl (E.Runs.len rfl rfl hu22) ?_
    refine E.GL.cmp rfl rfl rfl (fun _ h => (E.Runs.lss rfl rfl rfl h)) (fun h14 => ?_) (fun h14 => ?_)
    · obtain ⟨x, hx⟩ := get_ex (show i < l.length by omega)
      obtain ⟨ad, eA, X⟩ := int_at h1 hx
      obtain ⟨y, hy⟩ := get_ex (show i < k.length by omega)
      obtain ⟨ae, eB, Y⟩ := int_at h2 hy
      have hik : (i : Int) < l.length := by omega
      have hik2 : (i : Int) < k.length := by omega
      refine E.GL.done ?_
      refine E.QG.code ?_
      refine E.CG.cond_t rfl ?_
      refine E.CG.skip ?_
      refine E.QG.code ?_
      refine E.CG.seq ?_
      refine E.CG.block ?_
      refine E.CG.seq ?_
      refine E.CG.quietF (by kernel_rfl) rfl (by kernel_rfl) (by kernel_rfl) ?_
      refine E.GQ.run rfl rfl rfl (E.Runs.move rfl rfl) ?_
      refine E.GQ.run rfl rfl rfl (E.Runs.move rfl rfl) ?_
      refine E.GQ.run rfl rfl rfl (E.Runs.indexAddrA rfl rfl rfl hu22 (by assumption) (by assumption) (by assumption) (by first | rfl | assumption) rfl) ?_
      refine E.GQ.run rfl rfl rfl (E.Runs.load rfl rfl hu3 (by first | assumption | exact E.blkc (by assumption) rfl | exact pw_cell_below L (by assumption))) ?_
      refine E.GQ.run rfl rfl rfl (E.Runs.move rfl rfl) ?_
      refine E.GQ.run rfl rfl rfl (E.Runs.move rfl rfl) ?_
      refine E.GQ.run rfl rfl rfl (E.Runs.indexAddrA rfl rfl rfl hu22 (by assumption) (by assumption) (by assumption) (by first | rfl | assumption) rfl) ?_
      refine E.GQ.run rfl rfl rfl (E.Runs.load rfl rfl hu3 (by first | assumption | exact E.blkc (by assumption) rfl | exact pw_cell_below L (by assumption))) ?_
      refine E.GQ.cmpn rfl rfl rfl (fun _ h => (E.Runs.neq rfl rfl rfl h)) (fun h25 => ?_) (fun h25 => ?_)
      · refine E.GQ.doneB fun v6 lD => ?_
        replace L := below_step L lD
        have lD6 := lD
        clear lD
        refine E.QG.code ?_
        refine E.CG.cond_t rfl ?_
        refine E.CG.seq ?_
        refine E.CG.list ?_
        refine E.GL.run rfl rfl rfl (E.Runs.assign rfl rfl) ?_
        refine E.GL.done ?_
        refine E.QG.code ?_
        refine E.CG.ret ?_
        refine E.QG.block_ret ?_
        refine E.QG.pass_ret ?_
        refine E.QG.pass_ret ?_
        refine E.QG.block_ret ?_
        refine E.QG.pass_ret ?_
        exact E.QG.result rfl rfl ⟨by rw [bool_no hb (fun e => by subst e; rw [hx] at hy; cases hy; exact h25 rfl)], L⟩
      · refine E.GQ.doneB fun v6 lD => ?_
        replace L := below_step L lD
        have lD6 := lD
        clear lD
        refine E.QG.code ?_
        refine E.CG.cond_f rfl ?_
        refine E.CG.skip ?_
        refine E.QG.block_normal ?_
        refine E.QG.code ?_
        refine E.CG.list ?_
        refine E.GL.run rfl rfl rfl (E.Runs.move rfl rfl) ?_
        refine E.GL.run rfl rfl rfl (E.Runs.add rfl rfl rfl (IntWalk.i64_in _ (by omega))) ?_
        refine E.GL.run rfl rfl rfl (E.Runs.assign rfl rfl) ?_
        refine E.GL.done ?_
        exact E.QG.round (i + 1) (E.subc rfl (E.subc rfl (E.subc rfl E.subn))) ⟨by omega, L, fun j hj => (Nat.lt_or_ge j i).elim (hs j) (fun q => (show j = i by omega) ▸ (by rw [hx, hy, h25]))⟩ (by omega)
    · refine E.GL.done ?_
      refine E.QG.code ?_
      refine E.CG.cond_f rfl ?_
      refine E.CG.exit ?_
      refine E.QG.pass_exit ?_
      refine E.QG.pass_exit ?_
      refine E.QG.block_here ?_
      refine E.QG.code ?_
      refine E.CG.seq ?_
      refine E.CG.list ?_
      refine E.GL.run rfl rfl rfl (E.Runs.assign rfl rfl) ?_
      refine E.GL.done ?_
      refine E.QG.code ?_
      refine E.CG.ret ?_
      exact E.QG.result rfl rfl ⟨by rw [hb.mpr (List.ext_getElem? fun j => (Nat.lt_or_ge j i).elim (hs j) (fun q => by rw [List.getElem?_eq_none (by omega), List.getElem?_eq_none (by omega)]))], L⟩

set_option maxRecDepth 100000 in
set_option maxHeartbeats 8000000 in

theorem clone73 (l : List Int) (A : Option Addr) (n c : Nat) (w : World) (hr : Kd.C kI w A n l) (hn : n ≤ 1000000) :
    Calls Try.prog 73 #[.slice A n c] w fun e w' => ∃ v, e = .returned v ∧ Kd.R kI 3 w' w.heap.size (fun _ => True) v l ∧ Below w.heap.size w w' := by
  have hu22 := Try.underlying22
  have hln : l.length = n := Kd.C_len hr
  refine E.enter (N := 8) Try.func73 rfl Try.ntmps73 (args := [.slice A n c]) (by simp) ?_
  have L := Below.refl w.heap.size w
  refine E.CG.seq ?_
  refine E.CG.list ?_
  refine E.GL.run rfl rfl rfl (E.Runs.assign rfl rfl) ?_
  refine E.GL.done ?_
  refine E.QG.code ?_
  refine E.CG.seq ?_
  refine E.CG.seq ?_
  refine E.CG.list ?_
  refine E.GL.run rfl rfl rfl (E.Runs.move rfl rfl) ?_
  rcases A with _ | ad
  · refine E.GL.run rfl rfl rfl (E.Runs.eqlv rfl rfl rfl rfl (fun _ _ _ => rfl) (eqNil22 _ _ _)) ?_
    refine E.GL.done ?_
    refine E.QG.code ?_
    refine E.CG.cond_t rfl ?_
    refine E.CG.seq ?_
    refine E.CG.list ?_
    refine E.GL.run rfl rfl rfl (E.Runs.assign rfl rfl) ?_
    refine E.GL.done ?_
    refine E.QG.code ?_
    refine E.CG.ret ?_
    refine E.QG.pass_ret ?_
    have hl : l = [] := C_none (hln ▸ hr)
    subst hl
    exact E.QG.result rfl rfl ⟨_, rfl, Kd.R_nil _ _ _ _ _, L⟩
  · refine E.GL.run rfl rfl rfl (E.Runs.eqlv rfl rfl rfl rfl (fun _ _ _ => rfl) (eqNil22 _ _ _)) ?_
    refine E.GL.done ?_
    refine E.QG.code ?_
    refine E.CG.cond_f rfl ?_
    refine E.CG.skip ?_
    refine E.QG.code ?_
    refine E.CG.seq ?_
    refine E.CG.list ?_
    refine E.GL.st rfl rfl rfl (E.ST.litAt kI w.heap.size (w0 := w) (ys := ([] : List Int)) (inner := []) rfl rfl E.epn lit22n (Reps.none _ _) L L.size (by simp) fun u5 w5 r5 k5 l5 n5 => ?_)
    replace L := k5
    refine E.GL.run rfl rfl rfl (E.Runs.move rfl rfl) ?_
    refine E.GL.st rfl rfl rfl (E.ST.appendRows kI w.heap.size (w0 := w) (s := .tmp 5) (x := .tmp 6) rfl hu22 info3 rfl (by decide) (by decide) rfl rfl r5 (Kd.C_below hr L) made22 L L.size (by simp only [List.length_nil]; omega) fun u7 w7 r7 k7 g7 => ?_)
    replace L := k7
    refine E.GL.run rfl rfl rfl (E.Runs.assign rfl rfl) ?_
    refine E.GL.done ?_
    refine E.QG.code ?_
    refine E.CG.ret ?_
    exact E.QG.result rfl rfl ⟨_, rfl, by simpa using r7, L⟩

set_option maxRecDepth 100000 in
set_option maxHeartbeats 8000000 in

theorem all_calls (V : Wk) (m : Wa) (w : World) (h8 : V.ds.length ≤ 8) :
    Calls Try.prog 39 #[wv V m] w fun e w' => e = .returned (.int .u64 ((2 ^ V.ds.length - 1 : Nat) : Int)) ∧ Below w.heap.size w w' := by
  have hu24 := Try.underlying24
  have hu26 := Try.underlying26
  obtain ⟨z24, o24⟩ := info_some info24s (by decide)
  have h256 := pow_8 h8
  refine E.enter (N := 8) Try.func39 rfl Try.ntmps39 (args := [wv V m]) (by simp) ?_
  have L := Below.refl w.heap.size w
  refine E.CG.seq ?_
  refine E.CG.list ?_
  refine E.GL.st rfl rfl rfl (E.ST.box rfl rfl fun g1 w1 e1 b1 l1 => ?_)
  have h1_L : w.heap.size ≤ g1 := by rw [e1]; exact L.size
  replace L := below_step L l1
  refine E.GL.run rfl rfl rfl (E.Runs.assign rfl rfl) ?_
  refine E.GL.done ?_
  refine E.QG.code ?_
  refine E.CG.seq ?_
  refine E.CG.list ?_
  refine E.GL.run rfl rfl rfl (E.Runs.fieldAddr rfl rfl hu26 rfl (by assumption) rfl) ?_
  refine E.GL.run rfl rfl rfl (E.Runs.load1 rfl rfl hu24 rfl (by first | assumption | exact E.blkc (by assumption) rfl | exact pw_cell_below L (by assumption))) ?_
  refine E.GL.run rfl rfl rfl (E.Runs.len rfl rfl hu24) ?_
  refine E.GL.run rfl rfl rfl (E.Runs.shl (a := 1) (n := V.ds.length) (.inl rfl) rfl rfl rfl (by omega) (by rw [Nat.one_mul]; exact Nat.lt_of_le_of_lt h256.2 (by decide))) ?_
  refine E.GL.run rfl rfl rfl (E.Runs.sub rfl rfl rfl (all_wrap h8)) ?_
  refine E.GL.run rfl rfl rfl (E.Runs.assign rfl rfl) ?_
  refine E.GL.done ?_
  refine E.QG.code ?_
  refine E.CG.ret ?_
  exact E.QG.result rfl rfl ⟨rfl, L⟩

set_option maxRecDepth 100000 in
set_option maxHeartbeats 8000000 in

theorem list_calls (s : Nat) (w : World) (hs : s < 256) :
    Calls Try.prog 41 #[.int .u64 (s : Int)] w fun e w' => ∃ v, e = .returned v ∧ Kd.R kI 3 w' w.heap.size (fun _ => True) v (elN s 8) ∧ Below w.heap.size w w' := by
  have hu3 := Try.underlying3
  have hu22 := Try.underlying22
  obtain ⟨z3, o3⟩ := info_some info3s (by decide)
  refine E.enter (N := 19) Try.func41 rfl Try.ntmps41 (args := [.int .u64 (s : Int)]) (by simp) ?_
  have L := Below.refl w.heap.size w
  refine E.CG.seq ?_
  refine E.CG.list ?_
  refine E.GL.run rfl rfl rfl (E.Runs.assign rfl rfl) ?_
  refine E.GL.done ?_
  refine E.QG.code ?_
  refine E.CG.seq ?_
  refine E.CG.list ?_
  refine E.GL.run rfl rfl rfl (E.Runs.assign rfl rfl) ?_
  refine E.GL.done ?_
  refine E.QG.code ?_
  refine E.CG.seq ?_
  refine E.CG.seq ?_
  refine E.CG.list ?_
  refine E.GL.run rfl rfl rfl (E.Runs.move rfl rfl) ?_
  refine E.GL.done ?_
  refine E.QG.code ?_
  refine E.CG.block ?_
  have s3_L := L
  refine E.CG.loop2 (fun (i : Nat) (v3 : Value) => [(0, .int .u64 (s : Int)), (3, v3), (5, .int .i64 i)]) (fun i v3 w' => i ≤ 8 ∧ Kd.R kI 3 w' w.heap.size (fun _ => True) v3 (elN s i) ∧ Below w.heap.size w w') (fun i v3 => 8 - i) 0 (.slice none 0 0) (E.subc rfl (E.subc rfl (E.subc rfl E.subn))) ⟨Nat.zero_le _, Kd.R_nil _ _ _ _ _, L⟩ ?_
  rintro i v3 w3 ⟨hi, R3, L⟩
  refine E.CG.seq ?_
  refine E.CG.list ?_
  refine E.GL.cmp rfl rfl rfl (fun _ h => (E.Runs.lss rfl rfl rfl h)) (fun h6 => ?_) (fun h6 => ?_)
  · refine E.GL.done ?_
    refine E.QG.code ?_
    refine E.CG.seq ?_
    refine E.CG.cond_t rfl ?_
    refine E.CG.skip ?_
    refine E.QG.code ?_
    refine E.CG.seq ?_
    refine E.CG.block ?_
    refine E.CG.seq ?_
    refine E.CG.list ?_
    refine E.GL.run rfl rfl rfl (E.Runs.move rfl rfl) ?_
    refine E.GL.run rfl rfl rfl (E.Runs.assign rfl rfl) ?_
    refine E.GL.done ?_
    refine E.QG.code ?_
    refine E.CG.seq ?_
    refine E.CG.list ?_
    refine E.GL.run rfl rfl rfl (E.Runs.move rfl rfl) ?_
    refine E.GL.run rfl rfl rfl (E.Runs.move rfl rfl) ?_
    refine E.GL.run rfl rfl rfl (E.Runs.shr (a := s) (n := i) (.inl rfl) rfl rfl rfl (by omega)) ?_
    refine E.GL.run rfl rfl rfl (E.Runs.and (a := s / 2 ^ i) (b := 1) (.inl rfl) rfl rfl rfl (Nat.lt_of_le_of_lt (Nat.div_le_self _ _) (by omega)) (by decide)) ?_
    refine E.GL.cmp rfl rfl rfl (fun _ h => (E.Runs.eql rfl rfl rfl h)) (fun h12 => ?_) (fun h12 => ?_)
    · have hbit : s / 2 ^ i % 2 = 1 := by rw [← Nat.and_one_is_mod]; omega
      refine E.GL.done ?_
      refine E.QG.code ?_
      refine E.CG.cond_t rfl ?_
      refine E.CG.list ?_
      refine E.GL.run rfl rfl rfl (E.Runs.move rfl rfl) ?_
      refine E.GL.run rfl rfl rfl (E.Runs.move rfl rfl) ?_
      refine E.GL.st rfl rfl rfl (E.ST.lit rfl (E.epc rfl E.epn) (lit22 _) ?_)
      refine E.GL.st rfl rfl rfl (E.ST.append kI w.heap.size (w0 := w) (s := .tmp 13) (x := .tmp 15) rfl hu22 info3 rfl (by decide) (by decide) (i : Int) rfl rfl rfl (fun _ _ => trivial) R3 L L.size (by have := elN_len s i; omega) fun u16 w16 r16 k16 gr16 => ?_)
      replace L := k16
      refine E.GL.run rfl rfl rfl (E.Runs.assign rfl rfl) ?_
      refine E.GL.done ?_
      refine E.QG.block_normal ?_
      refine E.QG.code ?_
      refine E.CG.list ?_
      refine E.GL.run rfl rfl rfl (E.Runs.add rfl rfl rfl (IntWalk.i64_in _ (by omega))) ?_
      refine E.GL.run rfl rfl rfl (E.Runs.move rfl rfl) ?_
      refine E.GL.done ?_
      exact E.QG.round2 (d := .slice none 0 0) (i + 1) _ (E.subc rfl (E.subc rfl (E.subc rfl E.subn))) (by first | exact ⟨by omega, by rw [elN_yes hbit]; exact r16, L⟩ | exact ⟨by omega, by rw [elN_no hbit]; exact R3, L⟩ | fail) (by omega)
    · have hbit : ¬ s / 2 ^ i % 2 = 1 := by rw [← Nat.and_one_is_mod]; omega
      refine E.GL.done ?_
      refine E.QG.code ?_
      refine E.CG.cond_f rfl ?_
      refine E.CG.skip ?_
      refine E.QG.block_normal ?_
      refine E.QG.code ?_
      refine E.CG.list ?_
      refine E.GL.run rfl rfl rfl (E.Runs.add rfl rfl rfl (IntWalk.i64_in _ (by omega))) ?_
      refine E.GL.run rfl rfl rfl (E.Runs.move rfl rfl) ?_
      refine E.GL.done ?_
      exact E.QG.round2 (d := .slice none 0 0) (i + 1) _ (E.subc rfl (E.subc rfl (E.subc rfl E.subn))) (by first | exact ⟨by omega, by rw [elN_yes hbit]; exact r16, L⟩ | exact ⟨by omega, by rw [elN_no hbit]; exact R3, L⟩ | fail) (by omega)
  · obtain rfl : i = 8 := by omega
    refine E.GL.done ?_
    refine E.QG.code ?_
    refine E.CG.seq ?_
    refine E.CG.cond_f rfl ?_
    refine E.CG.exit ?_
    refine E.QG.pass_exit ?_
    refine E.QG.pass_exit ?_
    refine E.QG.block_here ?_
    refine E.QG.code ?_
    refine E.CG.seq ?_
    refine E.CG.list ?_
    refine E.GL.run rfl rfl rfl (E.Runs.move rfl rfl) ?_
    refine E.GL.run rfl rfl rfl (E.Runs.assign rfl rfl) ?_
    refine E.GL.done ?_
    refine E.QG.code ?_
    refine E.CG.ret ?_
    exact E.QG.result rfl rfl ⟨_, rfl, R3, L⟩

end Go.Proofs.Ytdiambcjghlffaa.T
namespace Go.Proofs.Ytdiambcjghlffaa.T
open Go.RowKit Go.Proofs.YtdiambcjghlffaaW.PrintWords Go.Proofs.YtdiambcjghlffaaW.PrintMore
open Go.Proofs.Ytdiambcjghlffaa.P
set_option linter.unusedVariables false
set_option linter.unusedSimpArgs false

/-- Fewer, or as many and less at the first place where they differ. -/
def Lx (a b : List Int) : Prop := ∃ (i : Nat) (x y : Int), a[i]? = some x ∧ b[i]? = some y ∧ x < y ∧ ∀ j : Nat, j < i → a[j]? = b[j]?
def Bf (a b : List Int) : Prop := a.length < b.length ∨ a.length = b.length ∧ Lx a b
theorem lx_at {a b : List Int} {i : Nat} {x y : Int} (hs : ∀ j : Nat, j < i → a[j]? = b[j]?) (hx : a[i]? = some x) (hy : b[i]? = some y) (hne : x ≠ y) : Lx a b ↔ x < y := by
  constructor
  · rintro ⟨q, x', y', h1, h2, h3, h4⟩
    rcases Nat.lt_trichotomy q i with h | h | h
    · have := hs q h
      rw [h1, h2] at this
      injection this with this
      omega
    · subst h
      rw [hx] at h1
      rw [hy] at h2
      injection h1 with h1
      injection h2 with h2
      omega
    · have := h4 i h
      rw [hx, hy] at this
      injection this with this
      omega
  · intro h
    exact ⟨i, x, y, hx, hy, h, hs⟩
theorem lx_same {a b : List Int} {i : Nat} (hs : ∀ j : Nat, j < i → a[j]? = b[j]?) (hi : a.length ≤ i) : ¬ Lx a b := by
  rintro ⟨q, x, y, h1, h2, h3, h4⟩
  have hq := (List.getElem?_eq_some_iff.1 h1).1
  have := hs q (by omega)
  rw [h1, h2] at this
  injection this with this
  omega
/-- Far too much of something. -/
def Hg (V : Wk) : Prop := (∃ x ∈ V.fs, 40 < x.f1.length) ∨ 40 < V.rs.length ∨ 40 < V.fs.length ∨ 40 < V.ds.length
theorem hg_no {V : Wk} (h : ¬ Hg V) : Sz V := by
  refine ⟨?_, ?_, fun x hx => ?_, ?_⟩
  · exact Nat.le_of_not_lt fun k => h (.inr (.inl (by omega)))
  · exact Nat.le_of_not_lt fun k => h (.inr (.inr (.inl (by omega))))
  · exact Nat.le_of_not_lt fun k => h (.inl ⟨x, hx, by omega⟩)
  · exact Nat.le_of_not_lt fun k => h (.inr (.inr (.inr (by omega))))
set_option maxRecDepth 100000 in
set_option maxHeartbeats 8000000 in

theorem huge_calls (V : Wk) (m : Wa) (w : World) (hV : WM w V m) (r : Bool) (hb : r = true ↔ Hg V) :
    Calls Try.prog 11 #[wv V m] w fun e w' => e = .returned (.bool r) ∧ Below w.heap.size w w' := by
  have hfl := (hV.fs).2.1
  have hu3 := Try.underlying3
  have hu22 := Try.underlying22
  have hu23 := Try.underlying23
  have hu24 := Try.underlying24
  have hu26 := Try.underlying26
  have hu49 := Try.underlying49
  obtain ⟨z3, o3⟩ := info_some info3s (by decide)
  obtain ⟨z22, o22⟩ := info_some info22s (by decide)
  obtain ⟨z23, o23⟩ := info_some info23s (by decide)
  obtain ⟨z24, o24⟩ := info_some info24s (by decide)
  obtain ⟨z49, o49⟩ := info_some info49s (by decide)
  refine E.enter (N := 35) Try.func11 rfl Try.ntmps11 (args := [wv V m]) (by simp) ?_
  have L := Below.refl w.heap.size w
  refine E.CG.seq ?_
  refine E.CG.list ?_
  refine E.GL.st rfl rfl rfl (E.ST.box rfl rfl fun g1 w1 e1 b1 l1 => ?_)
  have h1_L : w.heap.size ≤ g1 := by rw [e1]; exact L.size
  replace L := below_step L l1
  refine E.GL.run rfl rfl rfl (E.Runs.assign rfl rfl) ?_
  refine E.GL.done ?_
  refine E.QG.code ?_
  refine E.CG.seq ?_
  refine E.CG.seq ?_
  refine E.CG.list ?_
  refine E.GL.run rfl rfl rfl (E.Runs.assign rfl rfl) ?_
  refine E.GL.done ?_
  refine E.QG.code ?_
  refine E.CG.block ?_
  have s2_b1 := b1
  have s2_L := L
  refine E.CG.loop (fun (i : Nat) => [(1, .pointer (some ⟨g1, 0, none⟩)), (3, .int .i64 i)]) (fun i w' => i ≤ V.fs.length ∧ (∀ k, k < i → ∀ x, V.fs[k]? = some x → x.f1.length ≤ 40) ∧ w'.heap[g1]? = some (.cells #[.int .i64 V.d, .slice m.A V.rs.length m.a, .int .i64 V.h, .slice m.B V.fs.length m.b, .slice m.C V.ds.length m.c] 26 (0, 0)) ∧ Below w.heap.size w w') (fun i => V.fs.length - i) 0 (E.subc rfl (E.subc rfl E.subn)) ⟨Nat.zero_le _, fun k hk => by omega, b1, L⟩ ?_
  rintro i w2 ⟨hi, hok, b1, L⟩
  refine E.CG.seq ?_
  refine E.CG.seq ?_
  refine E.CG.list ?_
  refine E.GL.run rfl rfl rfl (E.Runs.move rfl rfl) ?_
  refine E.GL.run rfl rfl rfl (E.Runs.fieldAddr rfl rfl hu26 rfl (by assumption) rfl) ?_
  refine E.GL.run rfl rfl rfl (E.Runs.load1 rfl rfl hu23 rfl (by first | assumption | exact E.blkc (by assumption) rfl | exact pw_cell_below L (by assumption))) ?_
  refine E.GL.run rfl rfl rfl (E.Runs.len rfl rfl hu23) ?_
  refine E.GL.cmp rfl rfl rfl (fun _ h => (E.Runs.lss rfl rfl rfl h)) (fun h8 => ?_) (fun h8 => ?_)
  · obtain ⟨x, hx⟩ := get_ex (show i < V.fs.length by omega)
    obtain ⟨ad, a0, k0, eA, _, hx0, X⟩ := film_at hV.fs hx
    refine E.GL.done ?_
    refine E.QG.code ?_
    refine E.CG.cond_t rfl ?_
    refine E.CG.skip ?_
    refine E.QG.code ?_
    refine E.CG.seq ?_
    refine E.CG.block ?_
    refine E.CG.seq ?_
    refine E.CG.list ?_
    refine E.GL.run rfl rfl rfl (E.Runs.fieldAddr rfl rfl hu26 rfl (by assumption) rfl) ?_
    refine E.GL.run rfl rfl rfl (E.Runs.load1 rfl rfl hu23 rfl (by first | assumption | exact E.blkc (by assumption) rfl | exact pw_cell_below L (by assumption))) ?_
    refine E.GL.run rfl rfl rfl (E.Runs.move rfl rfl) ?_
    refine E.GL.run rfl rfl rfl (E.Runs.indexAddrA (i := i) rfl rfl rfl hu23 z49 o49 (by omega) eA rfl) ?_
    refine E.GL.run rfl rfl rfl (E.Runs.fieldAddr rfl rfl hu49 rfl (by assumption) rfl) ?_
    refine E.GL.run rfl rfl rfl (E.Runs.load1 rfl rfl hu22 rfl (show _ = some (Value.slice a0 x.f1.length k0) from pw_cell_below L (X 1 _ rfl))) ?_
    refine E.GL.run rfl rfl rfl (E.Runs.len rfl rfl hu22) ?_
    refine E.GL.cmp rfl rfl rfl (fun _ h => (E.Runs.gtr rfl rfl rfl h)) (fun h18 => ?_) (fun h18 => ?_)
    · refine E.GL.done ?_
      refine E.QG.code ?_
      refine E.CG.cond_t rfl ?_
      refine E.CG.seq ?_
      refine E.CG.list ?_
      refine E.GL.run rfl rfl rfl (E.Runs.assign rfl rfl) ?_
      refine E.GL.done ?_
      refine E.QG.code ?_
      refine E.CG.ret ?_
      refine E.QG.block_ret ?_
      refine E.QG.pass_ret ?_
      refine E.QG.pass_ret ?_
      refine E.QG.block_ret ?_
      refine E.QG.pass_ret ?_
      exact E.QG.result rfl rfl ⟨by rw [hb.mpr (.inl ⟨x, mem_of hx, by omega⟩)], L⟩
    · refine E.GL.done ?_
      refine E.QG.code ?_
      refine E.CG.cond_f rfl ?_
      refine E.CG.skip ?_
      refine E.QG.block_normal ?_
      refine E.QG.code ?_
      refine E.CG.list ?_
      refine E.GL.run rfl rfl rfl (E.Runs.move rfl rfl) ?_
      refine E.GL.run rfl rfl rfl (E.Runs.add rfl rfl rfl (IntWalk.i64_in _ (by omega))) ?_
      refine E.GL.run rfl rfl rfl (E.Runs.assign rfl rfl) ?_
      refine E.GL.done ?_
      exact E.QG.round (i + 1) (E.subc rfl (E.subc rfl E.subn)) ⟨by omega, all_more hok hx (by omega), b1, L⟩ (by omega)
  · have hno := all_done hok (show V.fs.length ≤ i by omega)
    have hbad : (∃ x ∈ V.fs, 40 < x.f1.length) → False := fun ⟨x, h1, h2⟩ => by have := hno x h1; omega
    refine E.GL.done ?_
    refine E.QG.code ?_
    refine E.CG.cond_f rfl ?_
    refine E.CG.exit ?_
    refine E.QG.pass_exit ?_
    refine E.QG.pass_exit ?_
    refine E.QG.block_here ?_
    refine E.QG.code ?_
    refine E.CG.seq ?_
    refine E.CG.list ?_
    refine E.GL.run rfl rfl rfl (E.Runs.fieldAddr rfl rfl hu26 rfl (by assumption) rfl) ?_
    refine E.GL.run rfl rfl rfl (E.Runs.load1 rfl rfl hu22 rfl (by first | assumption | exact E.blkc (by assumption) rfl | exact pw_cell_below L (by assumption))) ?_
    refine E.GL.run rfl rfl rfl (E.Runs.len rfl rfl hu22) ?_
    refine E.GL.cmp rfl rfl rfl (fun _ h => (E.Runs.gtr rfl rfl rfl h)) (fun h22 => ?_) (fun h22 => ?_)
    · refine E.GL.run rfl rfl rfl (E.Runs.move rfl rfl) ?_
      refine E.GL.skip rfl rfl rfl ?_
      refine E.GL.skip rfl rfl rfl ?_
      refine E.GL.skip rfl rfl rfl ?_
      refine E.GL.skip rfl rfl rfl ?_
      refine E.GL.run rfl rfl rfl (E.Runs.pick_t rfl rfl rfl) ?_
      refine E.GL.run rfl rfl rfl (E.Runs.move rfl rfl) ?_
      refine E.GL.skip rfl rfl rfl ?_
      refine E.GL.skip rfl rfl rfl ?_
      refine E.GL.skip rfl rfl rfl ?_
      refine E.GL.skip rfl rfl rfl ?_
      refine E.GL.run rfl rfl rfl (E.Runs.pick_t rfl rfl rfl) ?_
      refine E.GL.run rfl rfl rfl (E.Runs.assign rfl rfl) ?_
      refine E.GL.done ?_
      refine E.QG.code ?_
      refine E.CG.ret ?_
      exact E.QG.result rfl rfl ⟨by rw [hb.mpr (.inr (.inl (by omega)))], L⟩
    · refine E.GL.run rfl rfl rfl (E.Runs.move rfl rfl) ?_
      refine E.GL.run rfl rfl rfl (E.Runs.fieldAddr rfl rfl hu26 rfl (by assumption) rfl) ?_
      refine E.GL.run rfl rfl rfl (E.Runs.load1 rfl rfl hu23 rfl (by first | assumption | exact E.blkc (by assumption) rfl | exact pw_cell_below L (by assumption))) ?_
      refine E.GL.run rfl rfl rfl (E.Runs.len rfl rfl hu23) ?_
      refine E.GL.cmp rfl rfl rfl (fun _ h => (E.Runs.gtr rfl rfl rfl h)) (fun h27 => ?_) (fun h27 => ?_)
      · refine E.GL.run rfl rfl rfl (E.Runs.pick_f rfl rfl rfl) ?_
        refine E.GL.run rfl rfl rfl (E.Runs.move rfl rfl) ?_
        refine E.GL.skip rfl rfl rfl ?_
        refine E.GL.skip rfl rfl rfl ?_
        refine E.GL.skip rfl rfl rfl ?_
        refine E.GL.skip rfl rfl rfl ?_
        refine E.GL.run rfl rfl rfl (E.Runs.pick_t rfl rfl rfl) ?_
        refine E.GL.run rfl rfl rfl (E.Runs.assign rfl rfl) ?_
        refine E.GL.done ?_
        refine E.QG.code ?_
        refine E.CG.ret ?_
        exact E.QG.result rfl rfl ⟨by rw [hb.mpr (.inr (.inr (.inl (by omega))))], L⟩
      · refine E.GL.run rfl rfl rfl (E.Runs.pick_f rfl rfl rfl) ?_
        refine E.GL.run rfl rfl rfl (E.Runs.move rfl rfl) ?_
        refine E.GL.run rfl rfl rfl (E.Runs.fieldAddr rfl rfl hu26 rfl (by assumption) rfl) ?_
        refine E.GL.run rfl rfl rfl (E.Runs.load1 rfl rfl hu24 rfl (by first | assumption | exact E.blkc (by assumption) rfl | exact pw_cell_below L (by assumption))) ?_
        refine E.GL.run rfl rfl rfl (E.Runs.len rfl rfl hu24) ?_
        refine E.GL.cmp rfl rfl rfl (fun _ h => (E.Runs.gtr rfl rfl rfl h)) (fun h33 => ?_) (fun h33 => ?_)
        · refine E.GL.run rfl rfl rfl (E.Runs.pick_f rfl rfl rfl) ?_
          refine E.GL.run rfl rfl rfl (E.Runs.assign rfl rfl) ?_
          refine E.GL.done ?_
          refine E.QG.code ?_
          refine E.CG.ret ?_
          exact E.QG.result rfl rfl ⟨by rw [hb.mpr (.inr (.inr (.inr (by omega))))], L⟩
        · refine E.GL.run rfl rfl rfl (E.Runs.pick_f rfl rfl rfl) ?_
          refine E.GL.run rfl rfl rfl (E.Runs.assign rfl rfl) ?_
          refine E.GL.done ?_
          refine E.QG.code ?_
          refine E.CG.ret ?_
          exact E.QG.result rfl rfl ⟨by rw [bool_no hb (fun q => q.elim hbad (fun q => q.elim (fun q => by omega) (fun q => q.elim (fun q => by omega) (fun q => by omega))))], L⟩

end Go.Proofs.Ytdiambcjghlffaa.T
namespace Go.Proofs.Ytdiambcjghlffaa.T
open Go.RowKit Go.Proofs.YtdiambcjghlffaaW.PrintWords Go.Proofs.YtdiambcjghlffaaW.PrintMore
open Go.Proofs.Ytdiambcjghlffaa.P
set_option linter.unusedVariables false
set_option linter.unusedSimpArgs false

def cpI (x y : Int) : Int := if x < y then -1 else if y < x then 1 else 0
theorem cpI_lt {x y : Int} (h : x < y) : cpI x y = -1 := if_pos h
theorem cpI_gt {x y : Int} (h : y < x) : cpI x y = 1 := by unfold cpI; rw [if_neg (by omega), if_pos h]
theorem cpI_eq {x y : Int} (h : ¬ x < y) (k : ¬ y < x) : cpI x y = 0 := by unfold cpI; rw [if_neg h, if_neg k]
theorem cpI_zero {x y : Int} : cpI x y = 0 ↔ x = y := by unfold cpI; split; · omega
                                                         · split <;> omega
theorem cpI_neg {x y : Int} : cpI x y < 0 ↔ x < y := by unfold cpI; split; · omega
                                                        · split <;> omega
set_option maxRecDepth 100000 in
set_option maxHeartbeats 8000000 in

theorem isNaN_calls (x : Int) (w : World) :
    Calls Try.prog 74 #[.int .i64 x] w fun e w' => e = .returned (.bool false) ∧ Below w.heap.size w w' := by
  refine E.enter (N := 6) Try.func74 rfl Try.ntmps74 (args := [.int .i64 x]) (by simp) ?_
  have L := Below.refl w.heap.size w
  refine E.CG.seq ?_
  refine E.CG.list ?_
  refine E.GL.run rfl rfl rfl (E.Runs.assign rfl rfl) ?_
  refine E.GL.done ?_
  refine E.QG.code ?_
  refine E.CG.seq ?_
  refine E.CG.list ?_
  refine E.GL.run rfl rfl rfl (E.Runs.move rfl rfl) ?_
  refine E.GL.run rfl rfl rfl (E.Runs.move rfl rfl) ?_
  refine E.GL.run rfl rfl rfl (E.Runs.neq rfl rfl rfl (E.ne_f rfl)) ?_
  refine E.GL.run rfl rfl rfl (E.Runs.assign rfl rfl) ?_
  refine E.GL.done ?_
  refine E.QG.code ?_
  refine E.CG.ret ?_
  exact E.QG.result rfl rfl ⟨rfl, L⟩

set_option maxRecDepth 100000 in
set_option maxHeartbeats 8000000 in

theorem cmp_calls (x y : Int) (w : World) :
    Calls Try.prog 62 #[.int .i64 x, .int .i64 y] w fun e w' => e = .returned (.int .i64 (cpI x y)) ∧ Below w.heap.size w w' := by
  refine E.enter (N := 20) Try.func62 rfl Try.ntmps62 (args := [.int .i64 x, .int .i64 y]) (by simp) ?_
  have L := Below.refl w.heap.size w
  refine E.CG.seq ?_
  refine E.CG.list ?_
  refine E.GL.run rfl rfl rfl (E.Runs.assign rfl rfl) ?_
  refine E.GL.done ?_
  refine E.QG.code ?_
  refine E.CG.seq ?_
  refine E.CG.list ?_
  refine E.GL.run rfl rfl rfl (E.Runs.move rfl rfl) ?_
  refine E.GL.st rfl rfl rfl (E.ST.call rfl ent74 (E.evc rfl E.evn) ((isNaN_calls x _).mono ?_))
  rintro e w8 ⟨rfl, l8⟩
  refine ⟨_, rfl, ?_⟩
  replace L := below_step L l8
  refine E.GL.run rfl rfl rfl (E.Runs.assign rfl rfl) ?_
  refine E.GL.done ?_
  refine E.QG.code ?_
  refine E.CG.seq ?_
  refine E.CG.list ?_
  refine E.GL.run rfl rfl rfl (E.Runs.move rfl rfl) ?_
  refine E.GL.st rfl rfl rfl (E.ST.call rfl ent74 (E.evc rfl E.evn) ((isNaN_calls y _).mono ?_))
  rintro e w10 ⟨rfl, l10⟩
  refine ⟨_, rfl, ?_⟩
  replace L := below_step L l10
  refine E.GL.run rfl rfl rfl (E.Runs.assign rfl rfl) ?_
  refine E.GL.done ?_
  refine E.QG.code ?_
  refine E.CG.seq ?_
  refine E.CG.seq ?_
  refine E.CG.list ?_
  refine E.GL.run rfl rfl rfl (E.Runs.move rfl rfl) ?_
  refine E.GL.done ?_
  refine E.QG.code ?_
  refine E.CG.cond_f rfl ?_
  refine E.CG.skip ?_
  refine E.QG.code ?_
  refine E.CG.seq ?_
  refine E.CG.seq ?_
  refine E.CG.list ?_
  refine E.GL.run rfl rfl rfl (E.Runs.move rfl rfl) ?_
  refine E.GL.done ?_
  refine E.QG.code ?_
  refine E.CG.cond_f rfl ?_
  refine E.CG.skip ?_
  refine E.QG.code ?_
  refine E.CG.seq ?_
  refine E.CG.seq ?_
  refine E.CG.list ?_
  refine E.GL.run rfl rfl rfl (E.Runs.move rfl rfl) ?_
  refine E.GL.run rfl rfl rfl (E.Runs.move rfl rfl) ?_
  refine E.GL.cmp rfl rfl rfl (fun _ h => (E.Runs.lss rfl rfl rfl h)) (fun h16 => ?_) (fun h16 => ?_)
  · refine E.GL.done ?_
    refine E.QG.code ?_
    refine E.CG.cond_t rfl ?_
    refine E.CG.seq ?_
    refine E.CG.list ?_
    refine E.GL.run rfl rfl rfl (E.Runs.assign rfl rfl) ?_
    refine E.GL.done ?_
    refine E.QG.code ?_
    refine E.CG.ret ?_
    refine E.QG.pass_ret ?_
    exact E.QG.result rfl rfl ⟨by rw [cpI_lt h16], L⟩
  · refine E.GL.done ?_
    refine E.QG.code ?_
    refine E.CG.cond_f rfl ?_
    refine E.CG.skip ?_
    refine E.QG.code ?_
    refine E.CG.seq ?_
    refine E.CG.seq ?_
    refine E.CG.list ?_
    refine E.GL.run rfl rfl rfl (E.Runs.move rfl rfl) ?_
    refine E.GL.run rfl rfl rfl (E.Runs.move rfl rfl) ?_
    refine E.GL.cmp rfl rfl rfl (fun _ h => (E.Runs.gtr rfl rfl rfl h)) (fun h19 => ?_) (fun h19 => ?_)
    · refine E.GL.done ?_
      refine E.QG.code ?_
      refine E.CG.cond_t rfl ?_
      refine E.CG.seq ?_
      refine E.CG.list ?_
      refine E.GL.run rfl rfl rfl (E.Runs.assign rfl rfl) ?_
      refine E.GL.done ?_
      refine E.QG.code ?_
      refine E.CG.ret ?_
      refine E.QG.pass_ret ?_
      exact E.QG.result rfl rfl ⟨by rw [cpI_gt (by omega)], L⟩
    · refine E.GL.done ?_
      refine E.QG.code ?_
      refine E.CG.cond_f rfl ?_
      refine E.CG.skip ?_
      refine E.QG.code ?_
      refine E.CG.seq ?_
      refine E.CG.list ?_
      refine E.GL.run rfl rfl rfl (E.Runs.assign rfl rfl) ?_
      refine E.GL.done ?_
      refine E.QG.code ?_
      refine E.CG.ret ?_
      exact E.QG.result rfl rfl ⟨by rw [cpI_eq h16 (by omega)], L⟩

set_option maxRecDepth 100000 in
set_option maxHeartbeats 8000000 in

theorem compare_calls (l k : List Int) (A A1 : Option Addr) (c c1 : Nat) (w : World) (hlen : l.length = k.length) (h1 : Kd.C kI w A l.length l) (h2 : Kd.C kI w A1 k.length k) (hn : l.length ≤ 1000000) :
    Calls Try.prog 42 #[.slice A l.length c, .slice A1 k.length c1] w fun e w' => ∃ n, e = .returned (.int .i64 n) ∧ (n < 0 ↔ Lx l k) ∧ Below w.heap.size w w' := by
  have hu3 := Try.underlying3
  have hu22 := Try.underlying22
  obtain ⟨z3, o3⟩ := info_some info3s (by decide)
  refine E.enter (N := 36) Try.func42 rfl Try.ntmps42 (args := [.slice A l.length c, .slice A1 k.length c1]) (by simp) ?_
  have L := Below.refl w.heap.size w
  refine E.CG.seq ?_
  refine E.CG.list ?_
  refine E.GL.run rfl rfl rfl (E.Runs.assign rfl rfl) ?_
  refine E.GL.done ?_
  refine E.QG.code ?_
  refine E.CG.seq ?_
  refine E.CG.seq ?_
  refine E.CG.list ?_
  refine E.GL.run rfl rfl rfl (E.Runs.move rfl rfl) ?_
  refine E.GL.run rfl rfl rfl (E.Runs.len rfl rfl hu22) ?_
  refine E.GL.run rfl rfl rfl (E.Runs.move rfl rfl) ?_
  refine E.GL.done ?_
  refine E.QG.code ?_
  refine E.CG.block ?_
  have s2_L := L
  refine E.CG.loop (fun (i : Nat) => [(0, .slice A l.length c), (1, .slice A1 k.length c1), (9, .slice A l.length c), (10, .int .i64 l.length), (11, .int .i64 i)]) (fun i w' => i ≤ l.length ∧ Below w.heap.size w w' ∧ ∀ j : Nat, j < i → l[j]? = k[j]?) (fun i => l.length - i) 0 (E.subc rfl (E.subc rfl (E.subc rfl (E.subc rfl (E.subc rfl E.subn))))) ⟨Nat.zero_le _, L, fun j hj => by omega⟩ ?_
  rintro i w2 ⟨hi, L, hs⟩
  refine E.CG.seq ?_
  refine E.CG.list ?_
  refine E.GL.cmp rfl rfl rfl (fun _ h => (E.Runs.lss rfl rfl rfl h)) (fun h12 => ?_) (fun h12 => ?_)
  · obtain ⟨x, hx⟩ := get_ex (show i < l.length by omega)
    obtain ⟨ad, eA, X⟩ := int_at h1 hx
    obtain ⟨y, hy⟩ := get_ex (show i < k.length by omega)
    obtain ⟨ae, eB, Y⟩ := int_at h2 hy
    have hik : (i : Int) < l.length := by omega
    have hik2 : (i : Int) < k.length := by omega
    refine E.GL.done ?_
    refine E.QG.code ?_
    refine E.CG.seq ?_
    refine E.CG.cond_t rfl ?_
    refine E.CG.skip ?_
    refine E.QG.code ?_
    refine E.CG.seq ?_
    refine E.CG.block ?_
    refine E.CG.seq ?_
    refine E.CG.list ?_
    refine E.GL.run rfl rfl rfl (E.Runs.move rfl rfl) ?_
    refine E.GL.run rfl rfl rfl (E.Runs.indexAddrA (i := i) rfl rfl rfl hu22 z3 o3 (by omega) eA rfl) ?_
    refine E.GL.run rfl rfl rfl (E.Runs.load rfl rfl hu3 (pw_cell_below L X)) ?_
    refine E.GL.run rfl rfl rfl (E.Runs.assign rfl rfl) ?_
    refine E.GL.run rfl rfl rfl (E.Runs.assign rfl rfl) ?_
    refine E.GL.done ?_
    refine E.QG.code ?_
    refine E.CG.seq ?_
    refine E.CG.seq ?_
    refine E.CG.list ?_
    refine E.GL.run rfl rfl rfl (E.Runs.move rfl rfl) ?_
    refine E.GL.run rfl rfl rfl (E.Runs.move rfl rfl) ?_
    refine E.GL.run rfl rfl rfl (E.Runs.len rfl rfl hu22) ?_
    refine E.GL.run rfl rfl rfl (E.Runs.geq rfl rfl rfl (decide_eq_false (by omega))) ?_
    refine E.GL.done ?_
    refine E.QG.code ?_
    refine E.CG.cond_f rfl ?_
    refine E.CG.skip ?_
    refine E.QG.code ?_
    refine E.CG.seq ?_
    refine E.CG.list ?_
    refine E.GL.run rfl rfl rfl (E.Runs.move rfl rfl) ?_
    refine E.GL.run rfl rfl rfl (E.Runs.move rfl rfl) ?_
    refine E.GL.run rfl rfl rfl (E.Runs.indexAddrA (i := i) rfl rfl rfl hu22 z3 o3 (by omega) eB rfl) ?_
    refine E.GL.run rfl rfl rfl (E.Runs.load rfl rfl hu3 (pw_cell_below L Y)) ?_
    refine E.GL.run rfl rfl rfl (E.Runs.assign rfl rfl) ?_
    refine E.GL.done ?_
    refine E.QG.code ?_
    refine E.CG.seq ?_
    refine E.CG.list ?_
    refine E.GL.run rfl rfl rfl (E.Runs.move rfl rfl) ?_
    refine E.GL.run rfl rfl rfl (E.Runs.move rfl rfl) ?_
    refine E.GL.st rfl rfl rfl (E.ST.call rfl ent62 (E.evc rfl (E.evc rfl E.evn)) ((cmp_calls x y _).mono ?_))
    rintro e w26 ⟨rfl, l26⟩
    refine ⟨_, rfl, ?_⟩
    replace L := below_step L l26
    refine E.GL.run rfl rfl rfl (E.Runs.assign rfl rfl) ?_
    refine E.GL.done ?_
    refine E.QG.code ?_
    refine E.CG.seq ?_
    refine E.CG.list ?_
    refine E.GL.run rfl rfl rfl (E.Runs.move rfl rfl) ?_
    refine E.GL.cmpn rfl rfl rfl (fun _ h => (E.Runs.neq rfl rfl rfl h)) (fun h28 => ?_) (fun h28 => ?_)
    · refine E.GL.done ?_
      refine E.QG.code ?_
      refine E.CG.cond_t rfl ?_
      refine E.CG.seq ?_
      refine E.CG.list ?_
      refine E.GL.run rfl rfl rfl (E.Runs.move rfl rfl) ?_
      refine E.GL.run rfl rfl rfl (E.Runs.assign rfl rfl) ?_
      refine E.GL.done ?_
      refine E.QG.code ?_
      refine E.CG.ret ?_
      refine E.QG.block_ret ?_
      refine E.QG.pass_ret ?_
      refine E.QG.pass_ret ?_
      refine E.QG.block_ret ?_
      refine E.QG.pass_ret ?_
      exact E.QG.result rfl rfl ⟨_, rfl, cpI_neg.trans (lx_at hs hx hy (fun e => h28 (cpI_zero.mpr e))).symm, L⟩
    · refine E.GL.done ?_
      refine E.QG.code ?_
      refine E.CG.cond_f rfl ?_
      refine E.CG.skip ?_
      refine E.QG.block_normal ?_
      refine E.QG.code ?_
      refine E.CG.list ?_
      refine E.GL.run rfl rfl rfl (E.Runs.add rfl rfl rfl (IntWalk.i64_in _ (by omega))) ?_
      refine E.GL.run rfl rfl rfl (E.Runs.move rfl rfl) ?_
      refine E.GL.done ?_
      exact E.QG.round (i + 1) (E.subc rfl (E.subc rfl (E.subc rfl (E.subc rfl (E.subc rfl E.subn))))) ⟨by omega, L, fun j hj => (Nat.lt_or_ge j i).elim (hs j) (fun q => (show j = i by omega) ▸ (by rw [hx, hy, cpI_zero.mp (show cpI x y = 0 by omega)]))⟩ (by omega)
  · refine E.GL.done ?_
    refine E.QG.code ?_
    refine E.CG.seq ?_
    refine E.CG.cond_f rfl ?_
    refine E.CG.exit ?_
    refine E.QG.pass_exit ?_
    refine E.QG.pass_exit ?_
    refine E.QG.block_here ?_
    refine E.QG.code ?_
    refine E.CG.seq ?_
    refine E.CG.seq ?_
    refine E.CG.list ?_
    refine E.GL.run rfl rfl rfl (E.Runs.move rfl rfl) ?_
    refine E.GL.run rfl rfl rfl (E.Runs.len rfl rfl hu22) ?_
    refine E.GL.run rfl rfl rfl (E.Runs.move rfl rfl) ?_
    refine E.GL.run rfl rfl rfl (E.Runs.len rfl rfl hu22) ?_
    refine E.GL.run rfl rfl rfl (E.Runs.lss rfl rfl rfl (decide_eq_false (by omega))) ?_
    refine E.GL.done ?_
    refine E.QG.code ?_
    refine E.CG.cond_f rfl ?_
    refine E.CG.skip ?_
    refine E.QG.code ?_
    refine E.CG.seq ?_
    refine E.CG.list ?_
    refine E.GL.run rfl rfl rfl (E.Runs.assign rfl rfl) ?_
    refine E.GL.done ?_
    refine E.QG.code ?_
    refine E.CG.ret ?_
    exact E.QG.result rfl rfl ⟨_, rfl, iff_of_false (by omega) (lx_same hs (by omega)), L⟩

end Go.Proofs.Ytdiambcjghlffaa.T
namespace Go.Proofs.Ytdiambcjghlffaa.T
open Go.RowKit Go.Proofs.YtdiambcjghlffaaW.PrintWords Go.Proofs.YtdiambcjghlffaaW.PrintMore
open Go.Proofs.Ytdiambcjghlffaa.P
set_option linter.unusedVariables false
set_option linter.unusedSimpArgs false

end Go.Proofs.Ytdiambcjghlffaa.T
namespace Go.Proofs.Ytdiambcjghlffaa.T
open Go.RowKit Go.Proofs.YtdiambcjghlffaaW.PrintWords Go.Proofs.YtdiambcjghlffaaW.PrintMore
open Go.Proofs.Ytdiambcjghlffaa.P
set_option linter.unusedVariables false
set_option linter.unusedSimpArgs false
section
open Classical
/-- The first deals that a program keeps. -/
noncomputable def mk (V : Wk) (p : List Int) : Nat → Nat
  | 0 => 0
  | n + 1 => if bad V p n then mk V p n else mk V p n ||| 2 ^ n
end
noncomputable def mask (V : Wk) (p : List Int) : Nat := mk V p V.ds.length
theorem mk_yes {V : Wk} {p : List Int} {n : Nat} (h : ¬ bad V p n) : mk V p (n + 1) = mk V p n ||| 2 ^ n := by rw [mk, if_neg h]
theorem mk_no {V : Wk} {p : List Int} {n : Nat} (h : bad V p n) : mk V p (n + 1) = mk V p n := by rw [mk, if_pos h]
theorem mk_bit (V : Wk) (p : List Int) : ∀ (n i : Nat), (mk V p n).testBit i = true ↔ i < n ∧ ¬ bad V p i
  | 0, i => by simp [mk]
  | n + 1, i => by
    have ih := mk_bit V p n i
    by_cases h : bad V p n
    · rw [mk_no h, ih]
      constructor
      · rintro ⟨a, b⟩; exact ⟨by omega, b⟩
      · rintro ⟨a, b⟩
        refine ⟨?_, b⟩
        by_cases e : i = n
        · subst e; exact absurd h b
        · omega
    · rw [mk_yes h, Nat.testBit_or, Bool.or_eq_true, ih, Nat.testBit_two_pow, decide_eq_true_eq]
      constructor
      · rintro (⟨a, b⟩ | e)
        · exact ⟨by omega, b⟩
        · subst e; exact ⟨by omega, h⟩
      · rintro ⟨a, b⟩
        by_cases e : n = i
        · exact .inr e
        · exact .inl ⟨by omega, b⟩
theorem mk_lt (V : Wk) (p : List Int) : ∀ n, mk V p n < 2 ^ n
  | 0 => by simp [mk]
  | n + 1 => by
    have ih := mk_lt V p n
    have h2 : 2 ^ (n + 1) = 2 * 2 ^ n := by rw [Nat.pow_succ]; omega
    by_cases h : bad V p n
    · rw [mk_no h]; omega
    · rw [mk_yes h]
      exact Nat.or_lt_two_pow (by omega) (by omega)
theorem mask_lt {V : Wk} (h : V.ds.length ≤ 8) (p : List Int) : mask V p < 256 := Nat.lt_of_lt_of_le (mk_lt V p _) (pow_8 h).2
/-- A set is part of another one. -/
theorem sub_iff {a s : Nat} : a &&& s = s ↔ ∀ i, s.testBit i = true → a.testBit i = true := by
  constructor
  · intro h i hi
    have := congrArg (fun x => x.testBit i) h
    simp only [Nat.testBit_and, hi, Bool.and_true] at this
    exact this
  · intro h
    refine Nat.eq_of_testBit_eq fun i => ?_
    rw [Nat.testBit_and]
    cases hs : s.testBit i with
    | false => simp
    | true => simp [h i hs]
/-- A program keeps all deals of a set. -/
def Kp (V : Wk) (s : Nat) (p : List Int) : Prop := ∀ i, s.testBit i = true → i < V.ds.length ∧ ¬ bad V p i
theorem kp_iff {V : Wk} {s : Nat} {p : List Int} : mask V p &&& s = s ↔ Kp V s p := by
  rw [sub_iff]
  exact ⟨fun h i hi => (mk_bit V p _ i).mp (h i hi), fun h i hi => (mk_bit V p _ i).mpr (h i hi)⟩
def allS (V : Wk) : Nat := 2 ^ V.ds.length - 1
theorem all_bit (V : Wk) (i : Nat) : (allS V).testBit i = true ↔ i < V.ds.length := by
  unfold allS
  rw [Nat.testBit_two_pow_sub_one, decide_eq_true_eq]
theorem kp_all {V : Wk} {p : List Int} : Kp V (allS V) p ↔ ∀ i, i < V.ds.length → ¬ bad V p i := ⟨fun h i hi => (h i ((all_bit V i).mpr hi)).2, fun h i hi => ⟨(all_bit V i).mp hi, h i ((all_bit V i).mp hi)⟩⟩
/-- Without a deal. -/
theorem without_bit (V : Wk) {d : Nat} (hd : d < V.ds.length) (i : Nat) : (allS V &&& (allS V ^^^ 2 ^ d)).testBit i = true ↔ i < V.ds.length ∧ i ≠ d := by
  have h1 := all_bit V i
  rw [Nat.testBit_and, Nat.testBit_xor, Nat.testBit_two_pow]
  by_cases hi : i < V.ds.length
  · rw [h1.mpr hi]
    by_cases e : d = i
    · subst e; simp
    · simp [e, hi]; exact fun q => e q.symm
  · have : (allS V).testBit i = false := Bool.eq_false_iff.mpr fun q => hi (h1.mp q)
    rw [this]
    simp [hi]
/-- Digits as a number. -/
theorem dg_all {B : Nat} (hB : 0 < B) (f : Nat → Nat) : ∀ n, (∀ i, i < n → f i < B) → ∃ t, t < B ^ n ∧ ∀ i, i < n → dg B t i = f i
  | 0, _ => ⟨0, by simp, fun i hi => by omega⟩
  | n + 1, h => by
    obtain ⟨t, ht, hd⟩ := dg_all hB f n fun i hi => h i (by omega)
    have hf := h n (by omega)
    have hp : 0 < B ^ n := Nat.pow_pos hB
    refine ⟨t + B ^ n * f n, ?_, fun i hi => ?_⟩
    · rw [Nat.pow_succ]
      have : B ^ n * f n + B ^ n ≤ B ^ n * B := by
        have := Nat.mul_le_mul_left (B ^ n) (show f n + 1 ≤ B from hf)
        rwa [Nat.mul_add, Nat.mul_one] at this
      omega
    · unfold dg
      by_cases e : i = n
      · subst e
        rw [Nat.add_mul_div_left _ _ hp, Nat.div_eq_of_lt ht, Nat.zero_add, Nat.mod_eq_of_lt hf]
      · have hi' : i < n := by omega
        have hpi : 0 < B ^ i := Nat.pow_pos hB
        have e2 : B ^ n = B ^ i * (B * B ^ (n - i - 1)) := by
          rw [← Nat.pow_succ', ← Nat.pow_add]
          congr 1
          omega
        have := hd i hi'
        unfold dg at this
        rw [e2, Nat.mul_assoc, Nat.add_mul_div_left _ _ hpi, Nat.mul_assoc, Nat.add_mul_mod_self_left, this]
/-- Each program is handed out. -/
theorem pr_all {V : Wk} {p : List Int} (h : IsP V p) : ∃ t, t < nP V ∧ pr V t = p := by
  have hB : 0 < bs V := by unfold bs; omega
  obtain ⟨t, ht, hd⟩ := dg_all hB (fun i => (p.getD i 0 + 1).toNat) (Sl V) fun i hi => by
    obtain ⟨x, hx⟩ := get_ex (show i < p.length by rw [h.1]; exact hi)
    have := h.2 x (mem_of hx)
    rw [getD_of hx]
    unfold bs
    omega
  refine ⟨t, ht, List.ext_getElem? fun i => ?_⟩
  by_cases hi : i < Sl V
  · rw [pr_at hi, hd i hi]
    obtain ⟨x, hx⟩ := get_ex (show i < p.length by rw [h.1]; exact hi)
    have := h.2 x (mem_of hx)
    rw [getD_of hx, hx]
    congr 1
    omega
  · rw [List.getElem?_eq_none (by rw [pr_len]; omega), List.getElem?_eq_none (by rw [h.1]; omega)]
/-- The greatest takings of a program that keeps a set of deals; none: there is none. -/
def IsMx (V : Wk) (s : Nat) : Option Int → Prop
  | none => ∀ p, IsP V p → ¬ Kp V s p
  | some m => (∃ p, IsP V p ∧ Kp V s p ∧ takes V p = m) ∧ ∀ p, IsP V p → Kp V s p → takes V p ≤ m
theorem IsMx.one {V : Wk} {s : Nat} {r q : Option Int} (h : IsMx V s r) (k : IsMx V s q) : r = q := by
  cases r with
  | none => cases q with
    | none => rfl
    | some m => obtain ⟨p, h1, h2, _⟩ := k.1; exact absurd h2 (h p h1)
  | some m => cases q with
    | none => obtain ⟨p, h1, h2, _⟩ := h.1; exact absurd h2 (k p h1)
    | some m' =>
      obtain ⟨p, h1, h2, h3⟩ := h.1
      obtain ⟨p', h1', h2', h3'⟩ := k.1
      have := h.2 p' h1' h2'
      have := k.2 p h1 h2
      exact congrArg some (by omega)
end Go.Proofs.Ytdiambcjghlffaa.T
namespace Go.Proofs.Ytdiambcjghlffaa.T
open Go.RowKit Go.Proofs.YtdiambcjghlffaaW.PrintWords Go.Proofs.YtdiambcjghlffaaW.PrintMore
open Go.Proofs.Ytdiambcjghlffaa.P
set_option linter.unusedVariables false
set_option linter.unusedSimpArgs false
/-- A best program: the header of its row, and what it takes. -/
structure Bh where
  A : Option Addr
  n : Nat
  c : Nat
  t : Int
def bhV (b : Bh) : Value := .agg #[.slice b.A b.n b.c, .int .i64 b.t]
def setV (s : Nat) : Value := .int .u64 (s : Int)
/-- The table of some programs; q s is the program of the entry of s. -/
def TbOk (V : Wk) (xs : List (List Int)) (f : Nat → Option Bh) (q : Nat → List Int) : Prop :=
  (∀ s, f s = none → ∀ p, p ∈ xs → mask V p ≠ s) ∧ ∀ s b, f s = some b → q s ∈ xs ∧ mask V (q s) = s ∧ b.t = takes V (q s) ∧ b.n = (q s).length ∧ ∀ p, p ∈ xs → mask V p = s → takes V p ≤ b.t
theorem TbOk.start (V : Wk) (q : Nat → List Int) : TbOk V [] (fun _ => none) q := ⟨(fun _ _ _ h => nomatch h), (fun _ _ h => nomatch h)⟩
theorem TbOk.skip {V : Wk} {xs : List (List Int)} {f : Nat → Option Bh} {q : Nat → List Int} {p : List Int} {b : Bh} (h : TbOk V xs f q) (hb : f (mask V p) = some b) (ht : takes V p ≤ b.t) : TbOk V (xs ++ [p]) f q := by
  refine ⟨fun s hs p' hp' e => ?_, fun s b' hs => ?_⟩
  · rcases List.mem_append.mp hp' with h1 | h1
    · exact h.1 s hs p' h1 e
    · rw [List.mem_singleton.mp h1] at e
      rw [e, hs] at hb
      cases hb
  · obtain ⟨h1, h2, h3, h4, h5⟩ := h.2 s b' hs
    refine ⟨List.mem_append_left _ h1, h2, h3, h4, fun p' hp' e => ?_⟩
    rcases List.mem_append.mp hp' with h6 | h6
    · exact h5 p' h6 e
    · rw [List.mem_singleton.mp h6] at e ⊢
      rw [e, hs] at hb
      injection hb with hb
      rw [hb]
      exact ht
theorem TbOk.put {V : Wk} {xs : List (List Int)} {f : Nat → Option Bh} {q : Nat → List Int} {p : List Int} {b : Bh} (h : TbOk V xs f q) (hb : ∀ b', f (mask V p) = some b' → b'.t ≤ takes V p) (ht : b.t = takes V p) (hn : b.n = p.length) :
    TbOk V (xs ++ [p]) (E.upd f (mask V p) b) (fun s => if s = mask V p then p else q s) := by
  refine ⟨fun s hs p' hp' e => ?_, fun s b' hs => ?_⟩
  · unfold E.upd at hs
    split at hs
    · cases hs
    · next hne =>
      rcases List.mem_append.mp hp' with h1 | h1
      · exact h.1 s hs p' h1 e
      · rw [List.mem_singleton.mp h1] at e
        exact hne e.symm
  · unfold E.upd at hs
    split at hs
    · next he =>
      injection hs with hs
      subst hs
      have hq : (fun s => if s = mask V p then p else q s) s = p := if_pos he
      refine ⟨by rw [hq]; exact List.mem_append_right _ (List.mem_singleton.mpr rfl), by rw [hq]; exact he.symm, by rw [hq]; exact ht, by rw [hq]; exact hn, fun p' hp' e => ?_⟩
      rcases List.mem_append.mp hp' with h1 | h1
      · cases hf : f (mask V p) with
        | none => exact absurd (e.trans he) (h.1 _ hf p' h1)
        | some b' =>
          have := (h.2 _ b' hf).2.2.2.2 p' h1 (e.trans he)
          have := hb b' hf
          omega
      · rw [List.mem_singleton.mp h1]
        omega
    · next hne =>
      obtain ⟨h1, h2, h3, h4, h5⟩ := h.2 s b' hs
      have hq : (fun s => if s = mask V p then p else q s) s = q s := if_neg hne
      refine ⟨by rw [hq]; exact List.mem_append_left _ h1, by rw [hq]; exact h2, by rw [hq]; exact h3, by rw [hq]; exact h4, fun p' hp' e => ?_⟩
      rcases List.mem_append.mp hp' with h6 | h6
      · exact h5 p' h6 e
      · rw [List.mem_singleton.mp h6] at e
        exact absurd e.symm hne
/-- The table of all programs answers what is greatest. -/
theorem tb_none {V : Wk} {f : Nat → Option Bh} {q : Nat → List Int} {s : Nat} (h : TbOk V ((List.range (nP V)).map (pr V)) f q) (hno : ∀ k b, f k = some b → ¬ k &&& s = s) : IsMx V s none := by
  intro p hp hk
  obtain ⟨t, ht, rfl⟩ := pr_all hp
  have hmem : pr V t ∈ (List.range (nP V)).map (pr V) := List.mem_map.mpr ⟨t, List.mem_range.mpr ht, rfl⟩
  cases hf : f (mask V (pr V t)) with
  | none => exact h.1 _ hf _ hmem rfl
  | some b => exact hno _ b hf (kp_iff.mpr hk)
theorem tb_some {V : Wk} {f : Nat → Option Bh} {q : Nat → List Int} {s k : Nat} {b : Bh} (h : TbOk V ((List.range (nP V)).map (pr V)) f q) (hf : f k = some b) (hk : k &&& s = s) (hmx : ∀ k' b', f k' = some b' → k' &&& s = s → b'.t ≤ b.t) : IsMx V s (some b.t) ∧ IsP V (q k) ∧ Kp V s (q k) ∧ takes V (q k) = b.t := by
  obtain ⟨h1, h2, h3, h4, h5⟩ := h.2 k b hf
  obtain ⟨t, ht, he⟩ := List.mem_map.mp h1
  have hP : IsP V (q k) := by rw [← he]; exact pr_ok V t
  have hK : Kp V s (q k) := kp_iff.mp (by rw [h2]; exact hk)
  refine ⟨⟨⟨q k, hP, hK, h3.symm⟩, fun p hp hkp => ?_⟩, hP, hK, h3.symm⟩
  obtain ⟨u, hu, rfl⟩ := pr_all hp
  have hmem : pr V u ∈ (List.range (nP V)).map (pr V) := List.mem_map.mpr ⟨u, List.mem_range.mpr hu, rfl⟩
  cases hg : f (mask V (pr V u)) with
  | none => exact absurd rfl (h.1 _ hg _ hmem)
  | some b' =>
    have h6 := (h.2 _ b' hg).2.2.2.2 _ hmem rfl
    have h7 := hmx _ b' hg (kp_iff.mpr hkp)
    omega
end Go.Proofs.Ytdiambcjghlffaa.T
namespace Go.Proofs.Ytdiambcjghlffaa.E
open Go.RowKit Go.Proofs.YtdiambcjghlffaaW.PrintWords Go.Proofs.YtdiambcjghlffaaW.PrintMore
open Go.Proofs.Ytdiambcjghlffaa.T
theorem KeyT.nat {P : Program} {k : TypeId} {q : IntKind} (hu : P.underlying k = some (.int q)) : KeyT P k (fun n : Nat => Value.int q (n : Int)) :=
  ⟨fun h => by injection h with _ h; omega, fun em x W => (KeyT.int hu).check em x W, fun x es W hes => (KeyT.int hu).find x es W (fun e he => by obtain ⟨y, hy⟩ := hes e he; exact ⟨y, hy⟩), fun x W => (KeyT.int hu).stays x W⟩
end Go.Proofs.Ytdiambcjghlffaa.E
namespace Go.Proofs.Ytdiambcjghlffaa.T
open Go.RowKit Go.Proofs.YtdiambcjghlffaaW.PrintWords Go.Proofs.YtdiambcjghlffaaW.PrintMore
open Go.Proofs.Ytdiambcjghlffaa.P
set_option linter.unusedVariables false
theorem kST : E.KeyT Try.prog 66 setV := E.KeyT.nat Try.underlying66
abbrev MT (w : World) (g : Nat) (f : Nat → Option Bh) : Prop := E.Mf setV bhV w g f
theorem zero62 (W : World) : (zeroValue 62).run Try.prog W = .ok (bhV ⟨none, 0, 0, 0⟩) W := by
  have := info62z
  unfold zeroValue
  cases h : Try.prog.info? 62 with
  | none => rw [h] at this; cases this
  | some i =>
    rw [h] at this
    have hz : i.zero = some (.agg #[.slice none 0 0, .int .i64 0]) := by simpa using this
    simp [typeInfo, h, hz, Sem.run_bind, Result.andThen, bhV]
end Go.Proofs.Ytdiambcjghlffaa.T
namespace Go.Proofs.Ytdiambcjghlffaa.T
open Go.RowKit Go.Proofs.YtdiambcjghlffaaW.PrintWords Go.Proofs.YtdiambcjghlffaaW.PrintMore
open Go.Proofs.Ytdiambcjghlffaa.P
set_option linter.unusedVariables false
set_option linter.unusedSimpArgs false

/-- The example. -/
abbrev eV : Wk := ⟨1, [100, 50], 2, [⟨10, [80, 120]⟩, ⟨8, [40, 90]⟩], [⟨1, 1, 0, 0, 0, 1, 0, 2⟩, ⟨3, 0, 0, 0, 0, 1, 100, 0⟩]⟩
set_option maxRecDepth 100000 in
theorem lit22_2 (a b : Int) (W : World) : (Instr.buildSlice 22 2 #[(0, .int .i64 a), (1, .int .i64 b)]).run Try.prog W = .ok (.slice (some ⟨W.heap.size, 0, none⟩) 2 2) (W.alloc (.cells (([a, b] : List Int).map (Value.int .i64)).toArray 3 (0, 0))) := by
  have hu22 := Try.underlying22
  go_simp
def two49 (A : Option Addr) (x : S49) (k : Nat) : List Value := [.int .i64 x.f0, .slice A x.f1.length k]
set_option maxRecDepth 100000 in
theorem lit23_2 (A B : Option Addr) (a b : Int) (n c m d : Nat) (W : World) : (Instr.buildSlice 23 2 #[(0, .agg #[.int .i64 a, .slice A n c]), (1, .agg #[.int .i64 b, .slice B m d])]).run Try.prog W = .ok (.slice (some ⟨W.heap.size, 0, none⟩) 2 2) (W.alloc (.cells #[.int .i64 a, .slice A n c, .int .i64 b, .slice B m d] 49 (0, 0))) := by
  have hu23 := Try.underlying23
  go_simp
set_option maxRecDepth 100000 in
theorem lit24_2 (a b c d e f g h a' b' c' d' e' f' g' h' : Int) (W : World) : (Instr.buildSlice 24 2 #[(0, .agg #[.int .i64 a, .int .i64 b, .int .i64 c, .int .i64 d, .int .i64 e, .int .i64 f, .int .i64 g, .int .i64 h]), (1, .agg #[.int .i64 a', .int .i64 b', .int .i64 c', .int .i64 d', .int .i64 e', .int .i64 f', .int .i64 g', .int .i64 h'])]).run Try.prog W = .ok (.slice (some ⟨W.heap.size, 0, none⟩) 2 2) (W.alloc (.cells #[.int .i64 a, .int .i64 b, .int .i64 c, .int .i64 d, .int .i64 e, .int .i64 f, .int .i64 g, .int .i64 h, .int .i64 a', .int .i64 b', .int .i64 c', .int .i64 d', .int .i64 e', .int .i64 f', .int .i64 g', .int .i64 h'] 45 (0, 0))) := by
  have hu24 := Try.underlying24
  go_simp
set_option maxRecDepth 100000 in
theorem build49 (a : Int) (A : Option Addr) (n c : Nat) (W : World) : (Instr.build 49 #[(0, .int .i64 a), (1, .slice A n c)]).run Try.prog W = .ok (.agg #[.int .i64 a, .slice A n c]) W := by
  have hu3 := Try.underlying3
  have hu22 := Try.underlying22
  have hu49 := Try.underlying49
  go_simp
set_option maxRecDepth 100000 in
theorem build45a (a b c d : Int) (W : World) : (Instr.build 45 #[(0, .int .i64 a), (1, .int .i64 b), (5, .int .i64 c), (7, .int .i64 d)]).run Try.prog W = .ok (.agg #[.int .i64 a, .int .i64 b, .int .i64 0, .int .i64 0, .int .i64 0, .int .i64 c, .int .i64 0, .int .i64 d]) W := by
  have hu3 := Try.underlying3
  have hu45 := Try.underlying45
  go_simp
set_option maxRecDepth 100000 in
theorem build45b (a b c : Int) (W : World) : (Instr.build 45 #[(0, .int .i64 a), (5, .int .i64 b), (6, .int .i64 c)]).run Try.prog W = .ok (.agg #[.int .i64 a, .int .i64 0, .int .i64 0, .int .i64 0, .int .i64 0, .int .i64 b, .int .i64 c, .int .i64 0]) W := by
  have hu3 := Try.underlying3
  have hu45 := Try.underlying45
  go_simp
set_option maxRecDepth 100000 in
theorem build26 (a b : Int) (A B C : Option Addr) (n c m d k e : Nat) (W : World) : (Instr.build 26 #[(0, .int .i64 a), (1, .slice A n c), (2, .int .i64 b), (3, .slice B m d), (4, .slice C k e)]).run Try.prog W = .ok (.agg #[.int .i64 a, .slice A n c, .int .i64 b, .slice B m d, .slice C k e]) W := by
  have hu3 := Try.underlying3
  have hu22 := Try.underlying22
  have hu23 := Try.underlying23
  have hu24 := Try.underlying24
  have hu26 := Try.underlying26
  go_simp
theorem C_films {w : World} {g : Nat} {A B : Option Addr} {x y : S49} {k k' : Nat} (hx : Kd.C kI w A x.f1.length x.f1) (hy : Kd.C kI w B y.f1.length y.f1) (h1 : x.f1.length ≤ k) (h2 : y.f1.length ≤ k') (hb : w.heap[g]? = some (.cells (two49 A x k ++ two49 B y k').toArray 49 (0, 0))) : Kd.C k49 w (some ⟨g, 0, none⟩) 2 [x, y] := by
  refine ⟨rfl, by omega, fun _ => ⟨_, rfl, ?_⟩⟩
  intro j p hj
  rcases j with _ | _ | j
  · obtain rfl : x = p := by simpa using hj
    refine ⟨two49 A x k, rfl, k49_mk w x h1 hx, fun i u hu => ?_⟩
    have hi : i < 2 := (List.getElem?_eq_some_iff.1 hu).1
    rw [Addr.add_mid, Nat.zero_add, blk_cell hb, List.getElem?_toArray, List.getElem?_append_left (by show _ < 2; omega), Nat.zero_mul, Nat.zero_add]
    exact hu
  · obtain rfl : y = p := by simpa using hj
    refine ⟨two49 B y k', rfl, k49_mk w y h2 hy, fun i u hu => ?_⟩
    have hi : i < 2 := (List.getElem?_eq_some_iff.1 hu).1
    rw [Addr.add_mid, Nat.zero_add, blk_cell hb, List.getElem?_toArray, List.getElem?_append_right (by show 2 ≤ (0 + 1) * 2 + i; omega)]
    show (two49 B y k')[(0 + 1) * 2 + i - 2]? = some u
    rw [show (0 + 1) * 2 + i - 2 = i by omega]
    exact hu
  · simp at hj
theorem C_deals {w : World} {g : Nat} {x y : S45} (hb : w.heap[g]? = some (.cells (dC x ++ dC y).toArray 45 (0, 0))) : Kd.C k45 w (some ⟨g, 0, none⟩) 2 [x, y] := by
  refine ⟨rfl, by omega, fun _ => ⟨_, rfl, ?_⟩⟩
  intro j p hj
  rcases j with _ | _ | j
  · obtain rfl : x = p := by simpa using hj
    refine ⟨dC x, rfl, k45_mk w x, fun i u hu => ?_⟩
    have hi : i < 8 := (List.getElem?_eq_some_iff.1 hu).1
    rw [Addr.add_mid, Nat.zero_add, blk_cell hb, List.getElem?_toArray, List.getElem?_append_left (by show _ < 8; omega), Nat.zero_mul, Nat.zero_add]
    exact hu
  · obtain rfl : y = p := by simpa using hj
    refine ⟨dC y, rfl, k45_mk w y, fun i u hu => ?_⟩
    have hi : i < 8 := (List.getElem?_eq_some_iff.1 hu).1
    rw [Addr.add_mid, Nat.zero_add, blk_cell hb, List.getElem?_toArray, List.getElem?_append_right (by show 8 ≤ (0 + 1) * 8 + i; omega)]
    show (dC y)[(0 + 1) * 8 + i - 8]? = some u
    rw [show (0 + 1) * 8 + i - 8 = i by omega]
    exact hu
  · simp at hj
set_option maxRecDepth 100000 in
set_option maxHeartbeats 8000000 in

theorem example_calls (w : World) :
    Calls Try.prog 36 #[] w fun e w' => ∃ m, e = .returned (wv eV m) ∧ WM w' eV m ∧ Below w.heap.size w w' := by
  have hu26 := Try.underlying26
  refine E.enter (N := 11) Try.func36 rfl Try.ntmps36 (args := []) (by simp) ?_
  have L := Below.refl w.heap.size w
  refine E.CG.seq ?_
  refine E.CG.list ?_
  refine E.GL.st rfl rfl rfl (E.ST.alloc rfl info26z fun g0 w0 e0 b0 l0 => ?_)
  have h0_L : w.heap.size ≤ g0 := by rw [e0]; exact L.size
  replace L := below_step L l0
  refine E.GL.done ?_
  refine E.QG.code ?_
  refine E.CG.seq ?_
  refine E.CG.list ?_
  refine E.GL.st rfl rfl rfl (E.ST.litB (cs := (([100, 50] : List Int).map (Value.int .i64)).toArray) rfl (E.epc rfl (E.epc rfl E.epn)) (lit22_2 _ _) fun g1 w1 e1 b1 l1 => ?_)
  have h1_L : w.heap.size ≤ g1 := by rw [e1]; exact L.size
  have n1_b0 : g0 ≠ g1 := by have := blk_lt b0; omega
  replace b0 := blk_below b0 l1
  replace L := below_step L l1
  refine E.GL.st rfl rfl rfl (E.ST.litB (cs := (([80, 120] : List Int).map (Value.int .i64)).toArray) rfl (E.epc rfl (E.epc rfl E.epn)) (lit22_2 _ _) fun g2 w2 e2 b2 l2 => ?_)
  have h2_L : w.heap.size ≤ g2 := by rw [e2]; exact L.size
  have n2_b0 : g0 ≠ g2 := by have := blk_lt b0; omega
  have n2_b1 : g1 ≠ g2 := by have := blk_lt b1; omega
  replace b0 := blk_below b0 l2
  replace b1 := blk_below b1 l2
  replace L := below_step L l2
  refine E.GL.run rfl rfl rfl (E.Runs.build rfl (E.epc rfl (E.epc rfl E.epn)) (build49 _ _ _ _)) ?_
  refine E.GL.st rfl rfl rfl (E.ST.litB (cs := (([40, 90] : List Int).map (Value.int .i64)).toArray) rfl (E.epc rfl (E.epc rfl E.epn)) (lit22_2 _ _) fun g4 w4 e4 b4 l4 => ?_)
  have h4_L : w.heap.size ≤ g4 := by rw [e4]; exact L.size
  have n4_b0 : g0 ≠ g4 := by have := blk_lt b0; omega
  have n4_b1 : g1 ≠ g4 := by have := blk_lt b1; omega
  have n4_b2 : g2 ≠ g4 := by have := blk_lt b2; omega
  replace b0 := blk_below b0 l4
  replace b1 := blk_below b1 l4
  replace b2 := blk_below b2 l4
  replace L := below_step L l4
  refine E.GL.run rfl rfl rfl (E.Runs.build rfl (E.epc rfl (E.epc rfl E.epn)) (build49 _ _ _ _)) ?_
  refine E.GL.st rfl rfl rfl (E.ST.litB (cs := (two49 (some ⟨g2, 0, none⟩) (⟨10, [80, 120]⟩ : S49) 2 ++ two49 (some ⟨g4, 0, none⟩) (⟨8, [40, 90]⟩ : S49) 2).toArray) rfl (E.epc rfl (E.epc rfl E.epn)) (lit23_2 (some ⟨g2, 0, none⟩) (some ⟨g4, 0, none⟩) 10 8 2 2 2 2) fun g6 w6 e6 b6 l6 => ?_)
  have h6_L : w.heap.size ≤ g6 := by rw [e6]; exact L.size
  have n6_b0 : g0 ≠ g6 := by have := blk_lt b0; omega
  have n6_b1 : g1 ≠ g6 := by have := blk_lt b1; omega
  have n6_b2 : g2 ≠ g6 := by have := blk_lt b2; omega
  have n6_b4 : g4 ≠ g6 := by have := blk_lt b4; omega
  replace b0 := blk_below b0 l6
  replace b1 := blk_below b1 l6
  replace b2 := blk_below b2 l6
  replace b4 := blk_below b4 l6
  replace L := below_step L l6
  refine E.GL.run rfl rfl rfl (E.Runs.build rfl (E.epc rfl (E.epc rfl (E.epc rfl (E.epc rfl E.epn)))) (build45a _ _ _ _)) ?_
  refine E.GL.run rfl rfl rfl (E.Runs.build rfl (E.epc rfl (E.epc rfl (E.epc rfl E.epn))) (build45b _ _ _)) ?_
  refine E.GL.st rfl rfl rfl (E.ST.litB (cs := (dC (⟨1, 1, 0, 0, 0, 1, 0, 2⟩ : S45) ++ dC (⟨3, 0, 0, 0, 0, 1, 100, 0⟩ : S45)).toArray) rfl (E.epc rfl (E.epc rfl E.epn)) (lit24_2 1 1 0 0 0 1 0 2 3 0 0 0 0 1 100 0) fun g9 w9 e9 b9 l9 => ?_)
  have h9_L : w.heap.size ≤ g9 := by rw [e9]; exact L.size
  have n9_b0 : g0 ≠ g9 := by have := blk_lt b0; omega
  have n9_b1 : g1 ≠ g9 := by have := blk_lt b1; omega
  have n9_b2 : g2 ≠ g9 := by have := blk_lt b2; omega
  have n9_b4 : g4 ≠ g9 := by have := blk_lt b4; omega
  have n9_b6 : g6 ≠ g9 := by have := blk_lt b6; omega
  replace b0 := blk_below b0 l9
  replace b1 := blk_below b1 l9
  replace b2 := blk_below b2 l9
  replace b4 := blk_below b4 l9
  replace b6 := blk_below b6 l9
  replace L := below_step L l9
  refine E.GL.run rfl rfl rfl (E.Runs.build rfl (E.epc rfl (E.epc rfl (E.epc rfl (E.epc rfl (E.epc rfl E.epn))))) (build26 _ _ _ _ _ _ _ _ _ _ _)) ?_
  refine E.GL.store_whole rfl rfl rfl rfl rfl b0 rfl info26s (week_one _ _ _ _ _ _ _ _ _ _ _) fun wS1_10 c0 lS1_10 => ?_
  replace b1 := blk_grown b1 lS1_10 (E.nes (by first | assumption | exact Ne.symm (by assumption)))
  replace b2 := blk_grown b2 lS1_10 (E.nes (by first | assumption | exact Ne.symm (by assumption)))
  replace b4 := blk_grown b4 lS1_10 (E.nes (by first | assumption | exact Ne.symm (by assumption)))
  replace b6 := blk_grown b6 lS1_10 (E.nes (by first | assumption | exact Ne.symm (by assumption)))
  replace b9 := blk_grown b9 lS1_10 (E.nes (by first | assumption | exact Ne.symm (by assumption)))
  replace L := E.below_own L h0_L lS1_10
  replace b0 := c0
  clear c0
  refine E.GL.done ?_
  refine E.QG.code ?_
  refine E.CG.ret ?_
  exact E.QG.result_c rfl rfl b0 hu26 rfl info26s ⟨⟨some ⟨g1, 0, none⟩, 2, some ⟨g6, 0, none⟩, 2, some ⟨g9, 0, none⟩, 2⟩, rfl, ⟨C_nums [100, 50] b1 (by decide), C_films (x := (⟨10, [80, 120]⟩ : S49)) (y := (⟨8, [40, 90]⟩ : S49)) (C_nums [80, 120] b2 (by decide)) (C_nums [40, 90] b4 (by decide)) (by decide) (by decide) b6, C_deals (x := (⟨1, 1, 0, 0, 0, 1, 0, 2⟩ : S45)) (y := (⟨3, 0, 0, 0, 0, 1, 100, 0⟩ : S45)) b9⟩, L⟩

end Go.Proofs.Ytdiambcjghlffaa.T
namespace Go.Proofs.Ytdiambcjghlffaa.T
open Go.RowKit Go.Proofs.YtdiambcjghlffaaW.PrintWords Go.Proofs.YtdiambcjghlffaaW.PrintMore
open Go.Proofs.Ytdiambcjghlffaa.P
set_option linter.unusedVariables false
set_option linter.unusedSimpArgs false

set_option maxRecDepth 100000 in
set_option maxHeartbeats 8000000 in

theorem keptL_calls (V : Wk) (m : Wa) (p bd : List Int) (n : Int) (A B : Option Addr) (c d : Nat) (w : World) (hV : WM w V m) (hs : Sz V) (hp : Kd.C kI w A p.length p) (hpn : p.length ≤ 1000000) (hB : Kd.C kI w B bd.length bd) (ok : WOk V) (hP : IsP V p) (hbd : brk V p V.ds.length = bd) (ht : takes V p = n) :
    Calls Try.prog 34 #[wv V m, .slice A p.length c, .slice B bd.length d, .int .i64 n] w fun e w' => e = .returned (.bool true) ∧ Below w.heap.size w w' := by
  have hu3 := Try.underlying3
  have hu22 := Try.underlying22
  have hu26 := Try.underlying26
  have hu30 := Try.underlying30
  have h0 : chkP V p = 0 := chkP_yes ok hP
  have hb0 : brA V p = bd := by unfold brA; rw [if_pos h0]; exact hbd
  have ht0 : tkA V p = n := by unfold tkA; rw [if_pos h0]; exact ht
  have hds := ok.s.ds
  have hbl := brk_len V p V.ds.length
  refine E.enter (N := 41) Try.func34 rfl Try.ntmps34 (args := [wv V m, .slice A p.length c, .slice B bd.length d, .int .i64 n]) (by simp) ?_
  have L := Below.refl w.heap.size w
  refine E.CG.seq ?_
  refine E.CG.list ?_
  refine E.GL.st rfl rfl rfl (E.ST.box rfl rfl fun g4 w4 e4 b4 l4 => ?_)
  have h4_L : w.heap.size ≤ g4 := by rw [e4]; exact L.size
  replace L := below_step L l4
  refine E.GL.run rfl rfl rfl (E.Runs.assign rfl rfl) ?_
  refine E.GL.done ?_
  refine E.QG.code ?_
  refine E.CG.seq ?_
  refine E.CG.list ?_
  refine E.GL.run rfl rfl rfl (E.Runs.loads (cs := [.int .i64 V.d, .slice m.A V.rs.length m.a, .int .i64 V.h, .slice m.B V.fs.length m.b, .slice m.C V.ds.length m.c]) rfl rfl hu26 rfl info26s (blk_cells b4)) ?_
  refine E.GL.run rfl rfl rfl (E.Runs.move rfl rfl) ?_
  refine E.GL.st rfl rfl rfl (E.ST.call rfl ent25 (E.evc rfl (E.evc rfl E.evn)) ((broken_o V m p A c _ (hV.below L) hs (Kd.C_below hp L) hpn).mono ?_))
  rintro e w16 ⟨v16, rfl, R16, l16⟩
  refine ⟨_, rfl, ?_⟩
  replace b4 := blk_below b4 l16
  replace L := below_step L l16
  have la := Below.refl w16.heap.size w16
  rw [h0]
  rw [hb0] at R16
  obtain ⟨A16, c16, hv16⟩ := Kd.R_slice R16
  subst hv16
  obtain ⟨_, _, C16⟩ := Kd.R_reads' R16
  refine E.GL.run rfl rfl rfl (E.Runs.move rfl rfl) ?_
  refine E.GL.run rfl rfl rfl (E.Runs.extract rfl rfl rfl) ?_
  refine E.GL.run rfl rfl rfl (E.Runs.extract rfl rfl rfl) ?_
  refine E.GL.run rfl rfl rfl (E.Runs.assign rfl rfl) ?_
  refine E.GL.run rfl rfl rfl (E.Runs.assign rfl rfl) ?_
  refine E.GL.done ?_
  refine E.QG.code ?_
  refine E.CG.seq ?_
  refine E.CG.list ?_
  refine E.GL.run rfl rfl rfl (E.Runs.loads (cs := [.int .i64 V.d, .slice m.A V.rs.length m.a, .int .i64 V.h, .slice m.B V.fs.length m.b, .slice m.C V.ds.length m.c]) rfl rfl hu26 rfl info26s (blk_cells b4)) ?_
  refine E.GL.run rfl rfl rfl (E.Runs.move rfl rfl) ?_
  refine E.GL.st rfl rfl rfl (E.ST.call rfl ent32 (E.evc rfl (E.evc rfl E.evn)) ((takingsP_o V m p A c _ (hV.below L) hs (Kd.C_below hp L) hpn).mono ?_))
  rintro e w22 ⟨rfl, l22⟩
  refine ⟨_, rfl, ?_⟩
  replace b4 := blk_below b4 l22
  replace L := below_step L l22
  replace la := below_step la l22
  rw [h0, ht0]
  refine E.GL.run rfl rfl rfl (E.Runs.move rfl rfl) ?_
  refine E.GL.run rfl rfl rfl (E.Runs.extract rfl rfl rfl) ?_
  refine E.GL.run rfl rfl rfl (E.Runs.extract rfl rfl rfl) ?_
  refine E.GL.run rfl rfl rfl (E.Runs.assign rfl rfl) ?_
  refine E.GL.run rfl rfl rfl (E.Runs.assign rfl rfl) ?_
  refine E.GL.done ?_
  refine E.QG.code ?_
  refine E.CG.seq ?_
  refine E.CG.list ?_
  refine E.GL.run rfl rfl rfl (E.Runs.move rfl rfl) ?_
  refine E.GL.run rfl rfl rfl (E.Runs.eql rfl rfl rfl (decide_eq_true rfl)) ?_
  refine E.GL.run rfl rfl rfl (E.Runs.move rfl rfl) ?_
  refine E.GL.run rfl rfl rfl (E.Runs.move rfl rfl) ?_
  refine E.GL.run rfl rfl rfl (E.Runs.eql rfl rfl rfl (decide_eq_true rfl)) ?_
  refine E.GL.run rfl rfl rfl (E.Runs.pick_t rfl rfl rfl) ?_
  refine E.GL.run rfl rfl rfl (E.Runs.move rfl rfl) ?_
  refine E.GL.run rfl rfl rfl (E.Runs.move rfl rfl) ?_
  refine E.GL.run rfl rfl rfl (E.Runs.move rfl rfl) ?_
  refine E.GL.st rfl rfl rfl (E.ST.call rfl ent21 (E.evc rfl (E.evc rfl E.evn)) ((same_calls bd bd A16 B c16 d _ true (by simp) (Kd.C_below C16 la) (Kd.C_below hB L) (by rw [← hbd]; omega)).mono ?_))
  rintro e w34 ⟨rfl, l34⟩
  refine ⟨_, rfl, ?_⟩
  replace b4 := blk_below b4 l34
  replace L := below_step L l34
  replace la := below_step la l34
  refine E.GL.run rfl rfl rfl (E.Runs.pick_t rfl rfl rfl) ?_
  refine E.GL.run rfl rfl rfl (E.Runs.move rfl rfl) ?_
  refine E.GL.run rfl rfl rfl (E.Runs.move rfl rfl) ?_
  refine E.GL.run rfl rfl rfl (E.Runs.move rfl rfl) ?_
  refine E.GL.run rfl rfl rfl (E.Runs.eql rfl rfl rfl (decide_eq_true rfl)) ?_
  refine E.GL.run rfl rfl rfl (E.Runs.pick_t rfl rfl rfl) ?_
  refine E.GL.run rfl rfl rfl (E.Runs.assign rfl rfl) ?_
  refine E.GL.done ?_
  refine E.QG.code ?_
  refine E.CG.ret ?_
  exact E.QG.result rfl rfl ⟨rfl, L⟩

end Go.Proofs.Ytdiambcjghlffaa.T
namespace Go.Proofs.Ytdiambcjghlffaa.T
open Go.RowKit Go.Proofs.YtdiambcjghlffaaW.PrintWords Go.Proofs.YtdiambcjghlffaaW.PrintMore
open Go.Proofs.Ytdiambcjghlffaa.P
set_option linter.unusedVariables false
set_option linter.unusedSimpArgs false

theorem QD_result1 {F : Fence} {k : Nat} {P : Program} {N : Nat} {w : World} {env : E.Env} {fn : Func} {R : Ending → World → Prop} {D : Nat} {t : Tmp} {v : Value} (hk : w.heap[D]? = some (.deferred (some []))) (hf : fn.results = #[.tmp t]) (hv : E.look env t = some v) (h : R (.returned v) (w.putObj D (.deferred none))) :
    E.QD (bodyPostM F k P fn R) .ret N env [{ target := .collected D, args := #[] }] w := by
  intro a ha
  refine ⟨by simp, .inl ⟨_, _, rfl, run_takeDeferred hk, ?_⟩⟩
  have e1 : a.tmps.getD t undef = v := ha.eval (x := .tmp t) hv
  refine ⟨v, ?_, h⟩
  show (results fn a.tmps).run P _ = _
  rw [results_tmp hf, e1]
/-- The table while it is filled. -/
structure TbR (V : Wk) (w W : World) (gm : Nat) (pre : List It) (f : Nat → Option Bh) (q : Nat → List Int) : Prop where
  mt : MT W gm f
  ok : TbOk V (pre.map Prod.fst) f q
  rw : ∀ s b, f s = some b → Kd.R kI 3 W w.heap.size (fun k => ∀ x ∈ pre, k ≠ x.2) (.slice b.A b.n b.c) (q s)
section
variable {V : Wk} {w W W' : World} {gm : Nat} {pre : List It} {f : Nat → Option Bh} {q : Nat → List Int}
theorem TbR.step (h : TbR V w W gm pre f q) {row : Option Nat} (hg : W.grownBy W' row) (hr : ∀ r, row = some r → r ≠ gm ∧ ∀ cells, W.heap[r]? = some (.cells cells 3 (0, 0)) → ∃ x ∈ pre, x.2 = r) : TbR V w W' gm pre f q :=
  ⟨h.mt.grown hg (fun e => (hr gm e.symm).1 rfl), h.ok, fun s b hs => Kd.R_mono (Kd.R_grown (Kd.R_bound (h.rw s b hs)) hg (fun k hk e => by
    obtain ⟨h1, _, _, t, ht, cells, hc⟩ := hk
    have ht3 : t = 3 := by rcases List.mem_cons.mp ht with h2 | h2; exact h2; cases h2
    subst ht3
    obtain ⟨x, hx, he⟩ := (hr k e.symm).2 cells hc
    exact h1 x hx he.symm)) (fun _ hk => hk.1)⟩
theorem TbR.below (h : TbR V w W gm pre f q) (L : Below W.heap.size W W') : TbR V w W' gm pre f q := h.step (row := none) (E.gbB L) (fun r e => by cases e)
theorem TbR.lt (h : TbR V w W gm pre f q) : gm < W.heap.size := h.mt.lt
theorem TbR.ne (h : TbR V w W gm pre f q) {g t : Nat} {cs : Array Value} (hb : W.heap[g]? = some (.cells cs t (0, 0))) : g ≠ gm := fun e => by
  obtain ⟨es, cl, l, h1, _⟩ := h.mt
  rw [e, h1] at hb
  cases hb
theorem TbR.grown (h : TbR V w W gm pre f q) {g : Nat} (hg : W.grownBy W' (some g)) (hb : ∃ cs t, W.heap[g]? = some (.cells cs t (0, 0)) ∧ t ≠ 3) : TbR V w W' gm pre f q := by
  obtain ⟨cs, t, hb, ht⟩ := hb
  refine h.step hg (fun r e => ?_)
  injection e with e
  subst e
  refine ⟨h.ne hb, fun cells hc => ?_⟩
  rw [hb] at hc
  injection hc with hc
  injection hc with _ hc
  exact absurd hc ht
theorem TbR.wide (h : TbR V w W gm pre f q) {x : It} (hs : ∀ y ∈ pre, y.2 = x.2) {s : Nat} {b : Bh} (hf : f s = some b) : Kd.R kI 3 W w.heap.size (fun k => ∀ y ∈ pre ++ [x], k ≠ y.2) (.slice b.A b.n b.c) (q s) := by
  refine Kd.R_mono (h.rw s b hf) (fun k hk y hy => ?_)
  rcases List.mem_append.mp hy with h1 | h1
  · exact hk y h1
  · rw [List.mem_singleton.mp h1]
    cases pre with
    | nil => exact absurd (h.ok.2 s b hf).1 (by simp)
    | cons z l => rw [← hs z List.mem_cons_self]; exact hk z List.mem_cons_self
theorem TbR.skip (h : TbR V w W gm pre f q) {x : It} (hs : ∀ y ∈ pre, y.2 = x.2) {b : Bh} (hb : f (mask V x.1) = some b) (ht : takes V x.1 ≤ b.t) : TbR V w W gm (pre ++ [x]) f q :=
  ⟨h.mt, by rw [List.map_append]; exact h.ok.skip hb ht, fun s b' hf => h.wide hs hf⟩
theorem TbR.put (h : TbR V w W gm pre f q) {x : It} (hs : ∀ y ∈ pre, y.2 = x.2) {b : Bh} (hb : ∀ b', f (mask V x.1) = some b' → b'.t ≤ takes V x.1) (ht : b.t = takes V x.1) (hn : b.n = x.1.length)
    (hg : W.grownBy W' (some gm)) (hm : MT W' gm (E.upd f (mask V x.1) b)) (hR : Kd.R kI 3 W' w.heap.size (fun k => k ≠ x.2) (.slice b.A b.n b.c) x.1) :
    TbR V w W' gm (pre ++ [x]) (E.upd f (mask V x.1) b) (fun s => if s = mask V x.1 then x.1 else q s) := by
  refine ⟨hm, by rw [List.map_append]; exact h.ok.put hb ht hn, fun s b' hf => ?_⟩
  unfold E.upd at hf
  by_cases he : s = mask V x.1
  · rw [if_pos he] at hf
    injection hf with hf
    subst hf
    rw [show (if s = mask V x.1 then x.1 else q s) = x.1 from if_pos he]
    refine Kd.R_mono hR (fun k hk y hy => ?_)
    rcases List.mem_append.mp hy with h1 | h1
    · rw [hs y h1]; exact hk
    · rw [List.mem_singleton.mp h1]; exact hk
  · rw [if_neg he] at hf
    rw [show (if s = mask V x.1 then x.1 else q s) = q s from if_neg he]
    refine Kd.R_mono (Kd.R_grown (Kd.R_bound (h.wide hs hf)) hg (fun k hk e => ?_)) (fun _ hk => hk.1)
    obtain ⟨_, _, _, t, _, cells, hc⟩ := hk
    injection e with e
    obtain ⟨es, cl, l, h1, _⟩ := h.mt
    rw [e, h1] at hc
    cases hc
end
/-- The rows of the table's entries. -/
def TbRows (w : World) (f : Nat → Option Bh) (q : Nat → List Int) : Prop := ∀ s b, f s = some b → Kd.R kI 3 w 0 (fun _ => True) (.slice b.A b.n b.c) (q s)
theorem TbRows.below {w w' : World} {f : Nat → Option Bh} {q : Nat → List Int} (h : TbRows w f q) (l : Below w.heap.size w w') : TbRows w' f q := fun s b hs => Kd.R_below (h s b hs) l
theorem TbRows.grown {w w' : World} {f : Nat → Option Bh} {q : Nat → List Int} (h : TbRows w f q) {g t : Nat} {cs : Array Value} (hg : w.grownBy w' (some g)) (hb : w.heap[g]? = some (.cells cs t (0, 0))) (ht : 3 ≠ t) : TbRows w' f q := fun s b hs => Kd.R_grown1 (h s b hs) rfl hg (Kd.R_ne (h s b hs) hb ht)
theorem keeps_map {B : Nat} {W W' : World} {gm : Nat} (h : W.grownBy W' (some gm)) (hm : gm < B) : KeepsFrom B W W' :=
  ⟨h.size, fun k o hk ho _ => (h.block k (Array.getElem?_eq_some_iff.1 ho).1 (fun e => by injection e; omega)).trans ho⟩
theorem own_blk' {W W' : World} {g : Nat} {row : Option Nat} {cs : Array Value} {t : TypeId} (hg : W.grownBy W' row) (hr : ∀ r, row = some r → ∃ o : Obj, W.heap[r]? = some o ∧ o.isCells = false) (hb : W.heap[g]? = some (.cells cs t (0, 0))) : W'.heap[g]? = some (.cells cs t (0, 0)) := by
  refine (hg.block g (blk_lt hb) (fun e => ?_)).trans hb
  obtain ⟨o, ho, hoc⟩ := hr g e.symm
  rw [hb] at ho
  injection ho with ho
  subst ho
  simp [Obj.isCells] at hoc
theorem best_one (A : Option Addr) (n c : Nat) (t : Int) : (#[.slice A n c, .int .i64 t] : Array Value).all (·.oneCell') = true := by simp [Value.oneCell']
set_option maxRecDepth 100000 in
theorem build62 (A : Option Addr) (n c : Nat) (t : Int) (W : World) : (Instr.build 62 #[(0, .slice A n c), (1, .int .i64 t)]).run Try.prog W = .ok (.agg #[.slice A n c, .int .i64 t]) W := by
  have hu3 := Try.underlying3
  have hu22 := Try.underlying22
  have hu62 := Try.underlying62
  go_simp
set_option maxRecDepth 100000 in
set_option maxHeartbeats 8000000 in

theorem tabled_calls (V : Wk) (m : Wa) (w : World) (ok : WOk V) (hV : WM w V m) :
    Calls Try.prog 60 #[wv V m] w fun e w' => ∃ g f q, e = .returned (.map (some g)) ∧ MT w' g f ∧ TbOk V ((List.range (nP V)).map (pr V)) f q ∧ TbRows w' f q ∧ Below w.heap.size w w' := by
  have hsn := slots_nat ok.s
  have h8 := ok.s.ds
  have hu3 := Try.underlying3
  have hu22 := Try.underlying22
  have hu24 := Try.underlying24
  have hu26 := Try.underlying26
  have hu45 := Try.underlying45
  have hu60 := Try.underlying60
  have hu62 := Try.underlying62
  have hu66 := Try.underlying66
  have hu68 := Try.underlying68
  obtain ⟨z3, o3⟩ := info_some info3s (by decide)
  obtain ⟨z22, o22⟩ := info_some info22s (by decide)
  obtain ⟨z24, o24⟩ := info_some info24s (by decide)
  obtain ⟨z45, o45⟩ := info_some info45s (by decide)
  obtain ⟨z60, o60⟩ := info_some info60s (by decide)
  obtain ⟨z62, o62⟩ := info_some info62s (by decide)
  refine E.enterM (N := 56) 9 Try.func60 rfl Try.ntmps60 (args := [wv V m]) (by simp) ?_
  have L := Below.refl w.heap.size w
  refine E.CI.seq ?_
  refine E.CI.wide (E.CG.list ?_)
  refine E.GL.st rfl rfl rfl (E.ST.box rfl rfl fun g1 w1 e1 b1 l1 => ?_)
  have h1_L : w.heap.size ≤ g1 := by rw [e1]; exact L.size
  replace L := below_step L l1
  refine E.GL.run rfl rfl rfl (E.Runs.assign rfl rfl) ?_
  refine E.GL.done ?_
  refine E.QG.codeI ?_
  refine E.CI.seq ?_
  refine E.CI.wide (E.CG.list ?_)
  refine E.GL.st rfl rfl rfl (E.ST.makeMap setV bhV rfl fun g11 w11 e11 m11 l11 => ?_)
  have tb : TbR V w w11 g11 [] (fun _ => none) (fun _ => []) := ⟨m11, TbOk.start V _, fun s b hs => nomatch hs⟩
  have hgm : w.heap.size ≤ g11 := by rw [e11]; exact L.size
  replace b1 := blk_below b1 l11
  replace L := below_step L l11
  refine E.GL.st rfl rfl rfl (E.ST.allocZ rfl info60z rfl fun g3 w3 e3 b3 l3 => ?_)
  have h3_L : w.heap.size ≤ g3 := by rw [e3]; exact L.size
  have n3_b1 : g1 ≠ g3 := by have := blk_lt b1; omega
  replace b1 := blk_below b1 l3
  replace L := below_step L l3
  replace tb := tb.below l3
  refine E.GL.sn rfl rfl (E.ST.storeX (cs := [.map none]) rfl z60 o60 rfl rfl (.inr ⟨_, rfl⟩) b3 rfl rfl fun wS cS lS => ?_)
  replace b1 := blk_grown b1 lS (E.nes (by first | assumption | exact Ne.symm (by assumption)))
  replace tb := tb.grown lS ⟨_, _, b3, by decide⟩
  replace L := E.below_own L h3_L lS
  replace b3 := cS
  clear cS
  refine E.GL.done ?_
  refine E.QG.codeI ?_
  refine E.CI.seq ?_
  refine E.CI.seq ?_
  refine E.CI.wide (E.CG.list ?_)
  refine E.GL.run rfl rfl rfl (E.Runs.loads (cs := [.int .i64 V.d, .slice m.A V.rs.length m.a, .int .i64 V.h, .slice m.B V.fs.length m.b, .slice m.C V.ds.length m.c]) rfl rfl hu26 rfl info26s (blk_cells b1)) ?_
  have hL := L.size
  have hl1 := blk_lt b1
  have hl3 := blk_lt b3
  have hlm := tb.lt
  refine E.GL.st rfl rfl rfl (E.ST.call rfl ent72 (E.evc rfl E.evn) ((programs_calls V m _).mono ?_))
  rintro e w13 ⟨g13, rfl, b13, h13, l13⟩
  refine ⟨_, rfl, ?_⟩
  replace b1 := blk_below b1 l13
  replace b3 := blk_below b3 l13
  replace tb := tb.below l13
  replace L := below_step L l13
  refine E.GL.done ?_
  refine E.QG.codeI ?_
  refine E.CI.block ?_
  have hl13 := blk_lt b13
  have n13_1 : g13 ≠ g1 := by omega
  have n13_m : g13 ≠ g11 := by omega
  have hgw : w.heap.size ≤ g13 := by omega
  refine E.CI.rangeC (Kp := KpP w g13) (Fp := Fp V) (own := fun x => x.2) (encs := itV V) (by decide) rfl ent80 (programs_seq V m g13 _ w w13 ok.s L b13 hgw)
    (fun h k => ⟨h.1.trans k.1, k.2.1.trans h.2.1, k.2.2.trans h.2.2⟩)
    (fun W x l o' h1 h2 (h3 : w13.heap.size + 2 ≤ x.2) => ⟨⟨rfl, rfl, rfl, by simp, fun k hk => World.putObj_heap_other (by omega)⟩, World.putObj_heap_other (by omega), World.putObj_heap_other (by omega)⟩)
    (fun W x l o' h1 h2 (h3 : w13.heap.size + 2 ≤ x.2) hf => ⟨(World.putObj_heap_other (by omega)).trans hf.1, hf.2⟩)
    (Below.refl _ _) (fun _ => rfl)
    (fun pre W => ∃ f q, W.heap[g1]? = some (.cells #[.int .i64 V.d, .slice m.A V.rs.length m.a, .int .i64 V.h, .slice m.B V.fs.length m.b, .slice m.C V.ds.length m.c] 26 (0, 0)) ∧ W.heap[g3]? = some (.cells #[.map (some g11)] 60 (0, 0)) ∧ TbR V w W g11 pre f q ∧ Below w.heap.size w W)
    (fun pre X Y row hi hg hrow => by
      obtain ⟨f, q, q1, q3, qt, qL⟩ := hi
      refine ⟨f, q, own_blk' hg (fun r e => (hrow r e).2) q1, own_blk' hg (fun r e => (hrow r e).2) q3, qt.step hg (fun r e => ⟨by have := (hrow r e).1; omega, fun cells hc => ?_⟩), qL.grown hg qL.size (fun r e => by have := (hrow r e).1; omega)⟩
      obtain ⟨_, o, ho, hoc⟩ := hrow r e
      rw [hc] at ho
      injection ho with ho
      subst ho
      simp [Obj.isCells] at hoc)
    (fun pre X Y row hi hg hrow => by
      obtain ⟨f, q, q1, q3, qt, qL⟩ := hi
      have hlt := blk_lt q1
      refine ⟨f, q, (hg.block g1 (blk_lt q1) (fun e => by have := (hrow g1 e.symm).1; omega)).trans q1, (hg.block g3 (blk_lt q3) (fun e => by have := (hrow g3 e.symm).1; omega)).trans q3, qt.step hg (fun r e => ⟨by have := (hrow r e).1; omega, fun cells hc => (hrow r e).2.2⟩), qL.grown hg qL.size (fun r e => by have := (hrow r e).1; omega)⟩)
    ⟨fun _ => none, fun _ => [], b1, b3, tb, L⟩
    (fun x => [(14, .slice (some ⟨x.2, 0, none⟩) (Sl V) (Sl V)), (1, .pointer (some ⟨g1, 0, none⟩)), (3, .pointer (some ⟨g3, 0, none⟩))])
    (fun x a ha => by
      have ha' := ha.sub (E.subc (k := 1) (v := .pointer (some ⟨g1, 0, none⟩)) rfl (E.subc (k := 3) (v := .pointer (some ⟨g3, 0, none⟩)) rfl E.subn))
      obtain ⟨t, d⟩ := a
      obtain rfl : d = [] := ha.defers
      rw [show (#[14].zip (itV V x)).foldl (fun (t : Array Value) (p, v) => t.setIfInBounds p v) t = t.setIfInBounds 14 (.slice (some ⟨x.2, 0, none⟩) (Sl V) (Sl V)) from by simp [itV]]
      exact ha'.put (n := 14) (.slice (some ⟨x.2, 0, none⟩) (Sl V) (Sl V)) (by decide))
    (fun x => [(4, .slice (some ⟨x.2, 0, none⟩) (Sl V) (Sl V)), (1, .pointer (some ⟨g1, 0, none⟩)), (3, .pointer (some ⟨g3, 0, none⟩))])
    (fun l x W K hK => ?_) (fun l pre x W hi hx hlt hsame => ?_) (fun D xs W hD hS hi hk => ?_)
  · have hF := E.WF.wide.round l
    refine E.CI.list ?_
    refine E.GI.run hF rfl rfl rfl rfl (E.Runs.assign rfl rfl) ?_
    refine E.GI.done ?_
    intro a' ha'
    exact hK a' (ha'.sub (E.subc rfl (E.subc rfl (E.subc rfl E.subn))))
  · obtain ⟨f, q, b1, b3, tb, L⟩ := hi
    obtain ⟨p, gx⟩ := x
    have bx : W.heap[gx]? = some (.cells (p.map (Value.int .i64)).toArray 3 (0, 0)) := hx.1
    have hP : IsP V p := hx.2
    clear hx
    replace hlt : w13.heap.size + 2 ≤ gx := hlt
    replace hsame : ∀ y ∈ pre, y.2 = gx := hsame
    show E.CI _ _ _ _ _ _ [(4, .slice (some ⟨gx, 0, none⟩) (Sl V) (Sl V)), (1, .pointer (some ⟨g1, 0, none⟩)), (3, .pointer (some ⟨g3, 0, none⟩))] W
    have hpl := hP.1
    rw [← hpl]
    have hsl : p.length ≤ 8 := by omega
    have Kg := World.grownBy.refl W (some g11)
    have hmx1 : g1 ≠ gx := by omega
    have hmx3 : g3 ≠ gx := by omega
    have hmxm : g11 ≠ gx := by omega
    have hWx := blk_lt bx
    have hW13 : g13 < W.heap.size := by omega
    have hWs := L.size
    have hF := E.WF.wide.round l
    refine E.CI.block ?_
    refine E.CI.seq ?_
    refine E.CI.listL hF (fun _ _ h => h) rfl ?_
    refine E.GL.run rfl rfl rfl (E.Runs.assign rfl rfl) ?_
    refine E.GL.done ?_
    refine E.QG.codeI ?_
    refine E.CI.seq ?_
    refine E.CI.seq ?_
    refine E.CI.listL hF (fun _ _ h => h) rfl ?_
    refine E.GL.run rfl rfl rfl (E.Runs.fieldAddr rfl rfl hu26 rfl (by assumption) rfl) ?_
    refine E.GL.run rfl rfl rfl (E.Runs.load1 rfl rfl hu24 rfl (by first | assumption | exact E.blkc (by assumption) rfl | exact pw_cell_below L (by assumption) | exact E.keeps Kg (by assumption) (by first | exact E.nen | exact E.nes (by assumption) | exact E.nes (Ne.symm (by assumption))))) ?_
    refine E.GL.run rfl rfl rfl (E.Runs.len rfl rfl hu24) ?_
    refine E.GL.run rfl rfl rfl (E.Runs.move rfl rfl) ?_
    refine E.GL.done ?_
    refine E.QG.codeI ?_
    refine E.CI.block ?_
    have s6_b1 := b1
    have s6_b3 := b3
    have s6_bx := bx
    have s6_L := L
    have s6_Kg := Kg
    refine E.CI.loop (fun (i : Nat) => [(1, .pointer (some ⟨g1, 0, none⟩)), (3, .pointer (some ⟨g3, 0, none⟩)), (4, .slice (some ⟨gx, 0, none⟩) p.length p.length), (5, .int .u64 (mk V p i : Nat)), (16, .slice m.C V.ds.length m.c), (17, .int .i64 V.ds.length), (18, .int .i64 i)]) (fun i w' => i ≤ V.ds.length ∧ Below W.heap.size W w') (fun i => V.ds.length - i) 0 (E.subc rfl (E.subc rfl (E.subc rfl (E.subc rfl (E.subc rfl (E.subc rfl (E.subc rfl E.subn))))))) ⟨Nat.zero_le _, Below.refl _ _⟩ ?_
    rintro i w6 ⟨hi, lq⟩
    replace b1 := blk_below b1 lq
    replace b3 := blk_below b3 lq
    replace bx := blk_below bx lq
    replace tb := tb.below lq
    replace L := below_step L lq
    replace Kg := Kg.trans (E.gbB lq)
    refine E.CI.seq ?_
    refine E.CI.listL hF (fun _ _ h => h) rfl ?_
    refine E.GL.cmp rfl rfl rfl (fun _ h => (E.Runs.lss rfl rfl rfl h)) (fun h19 => ?_) (fun h19 => ?_)
    · obtain ⟨x, hx⟩ := get_ex (show i < V.ds.length by omega)
      obtain ⟨ad, eA, X⟩ := deal_at hV.ds hx
      have h2i : 2 ^ i ≤ 256 := (pow_8 (show i ≤ 8 by omega)).2
      have hmk := mk_lt V p i
      refine E.GL.done ?_
      refine E.QG.codeI ?_
      refine E.CI.seq ?_
      refine E.CI.cond_t rfl ?_
      refine E.CI.skip ?_
      refine E.QG.codeI ?_
      refine E.CI.seq ?_
      refine E.CI.block ?_
      refine E.CI.seq ?_
      refine E.CI.listL hF (fun _ _ h => h) rfl ?_
      refine E.GL.run rfl rfl rfl (E.Runs.move rfl rfl) ?_
      refine E.GL.run rfl rfl rfl (E.Runs.indexAddrA (i := i) rfl rfl rfl hu24 z45 o45 (by omega) eA rfl) ?_
      refine E.GL.run rfl rfl rfl (E.Runs.loads (cs := [.int .i64 x.f0, .int .i64 x.f1, .int .i64 x.f2, .int .i64 x.f3, .int .i64 x.f4, .int .i64 x.f5, .int .i64 x.f6, .int .i64 x.f7]) rfl rfl hu45 rfl info45s (fun j v hv => pw_cell_below L (X j v hv))) ?_
      refine E.GL.st rfl rfl rfl (E.ST.alloc rfl info45z fun g7 w7 e7 b7 l7 => ?_)
      have h7_L : w.heap.size ≤ g7 := by rw [e7]; exact L.size
      have h7_Kg : W.heap.size ≤ g7 := by rw [e7]; exact Kg.size
      have h7_lq : W.heap.size ≤ g7 := by rw [e7]; exact lq.size
      have n7_b1 : g1 ≠ g7 := by have := blk_lt b1; omega
      have n7_b3 : g3 ≠ g7 := by have := blk_lt b3; omega
      have n7_bx : gx ≠ g7 := by have := blk_lt bx; omega
      replace b1 := blk_below b1 l7
      replace b3 := blk_below b3 l7
      replace bx := blk_below bx l7
      replace tb := tb.below l7
      replace L := below_step L l7
      replace Kg := Kg.trans (E.gbB l7)
      replace lq := below_step lq l7
      refine E.GL.run rfl rfl rfl (E.Runs.assign rfl rfl) ?_
      refine E.GL.store_whole rfl rfl rfl rfl rfl b7 rfl info45s (deal_one _) fun wS7_5 c7 lS7_5 => ?_
      replace b1 := blk_grown b1 lS7_5 (E.nes (by first | assumption | exact Ne.symm (by assumption)))
      replace b3 := blk_grown b3 lS7_5 (E.nes (by first | assumption | exact Ne.symm (by assumption)))
      replace bx := blk_grown bx lS7_5 (E.nes (by first | assumption | exact Ne.symm (by assumption)))
      replace tb := tb.grown lS7_5 (by first | exact ⟨_, _, b7, by decide⟩ | exact ⟨_, _, b9, by decide⟩ | fail)
      replace L := E.below_own L h7_L lS7_5
      replace Kg := E.gb_own Kg h7_Kg lS7_5
      replace lq := E.below_own lq h7_lq lS7_5
      replace b7 := c7
      clear c7
      refine E.GL.done ?_
      refine E.QG.codeI ?_
      refine E.CI.seq ?_
      refine E.CI.listL hF (fun _ _ h => h) rfl ?_
      refine E.GL.run rfl rfl rfl (E.Runs.loads (cs := [.int .i64 V.d, .slice m.A V.rs.length m.a, .int .i64 V.h, .slice m.B V.fs.length m.b, .slice m.C V.ds.length m.c]) rfl rfl hu26 rfl info26s (blk_cells b1)) ?_
      refine E.GL.run rfl rfl rfl (E.Runs.loads (cs := [.int .i64 x.f0, .int .i64 x.f1, .int .i64 x.f2, .int .i64 x.f3, .int .i64 x.f4, .int .i64 x.f5, .int .i64 x.f6, .int .i64 x.f7]) rfl rfl hu45 rfl info45s (blk_cells b7)) ?_
      refine E.GL.run rfl rfl rfl (E.Runs.move rfl rfl) ?_
      by_cases h26 : Keep V x p
      · refine E.GL.st rfl rfl rfl (E.ST.call rfl ent49 (E.evc rfl (E.evc rfl (E.evc rfl E.evn))) ((kept_o V m x p (some ⟨gx, 0, none⟩) p.length _ ok.s (hV.below L) (ok.ds x (mem_of hx)) (C_nums p bx (by omega)) hpl true (iff_of_true rfl h26)).mono ?_))
        rintro e w26 ⟨rfl, l26⟩
        refine ⟨_, rfl, ?_⟩
        replace b1 := blk_below b1 l26
        replace b3 := blk_below b3 l26
        replace bx := blk_below bx l26
        replace b7 := blk_below b7 l26
        replace tb := tb.below l26
        replace L := below_step L l26
        replace Kg := Kg.trans (E.gbB l26)
        replace lq := below_step lq l26
        refine E.GL.done ?_
        refine E.QG.codeI ?_
        refine E.CI.cond_t rfl ?_
        refine E.CI.listL hF (fun _ _ h => h) rfl ?_
        refine E.GL.run rfl rfl rfl (E.Runs.move rfl rfl) ?_
        refine E.GL.run rfl rfl rfl (E.Runs.move rfl rfl) ?_
        refine E.GL.run rfl rfl rfl (E.Runs.shl (a := 1) (n := i) (.inl rfl) rfl rfl rfl (by omega) (by omega)) ?_
        refine E.GL.run rfl rfl rfl (E.Runs.or (.inl rfl) rfl rfl rfl (by omega) (by omega)) ?_
        refine E.GL.run rfl rfl rfl (E.Runs.assign rfl rfl) ?_
        refine E.GL.done ?_
        refine E.QG.block_normal ?_
        refine E.QG.codeI ?_
        refine E.CI.listL hF (fun _ _ h => h) rfl ?_
        refine E.GL.run rfl rfl rfl (E.Runs.add rfl rfl rfl (IntWalk.i64_in _ (by omega))) ?_
        refine E.GL.run rfl rfl rfl (E.Runs.move rfl rfl) ?_
        refine E.GL.done ?_
        exact E.QG.round (i + 1) (E.subc rfl (E.subc rfl (E.subc rfl (E.subc (by first | (rw [mk_yes (fun k => (bad_iff hx).mp k h26), Nat.one_mul]; rfl) | (rw [mk_no ((bad_iff hx).mpr h26)]; rfl) | fail) (E.subc rfl (E.subc rfl (E.subc rfl E.subn))))))) ⟨by omega, lq⟩ (by omega)
      · refine E.GL.st rfl rfl rfl (E.ST.call rfl ent49 (E.evc rfl (E.evc rfl (E.evc rfl E.evn))) ((kept_o V m x p (some ⟨gx, 0, none⟩) p.length _ ok.s (hV.below L) (ok.ds x (mem_of hx)) (C_nums p bx (by omega)) hpl false (iff_of_false Bool.false_ne_true h26)).mono ?_))
        rintro e w26 ⟨rfl, l26⟩
        refine ⟨_, rfl, ?_⟩
        replace b1 := blk_below b1 l26
        replace b3 := blk_below b3 l26
        replace bx := blk_below bx l26
        replace b7 := blk_below b7 l26
        replace tb := tb.below l26
        replace L := below_step L l26
        replace Kg := Kg.trans (E.gbB l26)
        replace lq := below_step lq l26
        refine E.GL.done ?_
        refine E.QG.codeI ?_
        refine E.CI.cond_f rfl ?_
        refine E.CI.skip ?_
        refine E.QG.block_normal ?_
        refine E.QG.codeI ?_
        refine E.CI.listL hF (fun _ _ h => h) rfl ?_
        refine E.GL.run rfl rfl rfl (E.Runs.add rfl rfl rfl (IntWalk.i64_in _ (by omega))) ?_
        refine E.GL.run rfl rfl rfl (E.Runs.move rfl rfl) ?_
        refine E.GL.done ?_
        exact E.QG.round (i + 1) (E.subc rfl (E.subc rfl (E.subc rfl (E.subc (by first | (rw [mk_yes (fun k => (bad_iff hx).mp k h26), Nat.one_mul]; rfl) | (rw [mk_no ((bad_iff hx).mpr h26)]; rfl) | fail) (E.subc rfl (E.subc rfl (E.subc rfl E.subn))))))) ⟨by omega, lq⟩ (by omega)
    · obtain rfl : i = V.ds.length := by omega
      refine E.GL.done ?_
      refine E.QG.codeI ?_
      refine E.CI.seq ?_
      refine E.CI.cond_f rfl ?_
      refine E.CI.exit ?_
      refine E.QG.pass_exit ?_
      refine E.QG.pass_exit ?_
      refine E.QG.block_here ?_
      refine E.QG.codeI ?_
      refine E.CI.seq ?_
      refine E.CI.listL hF (fun _ _ h => h) rfl ?_
      refine E.GL.run rfl rfl rfl (E.Runs.loads (cs := [.int .i64 V.d, .slice m.A V.rs.length m.a, .int .i64 V.h, .slice m.B V.fs.length m.b, .slice m.C V.ds.length m.c]) rfl rfl hu26 rfl info26s (blk_cells b1)) ?_
      refine E.GL.run rfl rfl rfl (E.Runs.move rfl rfl) ?_
      refine E.GL.st rfl rfl rfl (E.ST.call rfl ent59 (E.evc rfl (E.evc rfl E.evn)) ((takings_o V m p (some ⟨gx, 0, none⟩) p.length _ ok.s (hV.below L) (C_nums p bx (by omega)) hP).mono ?_))
      rintro e w34 ⟨rfl, l34⟩
      refine ⟨_, rfl, ?_⟩
      replace b1 := blk_below b1 l34
      replace b3 := blk_below b3 l34
      replace bx := blk_below bx l34
      replace tb := tb.below l34
      replace L := below_step L l34
      replace Kg := Kg.trans (E.gbB l34)
      refine E.GL.run rfl rfl rfl (E.Runs.assign rfl rfl) ?_
      refine E.GL.done ?_
      refine E.QG.codeI ?_
      refine E.CI.seq ?_
      refine E.CI.listL hF (fun _ _ h => h) rfl ?_
      refine E.GL.run rfl rfl rfl (E.Runs.load1 rfl rfl hu60 rfl (by first | assumption | exact E.blkc (by assumption) rfl | exact pw_cell_below L (by assumption) | exact E.keeps Kg (by assumption) (by first | exact E.nen | exact E.nes (by assumption) | exact E.nes (Ne.symm (by assumption))))) ?_
      refine E.GL.run rfl rfl rfl (E.Runs.move rfl rfl) ?_
      rcases hfb : f (mask V p) with _ | b0
      · refine E.GL.run rfl rfl rfl (E.Runs.lookupF rfl rfl kST (x := mask V p) rfl hu60 zero62 tb.mt (show _ = Value.tuple #[.agg #[.slice none 0 0, .int .i64 0], .bool false] from by simp [hfb, bhV])) ?_
        refine E.GL.run rfl rfl rfl (E.Runs.move rfl rfl) ?_
        refine E.GL.run rfl rfl rfl (E.Runs.extract rfl rfl rfl) ?_
        refine E.GL.run rfl rfl rfl (E.Runs.extract rfl rfl rfl) ?_
        refine E.GL.st rfl rfl rfl (E.ST.alloc rfl info62z fun g9 w9 e9 b9 l9 => ?_)
        have h9_L : w.heap.size ≤ g9 := by rw [e9]; exact L.size
        have h9_Kg : W.heap.size ≤ g9 := by rw [e9]; exact Kg.size
        have n9_b1 : g1 ≠ g9 := by have := blk_lt b1; omega
        have n9_b3 : g3 ≠ g9 := by have := blk_lt b3; omega
        have n9_bx : gx ≠ g9 := by have := blk_lt bx; omega
        replace b1 := blk_below b1 l9
        replace b3 := blk_below b3 l9
        replace bx := blk_below bx l9
        replace tb := tb.below l9
        replace L := below_step L l9
        replace Kg := Kg.trans (E.gbB l9)
        refine E.GL.store_whole rfl rfl rfl rfl rfl b9 rfl info62s (best_one _ _ _ _) fun wS12_7 c9 lS12_7 => ?_
        replace b1 := blk_grown b1 lS12_7 (E.nes (by first | assumption | exact Ne.symm (by assumption)))
        replace b3 := blk_grown b3 lS12_7 (E.nes (by first | assumption | exact Ne.symm (by assumption)))
        replace bx := blk_grown bx lS12_7 (E.nes (by first | assumption | exact Ne.symm (by assumption)))
        replace tb := tb.grown lS12_7 (by first | exact ⟨_, _, b7, by decide⟩ | exact ⟨_, _, b9, by decide⟩ | fail)
        replace L := E.below_own L h9_L lS12_7
        replace Kg := E.gb_own Kg h9_Kg lS12_7
        replace b9 := c9
        clear c9
        refine E.GL.run rfl rfl rfl (E.Runs.assign rfl rfl) ?_
        refine E.GL.done ?_
        refine E.QG.codeI ?_
        refine E.CI.seq ?_
        refine E.CI.listL hF (fun _ _ h => h) rfl ?_
        refine E.GL.run rfl rfl rfl (E.Runs.move rfl rfl) ?_
        refine E.GL.run rfl rfl rfl (E.Runs.not rfl rfl) ?_
        refine E.GL.run rfl rfl rfl (E.Runs.move rfl rfl) ?_
        refine E.GL.skip rfl rfl rfl ?_
        refine E.GL.skip rfl rfl rfl ?_
        refine E.GL.skip rfl rfl rfl ?_
        refine E.GL.skip rfl rfl rfl ?_
        refine E.GL.run rfl rfl rfl (E.Runs.pick_t rfl rfl rfl) ?_
        refine E.GL.done ?_
        refine E.QG.codeI ?_
        refine E.CI.cond_t rfl ?_
        refine E.CI.heldJ hF (fun _ _ h => h) (by rfl) 6 (fun v W => v.grownBy W (none)) (fun _ _ => True) (by kernel_rfl) (by kernel_rfl) (fun v => World.grownBy.refl _ _) fun v14 lD => ?_
        replace b1 := blk_below b1 lD
        replace b3 := blk_below b3 lD
        replace bx := blk_below bx lD
        replace b9 := blk_below b9 lD
        replace tb := tb.below lD
        replace L := below_step L lD
        replace Kg := Kg.trans (E.gbB lD)
        have lD14 := lD
        clear lD
        have hx14 := blk_lt bx
        have hL14 := L.size
        have s_b1 := b1
        have s_b3 := b3
        have s_bx := bx
        have s_b9 := b9
        have s_L := L
        have s_Kg := Kg
        have s_tb := tb
        have hh : v14.grownBy v14 (none) := World.grownBy.refl _ _
        refine E.GJ.take1 (i := 0) rfl (by kernel_rfl) (by kernel_rfl) (by kernel_rfl) (by kernel_rfl) rfl (by kernel_rfl) (by kernel_rfl) (by intro c a d v w h; first | (cases d <;> exact h) | exact nomatch (show _ ∧ _ from h).1) rfl rfl rfl (fun w' hS => (E.Runs.load1 rfl rfl hu60 rfl (E.keeps hS (E.blkc s_b3 rfl) E.nen))) ?_
        refine E.GJ.take1 (i := 1) rfl (by kernel_rfl) (by kernel_rfl) (by kernel_rfl) (by kernel_rfl) rfl (by kernel_rfl) (by kernel_rfl) (by intro c a d v w h; first | (cases d <;> exact h) | exact nomatch (show _ ∧ _ from h).1) rfl rfl rfl (fun w' hS => (E.Runs.move rfl rfl)) ?_
        refine E.GJ.take1 (i := 2) rfl (by kernel_rfl) (by kernel_rfl) (by kernel_rfl) (by kernel_rfl) rfl (by kernel_rfl) (by kernel_rfl) (by intro c a d v w h; first | (cases d <;> exact h) | exact nomatch (show _ ∧ _ from h).1) rfl rfl rfl (fun w' hS => (E.Runs.move rfl rfl)) ?_
        refine E.GJ.take1 (i := 4) rfl (by kernel_rfl) (by kernel_rfl) (by kernel_rfl) (by kernel_rfl) rfl (by kernel_rfl) (by kernel_rfl) (by intro c a d v w h; first | (cases d <;> exact h) | exact nomatch (show _ ∧ _ from h).1) rfl rfl rfl (fun w' hS => (E.Runs.move rfl rfl)) ?_
        refine E.GJ.one (i := 3) (by kernel_rfl) (E.OJ.st rfl rfl rfl rfl (E.ST.call rfl ent73 (E.evc rfl E.evn) ((clone73 p (some ⟨gx, 0, none⟩) p.length p.length _ (C_nums p bx (by omega)) (by omega)).mono ?_)))
        rintro e w52 ⟨v52, rfl, R52, l52⟩
        refine ⟨_, rfl, (E.SJ.before (by kernel_rfl)).mpr (hh.trans (E.gbB l52)), ?_⟩
        replace hh := hh.trans (E.gbB l52)
        replace b1 := blk_below b1 l52
        replace b3 := blk_below b3 l52
        replace bx := blk_below bx l52
        replace b9 := blk_below b9 l52
        replace tb := tb.below l52
        replace L := below_step L l52
        replace Kg := Kg.trans (E.gbB l52)
        obtain ⟨A52, c52, hv52⟩ := Kd.R_slice R52
        subst hv52
        refine E.GJ.take1 (i := 5) rfl (by kernel_rfl) (by kernel_rfl) (by kernel_rfl) (by kernel_rfl) rfl (by kernel_rfl) (by kernel_rfl) (by intro c a d v w h; first | (cases d <;> exact h) | exact nomatch (show _ ∧ _ from h).1) rfl rfl rfl (fun w' hS => (E.Runs.build rfl (E.epc rfl (E.epc rfl E.epn)) (build62 _ _ _ _))) ?_
        refine E.GJ.one (i := 6) (by kernel_rfl) (E.OJ.sn rfl rfl rfl (E.ST.mapUpdate (ev := bhV) rfl rfl kST (mask V p) (v := ⟨A52, p.length, c52, takes V p⟩) rfl rfl hu60 tb.mt fun wM mM lM => ⟨(E.SJ.behind (by kernel_rfl)).mpr trivial, ?_⟩))
        have R9 : Kd.R kI 3 wM w.heap.size (fun k => k ≠ gx) (.slice A52 p.length c52) p := Kd.R_lower (Kd.R_mono (Kd.R_grown (Kd.R_bound R52) lM (fun k hk e => by
          obtain ⟨_, _, _, t, _, cells, hc⟩ := hk
          injection e with e
          obtain ⟨es, cl, l, h1, _⟩ := tb.mt
          rw [e, h1] at hc
          cases hc)) (fun k hk => by obtain ⟨_, hk, _⟩ := hk; omega)) hL14
        have tb2 := tb.put (x := (p, gx)) (b := ⟨A52, p.length, c52, takes V p⟩) hsame (fun b' hb' => by show b'.t ≤ takes V p; replace hb' : f (mask V p) = some b' := hb'; first | (rw [hfb] at hb'; cases hb'; done) | (rw [hfb] at hb'; injection hb' with hb'; subst hb'; omega) | fail) rfl rfl lM mM R9
        replace b1 := blk_grown b1 lM (E.nes (tb.ne b1))
        replace b3 := blk_grown b3 lM (E.nes (tb.ne b3))
        replace L := E.below_own L hgm lM
        replace Kg := Kg.trans lM
        refine E.GJ.done (by kernel_rfl) ?_
        refine E.QG.block_normal ?_
        intro a' ha'
        exact ⟨keeps_map Kg (by omega), ⟨(Below.refl w.heap.size W).grown Kg hWs (fun k e => by injection e with e; omega), Kg.block _ hW13 (fun e => by injection e with e; omega), Kg.block _ hWx (fun e => by injection e with e; omega)⟩, _, _, b1, b3, tb2, L⟩
      · refine E.GL.run rfl rfl rfl (E.Runs.lookupF rfl rfl kST (x := mask V p) rfl hu60 zero62 tb.mt (show _ = Value.tuple #[.agg #[.slice b0.A b0.n b0.c, .int .i64 b0.t], .bool true] from by simp [hfb, bhV])) ?_
        refine E.GL.run rfl rfl rfl (E.Runs.move rfl rfl) ?_
        refine E.GL.run rfl rfl rfl (E.Runs.extract rfl rfl rfl) ?_
        refine E.GL.run rfl rfl rfl (E.Runs.extract rfl rfl rfl) ?_
        refine E.GL.st rfl rfl rfl (E.ST.alloc rfl info62z fun g9 w9 e9 b9 l9 => ?_)
        have h9_L : w.heap.size ≤ g9 := by rw [e9]; exact L.size
        have h9_Kg : W.heap.size ≤ g9 := by rw [e9]; exact Kg.size
        have n9_b1 : g1 ≠ g9 := by have := blk_lt b1; omega
        have n9_b3 : g3 ≠ g9 := by have := blk_lt b3; omega
        have n9_bx : gx ≠ g9 := by have := blk_lt bx; omega
        replace b1 := blk_below b1 l9
        replace b3 := blk_below b3 l9
        replace bx := blk_below bx l9
        replace tb := tb.below l9
        replace L := below_step L l9
        replace Kg := Kg.trans (E.gbB l9)
        refine E.GL.store_whole rfl rfl rfl rfl rfl b9 rfl info62s (best_one _ _ _ _) fun wS12_7 c9 lS12_7 => ?_
        replace b1 := blk_grown b1 lS12_7 (E.nes (by first | assumption | exact Ne.symm (by assumption)))
        replace b3 := blk_grown b3 lS12_7 (E.nes (by first | assumption | exact Ne.symm (by assumption)))
        replace bx := blk_grown bx lS12_7 (E.nes (by first | assumption | exact Ne.symm (by assumption)))
        replace tb := tb.grown lS12_7 (by first | exact ⟨_, _, b7, by decide⟩ | exact ⟨_, _, b9, by decide⟩ | fail)
        replace L := E.below_own L h9_L lS12_7
        replace Kg := E.gb_own Kg h9_Kg lS12_7
        replace b9 := c9
        clear c9
        refine E.GL.run rfl rfl rfl (E.Runs.assign rfl rfl) ?_
        refine E.GL.done ?_
        refine E.QG.codeI ?_
        refine E.CI.seq ?_
        refine E.CI.listL hF (fun _ _ h => h) rfl ?_
        refine E.GL.run rfl rfl rfl (E.Runs.move rfl rfl) ?_
        refine E.GL.run rfl rfl rfl (E.Runs.not rfl rfl) ?_
        refine E.GL.run rfl rfl rfl (E.Runs.move rfl rfl) ?_
        refine E.GL.run rfl rfl rfl (E.Runs.move rfl rfl) ?_
        refine E.GL.run rfl rfl rfl (E.Runs.fieldAddr rfl rfl hu62 rfl (by assumption) rfl) ?_
        refine E.GL.run rfl rfl rfl (E.Runs.load rfl rfl hu3 (by first | assumption | exact E.blkc (by assumption) rfl | exact pw_cell_below L (by assumption) | exact E.keeps Kg (by assumption) (by first | exact E.nen | exact E.nes (by assumption) | exact E.nes (Ne.symm (by assumption))))) ?_
        refine E.GL.cmp rfl rfl rfl (fun _ h => (E.Runs.gtr rfl rfl rfl h)) (fun h47 => ?_) (fun h47 => ?_)
        · refine E.GL.run rfl rfl rfl (E.Runs.pick_f rfl rfl rfl) ?_
          refine E.GL.done ?_
          refine E.QG.codeI ?_
          refine E.CI.cond_t rfl ?_
          refine E.CI.heldJ hF (fun _ _ h => h) (by rfl) 6 (fun v W => v.grownBy W (none)) (fun _ _ => True) (by kernel_rfl) (by kernel_rfl) (fun v => World.grownBy.refl _ _) fun v14 lD => ?_
          replace b1 := blk_below b1 lD
          replace b3 := blk_below b3 lD
          replace bx := blk_below bx lD
          replace b9 := blk_below b9 lD
          replace tb := tb.below lD
          replace L := below_step L lD
          replace Kg := Kg.trans (E.gbB lD)
          have lD14 := lD
          clear lD
          have hx14 := blk_lt bx
          have hL14 := L.size
          have s_b1 := b1
          have s_b3 := b3
          have s_bx := bx
          have s_b9 := b9
          have s_L := L
          have s_Kg := Kg
          have s_tb := tb
          have hh : v14.grownBy v14 (none) := World.grownBy.refl _ _
          refine E.GJ.take1 (i := 0) rfl (by kernel_rfl) (by kernel_rfl) (by kernel_rfl) (by kernel_rfl) rfl (by kernel_rfl) (by kernel_rfl) (by intro c a d v w h; first | (cases d <;> exact h) | exact nomatch (show _ ∧ _ from h).1) rfl rfl rfl (fun w' hS => (E.Runs.load1 rfl rfl hu60 rfl (E.keeps hS (E.blkc s_b3 rfl) E.nen))) ?_
          refine E.GJ.take1 (i := 1) rfl (by kernel_rfl) (by kernel_rfl) (by kernel_rfl) (by kernel_rfl) rfl (by kernel_rfl) (by kernel_rfl) (by intro c a d v w h; first | (cases d <;> exact h) | exact nomatch (show _ ∧ _ from h).1) rfl rfl rfl (fun w' hS => (E.Runs.move rfl rfl)) ?_
          refine E.GJ.take1 (i := 2) rfl (by kernel_rfl) (by kernel_rfl) (by kernel_rfl) (by kernel_rfl) rfl (by kernel_rfl) (by kernel_rfl) (by intro c a d v w h; first | (cases d <;> exact h) | exact nomatch (show _ ∧ _ from h).1) rfl rfl rfl (fun w' hS => (E.Runs.move rfl rfl)) ?_
          refine E.GJ.take1 (i := 4) rfl (by kernel_rfl) (by kernel_rfl) (by kernel_rfl) (by kernel_rfl) rfl (by kernel_rfl) (by kernel_rfl) (by intro c a d v w h; first | (cases d <;> exact h) | exact nomatch (show _ ∧ _ from h).1) rfl rfl rfl (fun w' hS => (E.Runs.move rfl rfl)) ?_
          refine E.GJ.one (i := 3) (by kernel_rfl) (E.OJ.st rfl rfl rfl rfl (E.ST.call rfl ent73 (E.evc rfl E.evn) ((clone73 p (some ⟨gx, 0, none⟩) p.length p.length _ (C_nums p bx (by omega)) (by omega)).mono ?_)))
          rintro e w52 ⟨v52, rfl, R52, l52⟩
          refine ⟨_, rfl, (E.SJ.before (by kernel_rfl)).mpr (hh.trans (E.gbB l52)), ?_⟩
          replace hh := hh.trans (E.gbB l52)
          replace b1 := blk_below b1 l52
          replace b3 := blk_below b3 l52
          replace bx := blk_below bx l52
          replace b9 := blk_below b9 l52
          replace tb := tb.below l52
          replace L := below_step L l52
          replace Kg := Kg.trans (E.gbB l52)
          obtain ⟨A52, c52, hv52⟩ := Kd.R_slice R52
          subst hv52
          refine E.GJ.take1 (i := 5) rfl (by kernel_rfl) (by kernel_rfl) (by kernel_rfl) (by kernel_rfl) rfl (by kernel_rfl) (by kernel_rfl) (by intro c a d v w h; first | (cases d <;> exact h) | exact nomatch (show _ ∧ _ from h).1) rfl rfl rfl (fun w' hS => (E.Runs.build rfl (E.epc rfl (E.epc rfl E.epn)) (build62 _ _ _ _))) ?_
          refine E.GJ.one (i := 6) (by kernel_rfl) (E.OJ.sn rfl rfl rfl (E.ST.mapUpdate (ev := bhV) rfl rfl kST (mask V p) (v := ⟨A52, p.length, c52, takes V p⟩) rfl rfl hu60 tb.mt fun wM mM lM => ⟨(E.SJ.behind (by kernel_rfl)).mpr trivial, ?_⟩))
          have R9 : Kd.R kI 3 wM w.heap.size (fun k => k ≠ gx) (.slice A52 p.length c52) p := Kd.R_lower (Kd.R_mono (Kd.R_grown (Kd.R_bound R52) lM (fun k hk e => by
            obtain ⟨_, _, _, t, _, cells, hc⟩ := hk
            injection e with e
            obtain ⟨es, cl, l, h1, _⟩ := tb.mt
            rw [e, h1] at hc
            cases hc)) (fun k hk => by obtain ⟨_, hk, _⟩ := hk; omega)) hL14
          have tb2 := tb.put (x := (p, gx)) (b := ⟨A52, p.length, c52, takes V p⟩) hsame (fun b' hb' => by show b'.t ≤ takes V p; replace hb' : f (mask V p) = some b' := hb'; first | (rw [hfb] at hb'; cases hb'; done) | (rw [hfb] at hb'; injection hb' with hb'; subst hb'; omega) | fail) rfl rfl lM mM R9
          replace b1 := blk_grown b1 lM (E.nes (tb.ne b1))
          replace b3 := blk_grown b3 lM (E.nes (tb.ne b3))
          replace L := E.below_own L hgm lM
          replace Kg := Kg.trans lM
          refine E.GJ.done (by kernel_rfl) ?_
          refine E.QG.block_normal ?_
          intro a' ha'
          exact ⟨keeps_map Kg (by omega), ⟨(Below.refl w.heap.size W).grown Kg hWs (fun k e => by injection e with e; omega), Kg.block _ hW13 (fun e => by injection e with e; omega), Kg.block _ hWx (fun e => by injection e with e; omega)⟩, _, _, b1, b3, tb2, L⟩
        · refine E.GL.run rfl rfl rfl (E.Runs.pick_f rfl rfl rfl) ?_
          refine E.GL.done ?_
          refine E.QG.codeI ?_
          refine E.CI.cond_f rfl ?_
          refine E.CI.skip ?_
          refine E.QG.block_normal ?_
          have tb2 := tb.skip (x := (p, gx)) hsame hfb (show takes V p ≤ b0.t by omega)
          intro a' ha'
          exact ⟨keeps_map Kg (by omega), ⟨(Below.refl w.heap.size W).grown Kg hWs (fun k e => by injection e with e; omega), Kg.block _ hW13 (fun e => by injection e with e; omega), Kg.block _ hWx (fun e => by injection e with e; omega)⟩, _, _, b1, b3, tb2, L⟩
  · obtain ⟨f, q, b1, b3, tb, L⟩ := hi
    refine E.QD.block_normal ?_
    refine E.QD.codeI ?_
    refine E.CD.seq ?_
    refine E.CD.list ?_
    refine E.GD.run E.WF.wide rfl rfl rfl rfl (E.Runs.load1 rfl rfl Try.underlying60 rfl (E.blkc b3 rfl)) ?_
    refine E.GD.run E.WF.wide rfl rfl rfl rfl (E.Runs.assign rfl rfl) ?_
    refine E.GD.done ?_
    refine E.QD.codeI ?_
    refine E.CD.ret ?_
    have tb9 := tb.step (grownBy_putObj' W D (.deferred none)) (fun r e => by
      injection e with e
      subst e
      refine ⟨by omega, fun cells hc => ?_⟩
      rw [hk] at hc
      cases hc)
    have L9 := L.grown (grownBy_putObj' W D (.deferred none)) L.size (fun r e => by injection e with e; omega)
    refine QD_result1 hk rfl rfl ⟨g11, f, q, rfl, tb9.mt, hS ▸ tb9.ok, fun s b hs => ?_, L9⟩
    exact Kd.R_lower (Kd.R_mono (tb9.rw s b hs) (fun _ _ => trivial)) (Nat.zero_le _)

end Go.Proofs.Ytdiambcjghlffaa.T
namespace Go.Proofs.Ytdiambcjghlffaa.T
open Go.RowKit Go.Proofs.YtdiambcjghlffaaW.PrintWords Go.Proofs.YtdiambcjghlffaaW.PrintMore
open Go.Proofs.Ytdiambcjghlffaa.P
set_option linter.unusedVariables false
set_option linter.unusedSimpArgs false

def b00 : Bh := ⟨none, 0, 0, 0⟩
/-- What the table answers for a set of deals. -/
def OfOk (f : Nat → Option Bh) (s : Nat) : Option Bh → Prop
  | none => ∀ k b, f k = some b → ¬ k &&& s = s
  | some b => ∃ k, f k = some b ∧ k &&& s = s ∧ ∀ k' b', f k' = some b' → k' &&& s = s → b'.t ≤ b.t
/-- .. of the keys that were handed out so far. -/
def Bst (f : Nat → Option Bh) (s : Nat) (S : List Nat) : Option Bh → Prop
  | none => ∀ k ∈ S, ¬ k &&& s = s
  | some b => ∃ k, f k = some b ∧ k &&& s = s ∧ ∀ k' ∈ S, ∀ b', f k' = some b' → k' &&& s = s → b'.t ≤ b.t
section
variable {f : Nat → Option Bh} {s k : Nat} {S : List Nat} {c : Option Bh} {b x : Bh}
theorem Bst.done (h : Bst f s S c) (hall : ∀ x v, f x = some v → x ∈ S) : OfOk f s c := by
  cases c with
  | none => exact fun k b hk => h k (hall k b hk)
  | some b =>
    obtain ⟨k, h1, h2, h3⟩ := h
    exact ⟨k, h1, h2, fun k' b' hk' => h3 k' (hall k' b' hk') b' hk'⟩
theorem Bst.no (h : Bst f s S c) (hk : ¬ k &&& s = s) : Bst f s (S ++ [k]) c := by
  cases c with
  | none =>
    intro j hj
    rcases List.mem_append.mp hj with h1 | h1
    · exact h j h1
    · rw [List.mem_singleton.mp h1]; exact hk
  | some b =>
    obtain ⟨i, h1, h2, h3⟩ := h
    refine ⟨i, h1, h2, fun j hj b' hb' hs => ?_⟩
    rcases List.mem_append.mp hj with h4 | h4
    · exact h3 j h4 b' hb' hs
    · rw [List.mem_singleton.mp h4] at hs; exact absurd hs hk
theorem Bst.first (h : Bst f s S none) (hf : f k = some x) (hk : k &&& s = s) : Bst f s (S ++ [k]) (some x) := by
  refine ⟨k, hf, hk, fun j hj b' hb' hs => ?_⟩
  rcases List.mem_append.mp hj with h4 | h4
  · exact absurd hs (h j h4)
  · rw [List.mem_singleton.mp h4, hf] at hb'; injection hb' with hb'; rw [hb']; exact Int.le_refl _
theorem Bst.more (h : Bst f s S (some b)) (hf : f k = some x) (hk : k &&& s = s) (hlt : b.t < x.t) : Bst f s (S ++ [k]) (some x) := by
  obtain ⟨i, h1, h2, h3⟩ := h
  refine ⟨k, hf, hk, fun j hj b' hb' hs => ?_⟩
  rcases List.mem_append.mp hj with h4 | h4
  · have := h3 j h4 b' hb' hs; omega
  · rw [List.mem_singleton.mp h4, hf] at hb'; injection hb' with hb'; rw [hb']; exact Int.le_refl _
theorem Bst.less (h : Bst f s S (some b)) (hf : f k = some x) (hlt : ¬ b.t < x.t) : Bst f s (S ++ [k]) (some b) := by
  obtain ⟨i, h1, h2, h3⟩ := h
  refine ⟨i, h1, h2, fun j hj b' hb' hs => ?_⟩
  rcases List.mem_append.mp hj with h4 | h4
  · exact h3 j h4 b' hb' hs
  · rw [List.mem_singleton.mp h4, hf] at hb'; injection hb' with hb'; rw [← hb']; omega
end
/-- A range over the table, some keys handed out. -/
structure ItS (w : World) (r g : Nat) (f : Nat → Option Bh) (S : List Nat) (n : Nat) : Prop where
  it : E.MfI setV bhV w r g f S n
theorem ItS.below {w w' : World} {r g : Nat} {f : Nat → Option Bh} {S : List Nat} {n : Nat} (h : ItS w r g f S n) (l : Below w.heap.size w w') : ItS w' r g f S n := ⟨h.it.below l⟩
theorem ItS.grown {w w' : World} {r g x : Nat} {f : Nat → Option Bh} {S : List Nat} {n : Nat} (h : ItS w r g f S n) (hg : w.grownBy w' (some x)) (hb : ∃ cs t, w.heap[x]? = some (.cells cs t (0, 0))) : ItS w' r g f S n := by
  obtain ⟨cs, t, hb⟩ := hb
  refine ⟨h.it.grown hg (fun e => ?_) (fun e => ?_)⟩
  · injection e with e
    obtain ⟨es, cl, l, h1, _⟩ := h.it.mf
    rw [e, hb] at h1
    cases h1
  · injection e with e
    obtain ⟨_, _, _, h1⟩ := h.it.it
    rw [e, hb] at h1
    cases h1
set_option maxRecDepth 100000 in
set_option maxHeartbeats 8000000 in

theorem of_calls (g : Nat) (f : Nat → Option Bh) (s : Nat) (w : World) (hM : MT w g f) (hk : ∀ k b, f k = some b → k < 256) (hs : s < 256) :
    Calls Try.prog 40 #[.map (some g), .int .u64 (s : Nat)] w fun e w' => ∃ c : Option Bh, e = .returned (.tuple #[bhV (c.getD b00), .bool c.isSome]) ∧ OfOk f s c ∧ Below w.heap.size w w' := by
  have hu3 := Try.underlying3
  have hu22 := Try.underlying22
  have hu60 := Try.underlying60
  have hu62 := Try.underlying62
  have hu66 := Try.underlying66
  obtain ⟨z3, o3⟩ := info_some info3s (by decide)
  obtain ⟨z60, o60⟩ := info_some info60s (by decide)
  obtain ⟨z62, o62⟩ := info_some info62s (by decide)
  refine E.enter (N := 34) Try.func40 rfl Try.ntmps40 (args := [.map (some g), .int .u64 (s : Nat)]) (by simp) ?_
  have L := Below.refl w.heap.size w
  refine E.CG.seq ?_
  refine E.CG.list ?_
  refine E.GL.st rfl rfl rfl (E.ST.alloc rfl info62z fun g4 w4 e4 b4 l4 => ?_)
  have h4_L : w.heap.size ≤ g4 := by rw [e4]; exact L.size
  replace L := below_step L l4
  refine E.GL.run rfl rfl rfl (E.Runs.assign rfl rfl) ?_
  refine E.GL.done ?_
  refine E.QG.code ?_
  refine E.CG.seq ?_
  refine E.CG.seq ?_
  refine E.CG.list ?_
  refine E.GL.run rfl rfl rfl (E.Runs.move rfl rfl) ?_
  refine E.GL.st rfl rfl rfl (E.ST.range rfl rfl hu60 (hM.below L) fun r9 w9 n9 e9 it9 l9 => ?_)
  have hr9 : w.heap.size ≤ r9 := by rw [e9]; exact L.size
  have n4r : g4 ≠ r9 := by have := blk_lt b4; omega
  have it : ItS w9 r9 g f [] n9 := ⟨it9⟩
  clear it9
  replace b4 := blk_below b4 l9
  replace L := below_step L l9
  refine E.GL.done ?_
  refine E.QG.code ?_
  refine E.CG.block ?_
  have s2_b4 := b4
  have s2_L := L
  refine E.CG.loop2 (fun (n : Nat) (u : List Nat × Option Bh) => [(1, .int .u64 (s : Nat)), (4, .pointer (some ⟨g4, 0, none⟩)), (5, .bool u.2.isSome), (9, .pointer (some ⟨r9, 0, none⟩))]) (fun n u w' => ItS w' r9 g f u.1 n ∧ w'.heap[g4]? = some (.cells #[.slice (u.2.getD b00).A (u.2.getD b00).n (u.2.getD b00).c, .int .i64 (u.2.getD b00).t] 62 (0, 0)) ∧ Bst f s u.1 u.2 ∧ Below w.heap.size w w') (fun n u => n) n9 ([], none) (E.subc rfl (E.subc rfl (E.subc rfl (E.subc rfl E.subn)))) ⟨it, b4, (show Bst f s [] none from fun _ h => by cases h), L⟩ ?_
  rintro n u w2 ⟨it, b4, hB, L⟩
  obtain ⟨S, cur⟩ := u
  refine E.CG.seq ?_
  refine E.CG.list ?_
  refine E.GL.st rfl rfl rfl (E.ST.next rfl rfl kST it.it (fun hall => ?_) (fun k x w10 n' hx hxS hn' it10 mJ l10 => ?_))
  · have hfin := hB.done hall
    refine E.GL.run rfl rfl rfl (E.Runs.extract rfl rfl rfl) ?_
    refine E.GL.done ?_
    refine E.QG.code ?_
    refine E.CG.seq ?_
    refine E.CG.cond_f rfl ?_
    refine E.CG.exit ?_
    refine E.QG.pass_exit ?_
    refine E.QG.pass_exit ?_
    refine E.QG.block_here ?_
    refine E.QG.code ?_
    refine E.CG.seq ?_
    refine E.CG.list ?_
    refine E.GL.run rfl rfl rfl (E.Runs.loads (cs := [.slice (cur.getD b00).A (cur.getD b00).n (cur.getD b00).c, .int .i64 (cur.getD b00).t]) rfl rfl hu62 rfl info62s (blk_cells b4)) ?_
    refine E.GL.run rfl rfl rfl (E.Runs.move rfl rfl) ?_
    refine E.GL.store_whole rfl rfl rfl rfl rfl b4 rfl info62s (best_one _ _ _ _) fun wS6_2 c4 lS6_2 => ?_
    replace it := it.grown lS6_2 (by first | exact ⟨_, _, b7⟩ | exact ⟨_, _, b4⟩ | fail)
    replace L := E.below_own L h4_L lS6_2
    replace b4 := c4
    clear c4
    refine E.GL.run rfl rfl rfl (E.Runs.assign rfl rfl) ?_
    refine E.GL.done ?_
    refine E.QG.code ?_
    refine E.CG.ret ?_
    exact E.QG.result_ct rfl rfl b4 hu62 rfl info62s rfl ⟨cur, rfl, hfin, L⟩
  · replace it : ItS w10 r9 g f (S ++ [k]) n' := ⟨it10⟩
    replace b4 := blk_grown b4 l10 (E.nes n4r)
    replace L := E.below_own L hr9 l10
    have hkl := hk k x hx
    refine E.GL.run rfl rfl rfl (E.Runs.extract rfl rfl rfl) ?_
    refine E.GL.done ?_
    refine E.QG.code ?_
    refine E.CG.seq ?_
    refine E.CG.cond_t rfl ?_
    refine E.CG.skip ?_
    refine E.QG.code ?_
    refine E.CG.block ?_
    refine E.CG.seq ?_
    refine E.CG.list ?_
    refine E.GL.run rfl rfl rfl (E.Runs.entry rfl rfl mJ) ?_
    refine E.GL.run rfl rfl rfl (E.Runs.extract rfl rfl rfl) ?_
    refine E.GL.run rfl rfl rfl (E.Runs.extract rfl rfl rfl) ?_
    refine E.GL.st rfl rfl rfl (E.ST.alloc rfl info62z fun g7 w7 e7 b7 l7 => ?_)
    have h7_L : w.heap.size ≤ g7 := by rw [e7]; exact L.size
    have n7_b4 : g4 ≠ g7 := by have := blk_lt b4; omega
    replace b4 := blk_below b4 l7
    replace it := it.below l7
    replace L := below_step L l7
    refine E.GL.run rfl rfl rfl (E.Runs.assign rfl rfl) ?_
    refine E.GL.store_whole rfl rfl rfl rfl rfl b7 rfl info62s (best_one _ _ _ _) fun wS3_5 c7 lS3_5 => ?_
    replace b4 := blk_grown b4 lS3_5 (E.nes (by first | assumption | exact Ne.symm (by assumption)))
    replace it := it.grown lS3_5 (by first | exact ⟨_, _, b7⟩ | exact ⟨_, _, b4⟩ | fail)
    replace L := E.below_own L h7_L lS3_5
    replace b7 := c7
    clear c7
    refine E.GL.done ?_
    refine E.QG.code ?_
    refine E.CG.seq ?_
    refine E.CG.list ?_
    refine E.GL.run rfl rfl rfl (E.Runs.move rfl rfl) ?_
    refine E.GL.run rfl rfl rfl (E.Runs.move rfl rfl) ?_
    refine E.GL.run rfl rfl rfl (E.Runs.and (a := k) (b := s) (.inl rfl) rfl rfl rfl (by omega) (by omega)) ?_
    refine E.GL.run rfl rfl rfl (E.Runs.move rfl rfl) ?_
    refine E.GL.cmp rfl rfl rfl (fun _ h => (E.Runs.eql rfl rfl rfl h)) (fun h19 => ?_) (fun h19 => ?_)
    · have hks : k &&& s = s := by omega
      refine E.GL.run rfl rfl rfl (E.Runs.move rfl rfl) ?_
      rcases cur with _ | b0
      · refine E.GL.run rfl rfl rfl (E.Runs.move rfl rfl) ?_
        refine E.GL.run rfl rfl rfl (E.Runs.not rfl rfl) ?_
        refine E.GL.run rfl rfl rfl (E.Runs.move rfl rfl) ?_
        refine E.GL.skip rfl rfl rfl ?_
        refine E.GL.skip rfl rfl rfl ?_
        refine E.GL.skip rfl rfl rfl ?_
        refine E.GL.skip rfl rfl rfl ?_
        refine E.GL.skip rfl rfl rfl ?_
        refine E.GL.run rfl rfl rfl (E.Runs.pick_t rfl rfl rfl) ?_
        refine E.GL.run rfl rfl rfl (E.Runs.pick_t rfl rfl rfl) ?_
        refine E.GL.done ?_
        refine E.QG.code ?_
        refine E.CG.cond_t rfl ?_
        refine E.CG.list ?_
        refine E.GL.run rfl rfl rfl (E.Runs.loads (cs := [.slice x.A x.n x.c, .int .i64 x.t]) rfl rfl hu62 rfl info62s (blk_cells b7)) ?_
        refine E.GL.store_whole rfl rfl rfl rfl rfl b4 rfl info62s (best_one _ _ _ _) fun wS5_1 c4 lS5_1 => ?_
        replace b7 := blk_grown b7 lS5_1 (E.nes (by first | assumption | exact Ne.symm (by assumption)))
        replace it := it.grown lS5_1 (by first | exact ⟨_, _, b7⟩ | exact ⟨_, _, b4⟩ | fail)
        replace L := E.below_own L h4_L lS5_1
        replace b4 := c4
        clear c4
        refine E.GL.run rfl rfl rfl (E.Runs.assign rfl rfl) ?_
        refine E.GL.done ?_
        refine E.QG.block_normal ?_
        exact E.QG.round2 (d := ([], none)) n' (S ++ [k], some x) (E.subc rfl (E.subc rfl (E.subc rfl (E.subc rfl E.subn)))) (by first | exact ⟨it, b4, hB.no hks, L⟩ | exact ⟨it, b4, hB.first hx hks, L⟩ | exact ⟨it, b4, hB.more hx hks h28, L⟩ | exact ⟨it, b4, hB.less hx h28, L⟩ | fail) hn'
      · refine E.GL.run rfl rfl rfl (E.Runs.move rfl rfl) ?_
        refine E.GL.run rfl rfl rfl (E.Runs.not rfl rfl) ?_
        refine E.GL.run rfl rfl rfl (E.Runs.move rfl rfl) ?_
        refine E.GL.run rfl rfl rfl (E.Runs.fieldAddr rfl rfl hu62 rfl (by assumption) rfl) ?_
        refine E.GL.run rfl rfl rfl (E.Runs.load rfl rfl hu3 (by first | assumption | exact E.blkc (by assumption) rfl | exact pw_cell_below L (by assumption))) ?_
        refine E.GL.run rfl rfl rfl (E.Runs.fieldAddr rfl rfl hu62 rfl (by assumption) rfl) ?_
        refine E.GL.run rfl rfl rfl (E.Runs.load rfl rfl hu3 (by first | assumption | exact E.blkc (by assumption) rfl | exact pw_cell_below L (by assumption))) ?_
        refine E.GL.cmp rfl rfl rfl (fun _ h => (E.Runs.gtr rfl rfl rfl h)) (fun h28 => ?_) (fun h28 => ?_)
        · replace h28 : b0.t < x.t := h28
          refine E.GL.run rfl rfl rfl (E.Runs.pick_f rfl rfl rfl) ?_
          refine E.GL.run rfl rfl rfl (E.Runs.pick_t rfl rfl rfl) ?_
          refine E.GL.done ?_
          refine E.QG.code ?_
          refine E.CG.cond_t rfl ?_
          refine E.CG.list ?_
          refine E.GL.run rfl rfl rfl (E.Runs.loads (cs := [.slice x.A x.n x.c, .int .i64 x.t]) rfl rfl hu62 rfl info62s (blk_cells b7)) ?_
          refine E.GL.store_whole rfl rfl rfl rfl rfl b4 rfl info62s (best_one _ _ _ _) fun wS5_1 c4 lS5_1 => ?_
          replace b7 := blk_grown b7 lS5_1 (E.nes (by first | assumption | exact Ne.symm (by assumption)))
          replace it := it.grown lS5_1 (by first | exact ⟨_, _, b7⟩ | exact ⟨_, _, b4⟩ | fail)
          replace L := E.below_own L h4_L lS5_1
          replace b4 := c4
          clear c4
          refine E.GL.run rfl rfl rfl (E.Runs.assign rfl rfl) ?_
          refine E.GL.done ?_
          refine E.QG.block_normal ?_
          exact E.QG.round2 (d := ([], none)) n' (S ++ [k], some x) (E.subc rfl (E.subc rfl (E.subc rfl (E.subc rfl E.subn)))) (by first | exact ⟨it, b4, hB.no hks, L⟩ | exact ⟨it, b4, hB.first hx hks, L⟩ | exact ⟨it, b4, hB.more hx hks h28, L⟩ | exact ⟨it, b4, hB.less hx h28, L⟩ | fail) hn'
        · replace h28 : ¬ b0.t < x.t := h28
          refine E.GL.run rfl rfl rfl (E.Runs.pick_f rfl rfl rfl) ?_
          refine E.GL.run rfl rfl rfl (E.Runs.pick_t rfl rfl rfl) ?_
          refine E.GL.done ?_
          refine E.QG.code ?_
          refine E.CG.cond_f rfl ?_
          refine E.CG.skip ?_
          refine E.QG.block_normal ?_
          exact E.QG.round2 (d := ([], none)) n' (S ++ [k], some b0) (E.subc rfl (E.subc rfl (E.subc rfl (E.subc rfl E.subn)))) (by first | exact ⟨it, b4, hB.no hks, L⟩ | exact ⟨it, b4, hB.first hx hks, L⟩ | exact ⟨it, b4, hB.more hx hks h28, L⟩ | exact ⟨it, b4, hB.less hx h28, L⟩ | fail) hn'
    · have hks : ¬ k &&& s = s := by omega
      refine E.GL.run rfl rfl rfl (E.Runs.move rfl rfl) ?_
      refine E.GL.skip rfl rfl rfl ?_
      refine E.GL.skip rfl rfl rfl ?_
      refine E.GL.skip rfl rfl rfl ?_
      refine E.GL.skip rfl rfl rfl ?_
      refine E.GL.skip rfl rfl rfl ?_
      refine E.GL.skip rfl rfl rfl ?_
      refine E.GL.skip rfl rfl rfl ?_
      refine E.GL.skip rfl rfl rfl ?_
      refine E.GL.skip rfl rfl rfl ?_
      refine E.GL.run rfl rfl rfl (E.Runs.pick_f rfl rfl rfl) ?_
      refine E.GL.done ?_
      refine E.QG.code ?_
      refine E.CG.cond_f rfl ?_
      refine E.CG.skip ?_
      refine E.QG.block_normal ?_
      exact E.QG.round2 (d := ([], none)) n' (S ++ [k], cur) (E.subc rfl (E.subc rfl (E.subc rfl (E.subc rfl E.subn)))) (by first | exact ⟨it, b4, hB.no hks, L⟩ | exact ⟨it, b4, hB.first hx hks, L⟩ | exact ⟨it, b4, hB.more hx hks h28, L⟩ | exact ⟨it, b4, hB.less hx h28, L⟩ | fail) hn'

end Go.Proofs.Ytdiambcjghlffaa.T
namespace Go.Proofs.Ytdiambcjghlffaa.T
open Go.RowKit Go.Proofs.YtdiambcjghlffaaW.PrintWords Go.Proofs.YtdiambcjghlffaaW.PrintMore
open Go.Proofs.Ytdiambcjghlffaa.P
set_option linter.unusedVariables false
set_option linter.unusedSimpArgs false

theorem QG_result_tct {P : Program} {N : Nat} {w : World} {env : E.Env} {fn : Func} {R : Ending → World → Prop} {p u v : Tmp} {ty t : TypeId} {g : Nat} {cs : Array Value} {d : TypeDesc} {x y : Value} (hf : fn.results = #[.tmp u, .cell p ty, .tmp v]) (hp : E.look env p = some (.pointer (some ⟨g, 0, none⟩))) (hg : w.heap[g]? = some (.cells cs t (0, 0)))
    (hu : P.underlying ty = some d) (hd : (match d with | .struct _ | .array _ _ => true | _ => false) = true) (hi : (P.info? ty).map (·.size) = some cs.size) (hx : E.look env u = some x) (hy : E.look env v = some y) (h : R (.returned (.tuple #[x, .agg cs, y])) w) : E.QG (bodyPost P fn R) .ret N env w := by
  intro a ha
  refine ⟨ha.defers, .tuple #[x, .agg cs, y], ?_, h⟩
  have e1 : a.tmps.getD p undef = .pointer (some ⟨g, 0, none⟩) := ha.eval (x := .tmp p) hp
  have hp' : a.tmps[p]?.getD undef = .pointer (some ⟨g, 0, none⟩) := by simpa using e1
  have e2 : a.tmps[u]?.getD undef = x := by
    have e4 : a.tmps.getD u undef = x := ha.eval (x := .tmp u) hx
    simpa using e4
  have e3 : a.tmps[v]?.getD undef = y := by
    have e5 : a.tmps.getD v undef = y := ha.eval (x := .tmp v) hy
    simpa using e5
  simp [results, hf, hp', e2, e3, asAddr, run_loadVar_row w g t ty cs (0, 0) d hg hu hd hi]
set_option maxRecDepth 100000 in
theorem build62z (W : World) : (Instr.build 62 #[]).run Try.prog W = .ok (.agg #[.slice none 0 0, .int .i64 0]) W := by
  have hu3 := Try.underlying3
  have hu22 := Try.underlying22
  have hu62 := Try.underlying62
  go_simp
theorem mt_off {w : World} {g x t : Nat} {f : Nat → Option Bh} {cs : Array Value} (h : MT w g f) (hb : w.heap[x]? = some (.cells cs t (0, 0))) : some g ≠ some x := fun e => by
  injection e with e
  obtain ⟨es, cl, l, h1, _⟩ := h
  rw [e, hb] at h1
  cases h1
theorem allS_lt {V : Wk} (ok : Shp V) : allS V < 256 := by
  have := pow_8 ok.ds
  unfold allS
  omega
theorem tb_key {V : Wk} {f : Nat → Option Bh} {q : Nat → List Int} {xs : List (List Int)} (ok : Shp V) (h : TbOk V xs f q) : ∀ k b, f k = some b → k < 256 := fun k b hk => by
  have := (h.2 k b hk).2.1
  rw [← this]
  exact mask_lt ok.ds _
theorem of_mx {V : Wk} {f : Nat → Option Bh} {q : Nat → List Int} {s : Nat} {c : Option Bh} (h : TbOk V ((List.range (nP V)).map (pr V)) f q) (ho : OfOk f s c) : IsMx V s (c.map (·.t)) := by
  cases c with
  | none => exact tb_none h ho
  | some b =>
    obtain ⟨k, h1, h2, h3⟩ := ho
    exact (tb_some h h1 h2 h3).1
def errN (c : Bool) : Int := if c then 0 else 3
/-- What search finds. -/
def SrOk (w : World) (V : Wk) (t : Value) (c : Option Bh) (e : Int) : Prop :=
  (¬ WOk V ∧ t = .map none ∧ c = none ∧ e = chk V) ∨ (WOk V ∧ ∃ g f q, t = .map (some g) ∧ MT w g f ∧ TbOk V ((List.range (nP V)).map (pr V)) f q ∧ TbRows w f q ∧ OfOk f (allS V) c ∧ e = errN c.isSome)
theorem SrOk.below {w w' : World} {V : Wk} {t : Value} {c : Option Bh} {e : Int} (h : SrOk w V t c e) (l : Below w.heap.size w w') : SrOk w' V t c e := by
  rcases h with h | ⟨h, g, f, q, h1, h2, h3, h4, h5, h6⟩
  · exact .inl h
  · exact .inr ⟨h, g, f, q, h1, h2.below l, h3, h4.below l, h5, h6⟩
/-- The greatest takings, or an error. -/
def MostOk (V : Wk) (n e : Int) : Prop := (¬ WOk V ∧ n = 0 ∧ e = chk V) ∨ (WOk V ∧ ∃ r, IsMx V (allS V) r ∧ n = r.getD 0 ∧ e = errN r.isSome)
theorem SrOk.most {w : World} {V : Wk} {t : Value} {c : Option Bh} {e : Int} (h : SrOk w V t c e) : MostOk V (c.getD b00).t e := by
  rcases h with ⟨h1, _, rfl, h4⟩ | ⟨h, g, f, q, h1, h2, h3, h4, h5, h6⟩
  · exact .inl ⟨h1, rfl, h4⟩
  · exact .inr ⟨h, _, of_mx h3 h5, by cases c <;> rfl, by rw [h6]; cases c <;> rfl⟩
theorem chk_ne {V : Wk} (h : ¬ WOk V) : chk V ≠ 0 := fun e => h (chk_ok.mp e)
set_option maxRecDepth 100000 in
set_option maxHeartbeats 8000000 in

theorem search_calls (V : Wk) (m : Wa) (w : World) (hV : WM w V m) (hs : Sz V) :
    Calls Try.prog 37 #[wv V m] w fun e w' => ∃ t c er, e = .returned (.tuple #[t, bhV (c.getD b00), .int .i64 er]) ∧ SrOk w' V t c er ∧ Below w.heap.size w w' := by
  have hu3 := Try.underlying3
  have hu22 := Try.underlying22
  have hu26 := Try.underlying26
  have hu30 := Try.underlying30
  have hu60 := Try.underlying60
  have hu62 := Try.underlying62
  have hu66 := Try.underlying66
  obtain ⟨z3, o3⟩ := info_some info3s (by decide)
  obtain ⟨z60, o60⟩ := info_some info60s (by decide)
  obtain ⟨z62, o62⟩ := info_some info62s (by decide)
  refine E.enter (N := 30) Try.func37 rfl Try.ntmps37 (args := [wv V m]) (by simp) ?_
  have L := Below.refl w.heap.size w
  refine E.CG.seq ?_
  refine E.CG.list ?_
  refine E.GL.st rfl rfl rfl (E.ST.box rfl rfl fun g1 w1 e1 b1 l1 => ?_)
  have h1_L : w.heap.size ≤ g1 := by rw [e1]; exact L.size
  replace L := below_step L l1
  refine E.GL.run rfl rfl rfl (E.Runs.assign rfl rfl) ?_
  refine E.GL.st rfl rfl rfl (E.ST.alloc rfl info62z fun g3 w3 e3 b3 l3 => ?_)
  have h3_L : w.heap.size ≤ g3 := by rw [e3]; exact L.size
  have n3_b1 : g1 ≠ g3 := by have := blk_lt b1; omega
  replace b1 := blk_below b1 l3
  replace L := below_step L l3
  refine E.GL.run rfl rfl rfl (E.Runs.assign rfl rfl) ?_
  refine E.GL.done ?_
  refine E.QG.code ?_
  refine E.CG.seq ?_
  refine E.CG.seq ?_
  refine E.CG.list ?_
  refine E.GL.run rfl rfl rfl (E.Runs.loads (cs := [.int .i64 V.d, .slice m.A V.rs.length m.a, .int .i64 V.h, .slice m.B V.fs.length m.b, .slice m.C V.ds.length m.c]) rfl rfl hu26 rfl info26s (blk_cells b1)) ?_
  refine E.GL.st rfl rfl rfl (E.ST.call rfl ent31 (E.evc rfl E.evn) ((check_o V m _ (hV.below L) hs).mono ?_))
  rintro e w10 ⟨rfl, l10⟩
  refine ⟨_, rfl, ?_⟩
  replace b1 := blk_below b1 l10
  replace b3 := blk_below b3 l10
  replace L := below_step L l10
  refine E.GL.run rfl rfl rfl (E.Runs.assign rfl rfl) ?_
  refine E.GL.done ?_
  refine E.QG.code ?_
  refine E.CG.seq ?_
  refine E.CG.list ?_
  refine E.GL.run rfl rfl rfl (E.Runs.move rfl rfl) ?_
  refine E.GL.cmpn rfl rfl rfl (fun _ h => (E.Runs.neq rfl rfl rfl h)) (fun h12 => ?_) (fun h12 => ?_)
  · have nok : ¬ WOk V := fun k => absurd (chk_ok.mpr k) (by omega)
    refine E.GL.done ?_
    refine E.QG.code ?_
    refine E.CG.cond_t rfl ?_
    refine E.CG.seq ?_
    refine E.CG.list ?_
    refine E.GL.run rfl rfl rfl (E.Runs.build rfl E.epn build62z) ?_
    refine E.GL.run rfl rfl rfl (E.Runs.move rfl rfl) ?_
    refine E.GL.run rfl rfl rfl (E.Runs.assign rfl rfl) ?_
    refine E.GL.store_whole rfl rfl rfl rfl rfl b3 rfl info62s (best_one _ _ _ _) fun wS3_3 c3 lS3_3 => ?_
    replace b1 := blk_grown b1 lS3_3 (E.nes (by first | assumption | exact Ne.symm (by assumption)))
    replace L := E.below_own L h3_L lS3_3
    replace b3 := c3
    clear c3
    refine E.GL.run rfl rfl rfl (E.Runs.assign rfl rfl) ?_
    refine E.GL.done ?_
    refine E.QG.code ?_
    refine E.CG.ret ?_
    refine E.QG.pass_ret ?_
    exact QG_result_tct rfl rfl b3 hu62 rfl info62s rfl rfl ⟨_, none, _, rfl, .inl ⟨nok, rfl, rfl, rfl⟩, L⟩
  · have ok := chk_ok.mp (show chk V = 0 by omega)
    refine E.GL.done ?_
    refine E.QG.code ?_
    refine E.CG.cond_f rfl ?_
    refine E.CG.skip ?_
    refine E.QG.code ?_
    refine E.CG.seq ?_
    refine E.CG.list ?_
    refine E.GL.run rfl rfl rfl (E.Runs.loads (cs := [.int .i64 V.d, .slice m.A V.rs.length m.a, .int .i64 V.h, .slice m.B V.fs.length m.b, .slice m.C V.ds.length m.c]) rfl rfl hu26 rfl info26s (blk_cells b1)) ?_
    refine E.GL.st rfl rfl rfl (E.ST.call rfl ent60 (E.evc rfl E.evn) ((tabled_calls V m _ ok (hV.below L)).mono ?_))
    rintro e w16 ⟨g16, f, q, rfl, hM, hT, hR, l16⟩
    refine ⟨_, rfl, ?_⟩
    replace b1 := blk_below b1 l16
    replace b3 := blk_below b3 l16
    replace L := below_step L l16
    have K := Below.refl w16.heap.size w16
    replace hR : TbRows _ f q := hR
    refine E.GL.run rfl rfl rfl (E.Runs.assign rfl rfl) ?_
    refine E.GL.done ?_
    refine E.QG.code ?_
    refine E.CG.seq ?_
    refine E.CG.list ?_
    refine E.GL.run rfl rfl rfl (E.Runs.move rfl rfl) ?_
    refine E.GL.run rfl rfl rfl (E.Runs.loads (cs := [.int .i64 V.d, .slice m.A V.rs.length m.a, .int .i64 V.h, .slice m.B V.fs.length m.b, .slice m.C V.ds.length m.c]) rfl rfl hu26 rfl info26s (blk_cells b1)) ?_
    refine E.GL.st rfl rfl rfl (E.ST.call rfl ent39 (E.evc rfl E.evn) ((all_calls V m _ ok.s.ds).mono ?_))
    rintro e w20 ⟨rfl, l20⟩
    refine ⟨_, rfl, ?_⟩
    replace b1 := blk_below b1 l20
    replace b3 := blk_below b3 l20
    replace L := below_step L l20
    replace K := below_step K l20
    refine E.GL.st rfl rfl rfl (E.ST.call rfl ent40 (E.evc rfl (E.evc rfl E.evn)) ((of_calls g16 f (allS V) _ (hM.below K) (tb_key ok.s hT) (allS_lt ok.s)).mono ?_))
    rintro e w21 ⟨c, rfl, hO, l21⟩
    refine ⟨_, rfl, ?_⟩
    replace b1 := blk_below b1 l21
    replace b3 := blk_below b3 l21
    replace L := below_step L l21
    replace K := below_step K l21
    refine E.GL.run rfl rfl rfl (E.Runs.move rfl rfl) ?_
    refine E.GL.run rfl rfl rfl (E.Runs.extract rfl rfl rfl) ?_
    rcases c with _ | b0
    · refine E.GL.run rfl rfl rfl (E.Runs.extract rfl rfl rfl) ?_
      refine E.GL.st rfl rfl rfl (E.ST.alloc rfl info62z fun g7 w7 e7 b7 l7 => ?_)
      have h7_L : w.heap.size ≤ g7 := by rw [e7]; exact L.size
      have h7_K : w16.heap.size ≤ g7 := by rw [e7]; exact K.size
      have n7_b1 : g1 ≠ g7 := by have := blk_lt b1; omega
      have n7_b3 : g3 ≠ g7 := by have := blk_lt b3; omega
      replace b1 := blk_below b1 l7
      replace b3 := blk_below b3 l7
      replace L := below_step L l7
      replace K := below_step K l7
      refine E.GL.store_whole rfl rfl rfl rfl rfl b7 rfl info62s (best_one _ _ _ _) fun wS5_8 c7 lS5_8 => ?_
      replace b1 := blk_grown b1 lS5_8 (E.nes (by first | assumption | exact Ne.symm (by assumption)))
      replace b3 := blk_grown b3 lS5_8 (E.nes (by first | assumption | exact Ne.symm (by assumption)))
      replace L := E.below_own L h7_L lS5_8
      replace K := E.below_own K h7_K lS5_8
      replace b7 := c7
      clear c7
      refine E.GL.run rfl rfl rfl (E.Runs.assign rfl rfl) ?_
      refine E.GL.done ?_
      refine E.QG.code ?_
      refine E.CG.seq ?_
      refine E.CG.seq ?_
      refine E.CG.list ?_
      refine E.GL.run rfl rfl rfl (E.Runs.move rfl rfl) ?_
      refine E.GL.run rfl rfl rfl (E.Runs.not rfl rfl) ?_
      refine E.GL.done ?_
      refine E.QG.code ?_
      refine E.CG.cond_t rfl ?_
      refine E.CG.seq ?_
      refine E.CG.list ?_
      refine E.GL.run rfl rfl rfl (E.Runs.move rfl rfl) ?_
      refine E.GL.run rfl rfl rfl (E.Runs.build rfl E.epn build62z) ?_
      refine E.GL.run rfl rfl rfl (E.Runs.assign rfl rfl) ?_
      have hM1 := hM.below K
      have hR1 := hR.below K
      have b3o := b3
      refine E.GL.store_whole rfl rfl rfl rfl rfl b3 rfl info62s (best_one _ _ _ _) fun wS7_3 c3 lS7_3 => ?_
      replace b1 := blk_grown b1 lS7_3 (E.nes (by first | assumption | exact Ne.symm (by assumption)))
      replace b7 := blk_grown b7 lS7_3 (E.nes (by first | assumption | exact Ne.symm (by assumption)))
      replace L := E.below_own L h3_L lS7_3
      replace b3 := c3
      clear c3
      refine E.GL.run rfl rfl rfl (E.Runs.assign rfl rfl) ?_
      refine E.GL.done ?_
      refine E.QG.code ?_
      refine E.CG.ret ?_
      refine E.QG.pass_ret ?_
      exact QG_result_tct rfl rfl b3 hu62 rfl info62s rfl rfl ⟨_, none, _, rfl, .inr ⟨ok, g16, f, q, rfl, hM1.grown lS7_3 (mt_off hM1 b3o), hT, hR1.grown lS7_3 b3o (by decide), hO, rfl⟩, L⟩
    · refine E.GL.run rfl rfl rfl (E.Runs.extract rfl rfl rfl) ?_
      refine E.GL.st rfl rfl rfl (E.ST.alloc rfl info62z fun g7 w7 e7 b7 l7 => ?_)
      have h7_L : w.heap.size ≤ g7 := by rw [e7]; exact L.size
      have h7_K : w16.heap.size ≤ g7 := by rw [e7]; exact K.size
      have n7_b1 : g1 ≠ g7 := by have := blk_lt b1; omega
      have n7_b3 : g3 ≠ g7 := by have := blk_lt b3; omega
      replace b1 := blk_below b1 l7
      replace b3 := blk_below b3 l7
      replace L := below_step L l7
      replace K := below_step K l7
      refine E.GL.store_whole rfl rfl rfl rfl rfl b7 rfl info62s (best_one _ _ _ _) fun wS5_8 c7 lS5_8 => ?_
      replace b1 := blk_grown b1 lS5_8 (E.nes (by first | assumption | exact Ne.symm (by assumption)))
      replace b3 := blk_grown b3 lS5_8 (E.nes (by first | assumption | exact Ne.symm (by assumption)))
      replace L := E.below_own L h7_L lS5_8
      replace K := E.below_own K h7_K lS5_8
      replace b7 := c7
      clear c7
      refine E.GL.run rfl rfl rfl (E.Runs.assign rfl rfl) ?_
      refine E.GL.done ?_
      refine E.QG.code ?_
      refine E.CG.seq ?_
      refine E.CG.seq ?_
      refine E.CG.list ?_
      refine E.GL.run rfl rfl rfl (E.Runs.move rfl rfl) ?_
      refine E.GL.run rfl rfl rfl (E.Runs.not rfl rfl) ?_
      refine E.GL.done ?_
      refine E.QG.code ?_
      refine E.CG.cond_f rfl ?_
      refine E.CG.skip ?_
      refine E.QG.code ?_
      refine E.CG.seq ?_
      refine E.CG.heldH (some g3) (by kernel_rfl) fun v8 lD hh => ?_
      replace b1 := blk_below b1 lD
      replace b3 := blk_below b3 lD
      replace b7 := blk_below b7 lD
      replace L := below_step L lD
      replace K := below_step K lD
      clear lD
      have s_b1 := b1
      have s_b3 := b3
      have s_b7 := b7
      have s_L := L
      have s_K := K
      refine E.GH.take (i := 0) rfl (by kernel_rfl) (by kernel_rfl) (by kernel_rfl) (by intro c a d v w h; first | (cases d <;> exact h) | exact nomatch (show _ ∧ _ from h).1) rfl rfl rfl (fun w' hS => (E.Runs.move rfl rfl)) ?_
      refine E.GH.take (i := 1) rfl (by kernel_rfl) (by kernel_rfl) (by kernel_rfl) (by intro c a d v w h; first | (cases d <;> exact h) | exact nomatch (show _ ∧ _ from h).1) rfl rfl rfl (fun w' hS => (E.Runs.loads (cs := [.slice b0.A b0.n b0.c, .int .i64 b0.t]) rfl rfl hu62 rfl info62s (blk_cells (blk_grown s_b7 hS (E.nes (by first | assumption | exact Ne.symm (by assumption))))))) ?_
      refine E.GH.take (i := 2) rfl (by kernel_rfl) (by kernel_rfl) (by kernel_rfl) (by intro c a d v w h; first | (cases d <;> exact h) | exact nomatch (show _ ∧ _ from h).1) rfl rfl rfl (fun w' hS => (E.Runs.assign rfl rfl)) ?_
      have hM1 := hM.below K
      have hR1 := hR.below K
      have b3o := b3
      refine E.GH.one (i := 3) (by kernel_rfl) rfl ?_
      refine E.GO.sn rfl rfl (E.ST.storeS (off := 0) (cells := [.slice b0.A b0.n b0.c, .int .i64 b0.t]) rfl rfl rfl b3 rfl info62s (best_one _ _ _ _) rfl fun wS8_3 c3 lS8_3 => ⟨hh.trans lS8_3, ?_⟩)
      replace hh := hh.trans lS8_3
      replace b1 := blk_grown b1 lS8_3 (E.nes (by first | assumption | exact Ne.symm (by assumption)))
      replace b7 := blk_grown b7 lS8_3 (E.nes (by first | assumption | exact Ne.symm (by assumption)))
      replace L := E.below_own L h3_L lS8_3
      replace b3 := c3
      clear c3
      refine E.GH.take (i := 4) rfl (by kernel_rfl) (by kernel_rfl) (by kernel_rfl) (by intro c a d v w h; first | (cases d <;> exact h) | exact nomatch (show _ ∧ _ from h).1) rfl rfl rfl (fun w' hS => (E.Runs.assign rfl rfl)) ?_
      refine E.GH.done (by kernel_rfl) ?_
      refine E.QG.code ?_
      refine E.CG.ret ?_
      exact QG_result_tct rfl rfl b3 hu62 rfl info62s rfl rfl ⟨_, some b0, _, rfl, .inr ⟨ok, g16, f, q, rfl, hM1.grown lS8_3 (mt_off hM1 b3o), hT, hR1.grown lS8_3 b3o (by decide), hO, rfl⟩, L⟩

set_option maxRecDepth 100000 in
set_option maxHeartbeats 8000000 in

theorem most_calls (V : Wk) (m : Wa) (w : World) (hV : WM w V m) (hs : Sz V) :
    Calls Try.prog 15 #[wv V m] w fun e w' => ∃ n er, e = .returned (.tuple #[.int .i64 n, .int .i64 er]) ∧ MostOk V n er ∧ Below w.heap.size w w' := by
  have hu3 := Try.underlying3
  have hu22 := Try.underlying22
  have hu26 := Try.underlying26
  have hu30 := Try.underlying30
  have hu60 := Try.underlying60
  have hu62 := Try.underlying62
  have hu63 := Try.underlying63
  obtain ⟨z3, o3⟩ := info_some info3s (by decide)
  obtain ⟨z22, o22⟩ := info_some info22s (by decide)
  obtain ⟨z62, o62⟩ := info_some info62s (by decide)
  refine E.enter (N := 16) Try.func15 rfl Try.ntmps15 (args := [wv V m]) (by simp) ?_
  have L := Below.refl w.heap.size w
  refine E.CG.seq ?_
  refine E.CG.list ?_
  refine E.GL.st rfl rfl rfl (E.ST.box rfl rfl fun g1 w1 e1 b1 l1 => ?_)
  have h1_L : w.heap.size ≤ g1 := by rw [e1]; exact L.size
  replace L := below_step L l1
  refine E.GL.run rfl rfl rfl (E.Runs.assign rfl rfl) ?_
  refine E.GL.run rfl rfl rfl (E.Runs.assign rfl rfl) ?_
  refine E.GL.done ?_
  refine E.QG.code ?_
  refine E.CG.seq ?_
  refine E.CG.list ?_
  refine E.GL.run rfl rfl rfl (E.Runs.loads (cs := [.int .i64 V.d, .slice m.A V.rs.length m.a, .int .i64 V.h, .slice m.B V.fs.length m.b, .slice m.C V.ds.length m.c]) rfl rfl hu26 rfl info26s (blk_cells b1)) ?_
  refine E.GL.st rfl rfl rfl (E.ST.call rfl ent37 (E.evc rfl E.evn) ((search_calls V m _ (hV.below L) hs).mono ?_))
  rintro e w9 ⟨t, c, er, rfl, hS, l9⟩
  refine ⟨_, rfl, ?_⟩
  replace b1 := blk_below b1 l9
  replace L := below_step L l9
  have K := Below.refl w9.heap.size w9
  refine E.GL.run rfl rfl rfl (E.Runs.move rfl rfl) ?_
  refine E.GL.run rfl rfl rfl (E.Runs.extract rfl rfl rfl) ?_
  refine E.GL.run rfl rfl rfl (E.Runs.extract rfl rfl rfl) ?_
  refine E.GL.run rfl rfl rfl (E.Runs.extract rfl rfl rfl) ?_
  refine E.GL.st rfl rfl rfl (E.ST.alloc rfl info62z fun g5 w5 e5 b5 l5 => ?_)
  have h5_L : w.heap.size ≤ g5 := by rw [e5]; exact L.size
  have h5_K : w9.heap.size ≤ g5 := by rw [e5]; exact K.size
  have n5_b1 : g1 ≠ g5 := by have := blk_lt b1; omega
  replace b1 := blk_below b1 l5
  replace L := below_step L l5
  replace K := below_step K l5
  refine E.GL.run rfl rfl rfl (E.Runs.assign rfl rfl) ?_
  refine E.GL.store_whole rfl rfl rfl rfl rfl b5 rfl info62s (best_one _ _ _ _) fun wS1_8 c5 lS1_8 => ?_
  replace b1 := blk_grown b1 lS1_8 (E.nes (by first | assumption | exact Ne.symm (by assumption)))
  replace L := E.below_own L h5_L lS1_8
  replace K := E.below_own K h5_K lS1_8
  replace b5 := c5
  clear c5
  refine E.GL.run rfl rfl rfl (E.Runs.assign rfl rfl) ?_
  refine E.GL.done ?_
  refine E.QG.code ?_
  refine E.CG.seq ?_
  refine E.CG.list ?_
  refine E.GL.run rfl rfl rfl (E.Runs.fieldAddr rfl rfl hu62 rfl (by assumption) rfl) ?_
  refine E.GL.run rfl rfl rfl (E.Runs.load rfl rfl hu3 (by first | assumption | exact E.blkc (by assumption) rfl | exact pw_cell_below L (by assumption) | exact pw_cell_below K (by assumption))) ?_
  refine E.GL.run rfl rfl rfl (E.Runs.move rfl rfl) ?_
  refine E.GL.run rfl rfl rfl (E.Runs.assign rfl rfl) ?_
  refine E.GL.run rfl rfl rfl (E.Runs.assign rfl rfl) ?_
  refine E.GL.done ?_
  refine E.QG.code ?_
  refine E.CG.ret ?_
  exact E.QG.result2 rfl rfl rfl ⟨_, _, rfl, hS.most, L⟩

end Go.Proofs.Ytdiambcjghlffaa.T
namespace Go.Proofs.Ytdiambcjghlffaa.T
open Go.RowKit Go.Proofs.YtdiambcjghlffaaW.PrintWords Go.Proofs.YtdiambcjghlffaaW.PrintMore
open Go.Proofs.Ytdiambcjghlffaa.P
set_option linter.unusedVariables false
set_option linter.unusedSimpArgs false
theorem bf_irr (a : List Int) : ¬ Bf a a := by
  rintro (h | ⟨_, i, x, y, h1, h2, h3, _⟩)
  · omega
  · rw [h1] at h2
    injection h2 with h2
    omega
theorem bf_trans {a b c : List Int} (h : Bf a b) (k : Bf b c) : Bf a c := by
  rcases h with h | ⟨hl, i, x, y, h1, h2, h3, h4⟩
  · rcases k with k | ⟨kl, _⟩
    · exact .inl (by omega)
    · exact .inl (by omega)
  · rcases k with k | ⟨kl, j, y', z, k1, k2, k3, k4⟩
    · exact .inl (by omega)
    · refine .inr ⟨by omega, ?_⟩
      rcases Nat.lt_trichotomy i j with e | e | e
      · exact ⟨i, x, y, h1, by rw [← k4 i e]; exact h2, h3, fun q hq => (h4 q hq).trans (k4 q (by omega))⟩
      · subst e
        rw [h2] at k1
        injection k1 with k1
        exact ⟨i, x, z, h1, k2, by omega, fun q hq => (h4 q hq).trans (k4 q hq)⟩
      · exact ⟨j, y', z, by rw [h4 j e]; exact k1, k2, k3, fun q hq => (h4 q (by omega)).trans (k4 q hq)⟩
theorem bf_total {a b : List Int} (h : ¬ Bf a b) (k : ¬ Bf b a) : a = b := by
  have hl : a.length = b.length := by
    have h1 : ¬ a.length < b.length := fun q => h (.inl q)
    have h2 : ¬ b.length < a.length := fun q => k (.inl q)
    omega
  have key : ∀ n : Nat, ∀ j : Nat, j < n → a[j]? = b[j]? := by
    intro n
    induction n with
    | zero => intro j hj; omega
    | succ n ih =>
      intro j hj
      by_cases e : j < n
      · exact ih j e
      · obtain rfl : j = n := by omega
        by_cases hj2 : j < a.length
        · obtain ⟨x, hx⟩ := get_ex hj2
          obtain ⟨y, hy⟩ := get_ex (show j < b.length by omega)
          rw [hx, hy]
          rcases Int.lt_trichotomy x y with e2 | e2 | e2
          · exact absurd (.inr ⟨hl, j, x, y, hx, hy, e2, ih⟩) h
          · rw [e2]
          · exact absurd (.inr ⟨hl.symm, j, y, x, hy, hx, e2, fun q hq => (ih q hq).symm⟩) k
        · rw [List.getElem?_eq_none (by omega), List.getElem?_eq_none (by omega)]
  exact List.ext_getElem? fun j => key (j + 1) j (by omega)
theorem elN_ne {s : Nat} (hs : s < 256) (h0 : s ≠ 0) : elN s 8 ≠ [] := by
  intro h
  unfold elN at h
  have h1 : ∀ i, i < 8 → ¬ s / 2 ^ i % 2 = 1 := by
    intro i hi hb
    have hm : (i : Int) ∈ ((List.range 8).filter (fun i => decide (s / 2 ^ i % 2 = 1))).map (fun (i : Nat) => (i : Int)) := List.mem_map.mpr ⟨i, List.mem_filter.mpr ⟨List.mem_range.mpr hi, by simpa using hb⟩, rfl⟩
    rw [h] at hm
    cases hm
  have a0 := h1 0 (by decide)
  have a1 := h1 1 (by decide)
  have a2 := h1 2 (by decide)
  have a3 := h1 3 (by decide)
  have a4 := h1 4 (by decide)
  have a5 := h1 5 (by decide)
  have a6 := h1 6 (by decide)
  have a7 := h1 7 (by decide)
  simp only [Nat.reducePow] at a0 a1 a2 a3 a4 a5 a6 a7
  omega
/-- Some program keeps no deal at all. -/
theorem mx_zero {V : Wk} : ¬ IsMx V 0 none := fun h => h (pr V 0) (pr_ok V 0) (fun i hi => by simp at hi)
theorem IsMx.not {V : Wk} {s : Nat} {r : Int} (h : IsMx V s (some r)) : ¬ IsMx V s none := fun k => nomatch h.one k
/-- A lesser set is kept by more. -/
theorem Kp.sub {V : Wk} {s s' : Nat} {p : List Int} (h : Kp V s p) (hs : ∀ i, s'.testBit i = true → s.testBit i = true) : Kp V s' p := fun i hi => h i (hs i hi)
/-- The least set that no program keeps, of the sets before n. -/
def LsO (V : Wk) (n : Nat) : Option (List Int) → Prop
  | none => ∀ s, s < n → ¬ IsMx V s none
  | some l => (∃ s, s < n ∧ s < 256 ∧ IsMx V s none ∧ l = elN s 8) ∧ ∀ s, s < n → IsMx V s none → ¬ Bf (elN s 8) l
section
variable {V : Wk} {n : Nat} {o : Option (List Int)} {l : List Int}
theorem LsO.skip (h : LsO V n o) (hn : ¬ IsMx V n none) : LsO V (n + 1) o := by
  have key : ∀ s, s < n + 1 → IsMx V s none → s < n := fun s hs k => by
    rcases Nat.lt_or_ge s n with q | q
    · exact q
    · obtain rfl : s = n := by omega
      exact absurd k hn
  cases o with
  | none => exact fun s hs k => h s (key s hs k) k
  | some l =>
    obtain ⟨⟨s, h1, h2, h3, h4⟩, h5⟩ := h
    exact ⟨⟨s, by omega, h2, h3, h4⟩, fun s' hs' k => h5 s' (key s' hs' k) k⟩
theorem LsO.first (h : LsO V n none) (h8 : n < 256) (hn : IsMx V n none) : LsO V (n + 1) (some (elN n 8)) := by
  refine ⟨⟨n, by omega, h8, hn, rfl⟩, fun s hs k => ?_⟩
  rcases Nat.lt_or_ge s n with q | q
  · exact absurd k (h s q)
  · obtain rfl : s = n := by omega
    exact bf_irr _
theorem LsO.put (h : LsO V n (some l)) (h8 : n < 256) (hn : IsMx V n none) (hb : Bf (elN n 8) l) : LsO V (n + 1) (some (elN n 8)) := by
  refine ⟨⟨n, by omega, h8, hn, rfl⟩, fun s hs k => ?_⟩
  rcases Nat.lt_or_ge s n with q | q
  · exact fun e => h.2 s q k (bf_trans e hb)
  · obtain rfl : s = n := by omega
    exact bf_irr _
theorem LsO.keep (h : LsO V n (some l)) (hb : ¬ Bf (elN n 8) l) : LsO V (n + 1) (some l) := by
  obtain ⟨⟨s, h1, h2, h3, h4⟩, h5⟩ := h
  refine ⟨⟨s, by omega, h2, h3, h4⟩, fun s' hs' k => ?_⟩
  rcases Nat.lt_or_ge s' n with q | q
  · exact h5 s' q k
  · obtain rfl : s' = n := by omega
    exact hb
theorem LsO.ne (h : LsO V n (some l)) : l ≠ [] := by
  obtain ⟨⟨s, h1, h2, h3, h4⟩, h5⟩ := h
  rw [h4]
  exact elN_ne h2 fun e => by subst e; exact mx_zero h3
theorem LsO.one {r : Option (List Int)} (h : LsO V n o) (k : LsO V n r) : o = r := by
  cases o with
  | none => cases r with
    | none => rfl
    | some l => obtain ⟨⟨s, h1, h2, h3, h4⟩, _⟩ := k; exact absurd h3 (h s h1)
  | some l => cases r with
    | none => obtain ⟨⟨s, h1, h2, h3, h4⟩, _⟩ := h; exact absurd h3 (k s h1)
    | some l' =>
      obtain ⟨⟨s, h1, h2, h3, h4⟩, h5⟩ := h
      obtain ⟨⟨s', k1, k2, k3, k4⟩, k5⟩ := k
      rw [bf_total (a := l) (b := l') (by rw [h4]; exact k5 s h1 h3) (by rw [k4]; exact h5 s' k1 k3)]
end
/-- What Clash answers. -/
def ClOk (V : Wk) (l : List Int) (e : Int) : Prop := (¬ WOk V ∧ l = [] ∧ e = chk V) ∨ (WOk V ∧ (∃ r, IsMx V (allS V) (some r)) ∧ l = [] ∧ e = 3) ∨ (WOk V ∧ IsMx V (allS V) none ∧ LsO V (allS V + 1) (some l) ∧ e = 0)
/-- All deals without one. -/
def woS (V : Wk) (d : Nat) : Nat := allS V &&& (allS V ^^^ 2 ^ d)
/-- What Cost answers. -/
def CoOk (V : Wk) (d n e : Int) : Prop := (¬ WOk V ∧ n = 0 ∧ e = chk V) ∨ (WOk V ∧ ¬ inR d 0 (V.ds.length - 1) ∧ n = 0 ∧ e = 1) ∨
  (WOk V ∧ inR d 0 (V.ds.length - 1) ∧ IsMx V (allS V) none ∧ n = 0 ∧ e = 3) ∨ (WOk V ∧ inR d 0 (V.ds.length - 1) ∧ ∃ a b, IsMx V (allS V) (some a) ∧ IsMx V (woS V d.toNat) (some b) ∧ n = b - a ∧ e = 0)
theorem chk_two {V : Wk} (h : ¬ WOk V) : chk V = 50 ∨ chk V = 51 := by
  have := chk_ne h
  unfold chk at this ⊢
  split at this
  · split at this
    · exact absurd rfl this
    · next a b => rw [if_pos a, if_neg b]; exact .inr rfl
  · next a => rw [if_neg a]; exact .inl rfl
theorem MostOk.one {V : Wk} {n e n' e' : Int} (h : MostOk V n e) (k : MostOk V n' e') : n = n' ∧ e = e' := by
  rcases h with ⟨h1, h2, h3⟩ | ⟨h1, r, h2, h3, h4⟩
  · rcases k with ⟨k1, k2, k3⟩ | ⟨k1, _⟩
    · exact ⟨by omega, by omega⟩
    · exact absurd k1 h1
  · rcases k with ⟨k1, k2, k3⟩ | ⟨k1, q, k2, k3, k4⟩
    · exact absurd h1 k1
    · rw [h2.one k2] at h3 h4
      exact ⟨by omega, by omega⟩
theorem ClOk.one {V : Wk} {l l' : List Int} {e e' : Int} (h : ClOk V l e) (k : ClOk V l' e') : l = l' ∧ e = e' := by
  rcases h with ⟨h1, h2, h3⟩ | ⟨h1, ⟨r, h2⟩, h3, h4⟩ | ⟨h1, h2, h3, h4⟩
  · rcases k with ⟨k1, k2, k3⟩ | ⟨k1, _⟩ | ⟨k1, _⟩
    · exact ⟨by rw [h2, k2], by omega⟩
    · exact absurd k1 h1
    · exact absurd k1 h1
  · rcases k with ⟨k1, k2, k3⟩ | ⟨k1, ⟨q, k2⟩, k3, k4⟩ | ⟨k1, k2, k3, k4⟩
    · exact absurd h1 k1
    · exact ⟨by rw [h3, k3], by omega⟩
    · exact absurd k2 h2.not
  · rcases k with ⟨k1, k2, k3⟩ | ⟨k1, ⟨q, k2⟩, k3, k4⟩ | ⟨k1, k2, k3, k4⟩
    · exact absurd h1 k1
    · exact absurd h2 k2.not
    · have := h3.one k3
      injection this with this
      exact ⟨this, by omega⟩
theorem CoOk.one {V : Wk} {d n e n' e' : Int} (h : CoOk V d n e) (k : CoOk V d n' e') : n = n' ∧ e = e' := by
  rcases h with ⟨h1, h2, h3⟩ | ⟨h1, h2, h3, h4⟩ | ⟨h1, h2, h3, h4, h5⟩ | ⟨h1, h2, a, b, h3, h4, h5, h6⟩
  · rcases k with ⟨k1, k2, k3⟩ | ⟨k1, k2, k3, k4⟩ | ⟨k1, k2, k3, k4, k5⟩ | ⟨k1, k2, a', b', k3, k4, k5, k6⟩
    · exact ⟨by omega, by omega⟩
    all_goals exact absurd k1 h1
  · rcases k with ⟨k1, k2, k3⟩ | ⟨k1, k2, k3, k4⟩ | ⟨k1, k2, k3, k4, k5⟩ | ⟨k1, k2, a', b', k3, k4, k5, k6⟩
    · exact absurd h1 k1
    · exact ⟨by omega, by omega⟩
    all_goals exact absurd k2 h2
  · rcases k with ⟨k1, k2, k3⟩ | ⟨k1, k2, k3, k4⟩ | ⟨k1, k2, k3, k4, k5⟩ | ⟨k1, k2, a', b', k3, k4, k5, k6⟩
    · exact absurd h1 k1
    · exact absurd h2 k2
    · exact ⟨by omega, by omega⟩
    · exact absurd h3 k3.not
  · rcases k with ⟨k1, k2, k3⟩ | ⟨k1, k2, k3, k4⟩ | ⟨k1, k2, k3, k4, k5⟩ | ⟨k1, k2, a', b', k3, k4, k5, k6⟩
    · exact absurd h1 k1
    · exact absurd h2 k2
    · exact absurd k3 h3.not
    · have e1 := h3.one k3
      have e2 := h4.one k4
      injection e1 with e1
      injection e2 with e2
      exact ⟨by omega, by omega⟩
/-- The three ways of a search. -/
theorem SrOk.three {w : World} {V : Wk} {t : Value} {c : Option Bh} {e : Int} (h : SrOk w V t c e) :
    (¬ WOk V ∧ e = chk V ∧ e ≠ 0 ∧ e ≠ 3) ∨ (WOk V ∧ ∃ b g f q, c = some b ∧ t = .map (some g) ∧ MT w g f ∧ TbOk V ((List.range (nP V)).map (pr V)) f q ∧ IsMx V (allS V) (some b.t) ∧ e = 0) ∨ (WOk V ∧ ∃ g f q, t = .map (some g) ∧ MT w g f ∧ TbOk V ((List.range (nP V)).map (pr V)) f q ∧ IsMx V (allS V) none ∧ e = 3) := by
  rcases h with ⟨h1, _, rfl, h4⟩ | ⟨h, g, f, q, h1, h2, h3, h4, h5, h6⟩
  · have := chk_two h1
    exact .inl ⟨h1, h4, by omega, by omega⟩
  · have hm := of_mx h3 h5
    cases c with
    | none => exact .inr (.inr ⟨h, g, f, q, h1, h2, h3, hm, h6⟩)
    | some b => exact .inr (.inl ⟨h, b, g, f, q, rfl, h1, h2, h3, hm, h6⟩)
theorem takes_small {V : Wk} (ok : Shp V) {p : List Int} (hp : IsP V p) : 0 ≤ takes V p ∧ takes V p ≤ 799200 := by
  have h := tkS_small ok hp (Nat.le_refl p.length)
  have := hp.1
  have := (slots_nat ok).2.1
  unfold takes
  omega
theorem IsMx.small {V : Wk} (ok : Shp V) {s : Nat} {a : Int} (h : IsMx V s (some a)) : 0 ≤ a ∧ a ≤ 799200 := by
  obtain ⟨p, h1, h2, h3⟩ := h.1
  have := takes_small ok h1
  omega
theorem wo_lt {V : Wk} (ok : Shp V) (d : Nat) : woS V d < 256 := Nat.lt_of_le_of_lt Nat.and_le_left (allS_lt ok)
theorem wo_kept {V : Wk} {d : Nat} (hd : d < V.ds.length) {a : Int} (h : IsMx V (allS V) (some a)) {r : Option Int} (k : IsMx V (woS V d) r) : ∃ b, r = some b := by
  cases r with
  | some b => exact ⟨b, rfl⟩
  | none =>
    obtain ⟨p, h1, h2, _⟩ := h.1
    exact absurd (h2.sub fun i hi => (all_bit V i).mpr ((without_bit V hd i).mp hi).1) (k p h1)
end Go.Proofs.Ytdiambcjghlffaa.T
namespace Go.Proofs.Ytdiambcjghlffaa.T
open Go.RowKit Go.Proofs.YtdiambcjghlffaaW.PrintWords Go.Proofs.YtdiambcjghlffaaW.PrintMore
open Go.Proofs.Ytdiambcjghlffaa.P
set_option linter.unusedVariables false
set_option linter.unusedSimpArgs false

set_option maxRecDepth 100000 in
set_option maxHeartbeats 8000000 in

theorem clash_calls (V : Wk) (m : Wa) (w : World) (hV : WM w V m) (hs : Sz V) :
    Calls Try.prog 17 #[wv V m] w fun e w' => ∃ v l er, e = .returned (.tuple #[v, .int .i64 er]) ∧ Kd.R kI 3 w' w.heap.size (fun _ => True) v l ∧ ClOk V l er ∧ Below w.heap.size w w' := by
  have hu3 := Try.underlying3
  have hu22 := Try.underlying22
  have hu26 := Try.underlying26
  have hu30 := Try.underlying30
  have hu60 := Try.underlying60
  have hu62 := Try.underlying62
  have hu63 := Try.underlying63
  have hu66 := Try.underlying66
  have hu68 := Try.underlying68
  obtain ⟨z3, o3⟩ := info_some info3s (by decide)
  obtain ⟨z22, o22⟩ := info_some info22s (by decide)
  obtain ⟨z62, o62⟩ := info_some info62s (by decide)
  refine E.enter (N := 63) Try.func17 rfl Try.ntmps17 (args := [wv V m]) (by simp) ?_
  have L := Below.refl w.heap.size w
  refine E.CG.seq ?_
  refine E.CG.list ?_
  refine E.GL.st rfl rfl rfl (E.ST.box rfl rfl fun g1 w1 e1 b1 l1 => ?_)
  have h1_L : w.heap.size ≤ g1 := by rw [e1]; exact L.size
  replace L := below_step L l1
  refine E.GL.run rfl rfl rfl (E.Runs.assign rfl rfl) ?_
  refine E.GL.run rfl rfl rfl (E.Runs.assign rfl rfl) ?_
  refine E.GL.done ?_
  refine E.QG.code ?_
  refine E.CG.seq ?_
  refine E.CG.list ?_
  refine E.GL.run rfl rfl rfl (E.Runs.loads (cs := [.int .i64 V.d, .slice m.A V.rs.length m.a, .int .i64 V.h, .slice m.B V.fs.length m.b, .slice m.C V.ds.length m.c]) rfl rfl hu26 rfl info26s (blk_cells b1)) ?_
  refine E.GL.st rfl rfl rfl (E.ST.call rfl ent37 (E.evc rfl E.evn) ((search_calls V m _ (hV.below L) hs).mono ?_))
  rintro e w14 ⟨t, c, er, rfl, hS, l14⟩
  refine ⟨_, rfl, ?_⟩
  replace b1 := blk_below b1 l14
  replace L := below_step L l14
  have K := Below.refl w14.heap.size w14
  refine E.GL.run rfl rfl rfl (E.Runs.move rfl rfl) ?_
  rcases hS.three with ⟨nok, her, her0, her3⟩ | ⟨ok, b, g, f, q, rfl, rfl, hM, hT, hmx, rfl⟩ | ⟨ok, g, f, q, rfl, hM, hT, hmx, rfl⟩
  · refine E.GL.run rfl rfl rfl (E.Runs.extract rfl rfl rfl) ?_
    refine E.GL.run rfl rfl rfl (E.Runs.extract rfl rfl rfl) ?_
    refine E.GL.run rfl rfl rfl (E.Runs.extract rfl rfl rfl) ?_
    refine E.GL.st rfl rfl rfl (E.ST.alloc rfl info62z fun g5 w5 e5 b5 l5 => ?_)
    have h5_L : w.heap.size ≤ g5 := by rw [e5]; exact L.size
    have h5_K : w14.heap.size ≤ g5 := by rw [e5]; exact K.size
    have n5_b1 : g1 ≠ g5 := by have := blk_lt b1; omega
    replace b1 := blk_below b1 l5
    replace L := below_step L l5
    replace K := below_step K l5
    refine E.GL.run rfl rfl rfl (E.Runs.assign rfl rfl) ?_
    refine E.GL.store_whole rfl rfl rfl rfl rfl b5 rfl info62s (best_one _ _ _ _) fun wS1_8 c5 lS1_8 => ?_
    replace b1 := blk_grown b1 lS1_8 (E.nes (by first | assumption | exact Ne.symm (by assumption)))
    replace L := E.below_own L h5_L lS1_8
    replace K := E.below_own K h5_K lS1_8
    replace b5 := c5
    clear c5
    refine E.GL.run rfl rfl rfl (E.Runs.assign rfl rfl) ?_
    refine E.GL.done ?_
    refine E.QG.code ?_
    refine E.CG.seq ?_
    refine E.CG.seq ?_
    refine E.CG.list ?_
    refine E.GL.run rfl rfl rfl (E.Runs.move rfl rfl) ?_
    refine E.GL.run rfl rfl rfl (E.Runs.eql rfl rfl rfl (decide_eq_false (by omega))) ?_
    refine E.GL.done ?_
    refine E.QG.code ?_
    refine E.CG.cond_f rfl ?_
    refine E.CG.skip ?_
    refine E.QG.code ?_
    refine E.CG.seq ?_
    refine E.CG.seq ?_
    refine E.CG.list ?_
    refine E.GL.run rfl rfl rfl (E.Runs.move rfl rfl) ?_
    refine E.GL.run rfl rfl rfl (E.Runs.neq rfl rfl rfl (E.ne_t (by omega))) ?_
    refine E.GL.done ?_
    refine E.QG.code ?_
    refine E.CG.cond_t rfl ?_
    refine E.CG.seq ?_
    refine E.CG.list ?_
    refine E.GL.run rfl rfl rfl (E.Runs.move rfl rfl) ?_
    refine E.GL.run rfl rfl rfl (E.Runs.assign rfl rfl) ?_
    refine E.GL.run rfl rfl rfl (E.Runs.assign rfl rfl) ?_
    refine E.GL.done ?_
    refine E.QG.code ?_
    refine E.CG.ret ?_
    refine E.QG.pass_ret ?_
    exact E.QG.result2 rfl rfl rfl ⟨_, [], _, rfl, Kd.R_nil _ _ _ _ _, .inl ⟨nok, rfl, her⟩, L⟩
  · refine E.GL.run rfl rfl rfl (E.Runs.extract rfl rfl rfl) ?_
    refine E.GL.run rfl rfl rfl (E.Runs.extract rfl rfl rfl) ?_
    refine E.GL.run rfl rfl rfl (E.Runs.extract rfl rfl rfl) ?_
    refine E.GL.st rfl rfl rfl (E.ST.alloc rfl info62z fun g5 w5 e5 b5 l5 => ?_)
    have h5_L : w.heap.size ≤ g5 := by rw [e5]; exact L.size
    have h5_K : w14.heap.size ≤ g5 := by rw [e5]; exact K.size
    have n5_b1 : g1 ≠ g5 := by have := blk_lt b1; omega
    replace b1 := blk_below b1 l5
    replace L := below_step L l5
    replace K := below_step K l5
    refine E.GL.run rfl rfl rfl (E.Runs.assign rfl rfl) ?_
    refine E.GL.store_whole rfl rfl rfl rfl rfl b5 rfl info62s (best_one _ _ _ _) fun wS1_8 c5 lS1_8 => ?_
    replace b1 := blk_grown b1 lS1_8 (E.nes (by first | assumption | exact Ne.symm (by assumption)))
    replace L := E.below_own L h5_L lS1_8
    replace K := E.below_own K h5_K lS1_8
    replace b5 := c5
    clear c5
    refine E.GL.run rfl rfl rfl (E.Runs.assign rfl rfl) ?_
    refine E.GL.done ?_
    refine E.QG.code ?_
    refine E.CG.seq ?_
    refine E.CG.seq ?_
    refine E.CG.list ?_
    refine E.GL.run rfl rfl rfl (E.Runs.move rfl rfl) ?_
    refine E.GL.run rfl rfl rfl (E.Runs.eql rfl rfl rfl (decide_eq_true rfl)) ?_
    refine E.GL.done ?_
    refine E.QG.code ?_
    refine E.CG.cond_t rfl ?_
    refine E.CG.seq ?_
    refine E.CG.list ?_
    refine E.GL.run rfl rfl rfl (E.Runs.assign rfl rfl) ?_
    refine E.GL.run rfl rfl rfl (E.Runs.assign rfl rfl) ?_
    refine E.GL.done ?_
    refine E.QG.code ?_
    refine E.CG.ret ?_
    refine E.QG.pass_ret ?_
    exact E.QG.result2 rfl rfl rfl ⟨_, [], _, rfl, Kd.R_nil _ _ _ _ _, .inr (.inl ⟨ok, ⟨_, hmx⟩, rfl, rfl⟩), L⟩
  · refine E.GL.run rfl rfl rfl (E.Runs.extract rfl rfl rfl) ?_
    refine E.GL.run rfl rfl rfl (E.Runs.extract rfl rfl rfl) ?_
    refine E.GL.run rfl rfl rfl (E.Runs.extract rfl rfl rfl) ?_
    refine E.GL.st rfl rfl rfl (E.ST.alloc rfl info62z fun g5 w5 e5 b5 l5 => ?_)
    have h5_L : w.heap.size ≤ g5 := by rw [e5]; exact L.size
    have h5_K : w14.heap.size ≤ g5 := by rw [e5]; exact K.size
    have n5_b1 : g1 ≠ g5 := by have := blk_lt b1; omega
    replace b1 := blk_below b1 l5
    replace L := below_step L l5
    replace K := below_step K l5
    refine E.GL.run rfl rfl rfl (E.Runs.assign rfl rfl) ?_
    refine E.GL.store_whole rfl rfl rfl rfl rfl b5 rfl info62s (best_one _ _ _ _) fun wS1_8 c5 lS1_8 => ?_
    replace b1 := blk_grown b1 lS1_8 (E.nes (by first | assumption | exact Ne.symm (by assumption)))
    replace L := E.below_own L h5_L lS1_8
    replace K := E.below_own K h5_K lS1_8
    replace b5 := c5
    clear c5
    refine E.GL.run rfl rfl rfl (E.Runs.assign rfl rfl) ?_
    refine E.GL.done ?_
    refine E.QG.code ?_
    refine E.CG.seq ?_
    refine E.CG.seq ?_
    refine E.CG.list ?_
    refine E.GL.run rfl rfl rfl (E.Runs.move rfl rfl) ?_
    refine E.GL.run rfl rfl rfl (E.Runs.eql rfl rfl rfl (decide_eq_false (by decide))) ?_
    refine E.GL.done ?_
    refine E.QG.code ?_
    refine E.CG.cond_f rfl ?_
    refine E.CG.skip ?_
    refine E.QG.code ?_
    refine E.CG.seq ?_
    refine E.CG.seq ?_
    refine E.CG.list ?_
    refine E.GL.run rfl rfl rfl (E.Runs.move rfl rfl) ?_
    refine E.GL.run rfl rfl rfl (E.Runs.neq rfl rfl rfl (E.ne_f rfl)) ?_
    refine E.GL.done ?_
    refine E.QG.code ?_
    refine E.CG.cond_f rfl ?_
    refine E.CG.skip ?_
    refine E.QG.code ?_
    refine E.CG.seq ?_
    refine E.CG.list ?_
    refine E.GL.run rfl rfl rfl (E.Runs.assign rfl rfl) ?_
    refine E.GL.done ?_
    refine E.QG.code ?_
    refine E.CG.seq ?_
    refine E.CG.seq ?_
    have ha8 := allS_lt ok.s
    refine E.CG.list ?_
    refine E.GL.run rfl rfl rfl (E.Runs.loads (cs := [.int .i64 V.d, .slice m.A V.rs.length m.a, .int .i64 V.h, .slice m.B V.fs.length m.b, .slice m.C V.ds.length m.c]) rfl rfl hu26 rfl info26s (blk_cells b1)) ?_
    refine E.GL.st rfl rfl rfl (E.ST.call rfl ent39 (E.evc rfl E.evn) ((all_calls V m _ ok.s.ds).mono ?_))
    rintro e w24 ⟨rfl, l24⟩
    refine ⟨_, rfl, ?_⟩
    replace b1 := blk_below b1 l24
    replace b5 := blk_below b5 l24
    replace L := below_step L l24
    replace K := below_step K l24
    refine E.GL.run rfl rfl rfl (E.Runs.add rfl rfl rfl (show IntKind.u64.wrap (((2 ^ V.ds.length - 1 : Nat) : Int) + 1) = ((allS V + 1 : Nat) : Int) from by rw [show (((2 ^ V.ds.length - 1 : Nat) : Int) + 1) = ((allS V + 1 : Nat) : Int) from by unfold allS; omega]; exact E.u64_in _ (by omega))) ?_
    refine E.GL.run rfl rfl rfl (E.Runs.move rfl rfl) ?_
    refine E.GL.done ?_
    refine E.QG.code ?_
    refine E.CG.block ?_
    have s8_b1 := b1
    have s8_b5 := b5
    have s8_L := L
    have s8_K := K
    refine E.CG.loop2 (fun (i : Nat) (u : Value × Option (List Int)) => [(1, .pointer (some ⟨g1, 0, none⟩)), (4, .map (some g)), (7, u.1), (25, .int .u64 (allS V + 1 : Nat)), (26, .int .u64 (i : Nat))]) (fun i u w' => i ≤ allS V + 1 ∧ Kd.R kI 3 w' w.heap.size (fun _ => True) u.1 (u.2.getD []) ∧ (u.2 = none → u.1 = .slice none 0 0) ∧ LsO V i u.2 ∧ w'.heap[g1]? = some (.cells #[.int .i64 V.d, .slice m.A V.rs.length m.a, .int .i64 V.h, .slice m.B V.fs.length m.b, .slice m.C V.ds.length m.c] 26 (0, 0)) ∧ Below w14.heap.size w14 w' ∧ Below w.heap.size w w') (fun i u => allS V + 1 - i) 0 (.slice none 0 0, none) (E.subc rfl (E.subc rfl (E.subc rfl (E.subc rfl (E.subc rfl E.subn))))) ⟨Nat.zero_le _, Kd.R_nil _ _ _ _ _, fun _ => rfl, (fun s hs => by omega), b1, K, L⟩ ?_
    rintro i u w8 ⟨hi, R7, hv7, hLs, b1, K, L⟩
    obtain ⟨v7, o⟩ := u
    replace R7 : Kd.R kI 3 _ w.heap.size (fun _ => True) v7 (o.getD []) := R7
    replace hv7 : o = none → v7 = .slice none 0 0 := hv7
    replace hLs : LsO V i o := hLs
    refine E.CG.seq ?_
    refine E.CG.list ?_
    refine E.GL.cmp rfl rfl rfl (fun _ h => (E.Runs.lss rfl rfl rfl h)) (fun h27 => ?_) (fun h27 => ?_)
    · have hi8 : i < 256 := by omega
      refine E.GL.done ?_
      refine E.QG.code ?_
      refine E.CG.seq ?_
      refine E.CG.cond_t rfl ?_
      refine E.CG.skip ?_
      refine E.QG.code ?_
      refine E.CG.seq ?_
      refine E.CG.block ?_
      refine E.CG.seq ?_
      refine E.CG.list ?_
      refine E.GL.run rfl rfl rfl (E.Runs.move rfl rfl) ?_
      refine E.GL.run rfl rfl rfl (E.Runs.assign rfl rfl) ?_
      refine E.GL.done ?_
      refine E.QG.code ?_
      refine E.CG.seq ?_
      refine E.CG.seq ?_
      refine E.CG.list ?_
      refine E.GL.run rfl rfl rfl (E.Runs.move rfl rfl) ?_
      refine E.GL.run rfl rfl rfl (E.Runs.move rfl rfl) ?_
      refine E.GL.st rfl rfl rfl (E.ST.call rfl ent40 (E.evc rfl (E.evc rfl E.evn)) ((of_calls g f i _ (hM.below K) (tb_key ok.s hT) (by omega)).mono ?_))
      rintro e w32 ⟨c2, rfl, hO2, l32⟩
      refine ⟨_, rfl, ?_⟩
      replace b1 := blk_below b1 l32
      replace R7 := Kd.R_below R7 l32
      replace L := below_step L l32
      replace K := below_step K l32
      refine E.GL.run rfl rfl rfl (E.Runs.move rfl rfl) ?_
      refine E.GL.run rfl rfl rfl (E.Runs.extract rfl rfl rfl) ?_
      rcases c2 with _ | b2
      · refine E.GL.run rfl rfl rfl (E.Runs.extract rfl rfl rfl) ?_
        refine E.GL.st rfl rfl rfl (E.ST.alloc rfl info62z fun g9 w9 e9 b9 l9 => ?_)
        have h9_L : w.heap.size ≤ g9 := by rw [e9]; exact L.size
        have h9_K : w14.heap.size ≤ g9 := by rw [e9]; exact K.size
        have n9_b1 : g1 ≠ g9 := by have := blk_lt b1; omega
        have n9_R7 : some g9 ≠ (v7).ownBlock := fun h => by have := Kd.R_lt R7 _ h.symm; omega
        replace b1 := blk_below b1 l9
        replace R7 := Kd.R_below R7 l9
        replace L := below_step L l9
        replace K := below_step K l9
        refine E.GL.store_whole rfl rfl rfl rfl rfl b9 rfl info62s (best_one _ _ _ _) fun wS10_7 c9 lS10_7 => ?_
        replace b1 := blk_grown b1 lS10_7 (E.nes (by first | assumption | exact Ne.symm (by assumption)))
        replace R7 := Kd.R_grown1 R7 rfl lS10_7 (by first | assumption | exact Kd.R_ne R7 b9 (by decide))
        replace L := E.below_own L h9_L lS10_7
        replace K := E.below_own K h9_K lS10_7
        replace b9 := c9
        clear c9
        refine E.GL.run rfl rfl rfl (E.Runs.assign rfl rfl) ?_
        refine E.GL.done ?_
        refine E.QG.code ?_
        refine E.CG.seq ?_
        refine E.CG.list ?_
        refine E.GL.run rfl rfl rfl (E.Runs.move rfl rfl) ?_
        refine E.GL.done ?_
        refine E.QG.code ?_
        refine E.CG.cond_f rfl ?_
        refine E.CG.skip ?_
        refine E.QG.code ?_
        refine E.CG.seq ?_
        refine E.CG.list ?_
        refine E.GL.run rfl rfl rfl (E.Runs.move rfl rfl) ?_
        have hcn : IsMx V i none := of_mx hT hO2
        have hLz := L.size
        refine E.GL.st rfl rfl rfl (E.ST.call rfl ent41 (E.evc rfl E.evn) ((list_calls i _ (by omega)).mono ?_))
        rintro e w37 ⟨v11, rfl, R11, l37⟩
        refine ⟨_, rfl, ?_⟩
        replace b1 := blk_below b1 l37
        replace b9 := blk_below b9 l37
        replace R7 := Kd.R_below R7 l37
        replace L := below_step L l37
        replace K := below_step K l37
        replace R11 := Kd.R_lower R11 hLz
        obtain ⟨A11, c11, hv11⟩ := Kd.R_slice R11
        subst hv11
        refine E.GL.run rfl rfl rfl (E.Runs.assign rfl rfl) ?_
        refine E.GL.done ?_
        refine E.QG.code ?_
        refine E.CG.seq ?_
        refine E.CG.list ?_
        refine E.GL.run rfl rfl rfl (E.Runs.move rfl rfl) ?_
        rcases o with _ | l
        · obtain rfl := hv7 rfl
          refine E.GL.run rfl rfl rfl (E.Runs.eqlv rfl rfl rfl rfl (fun _ _ _ => rfl) (eqNil22 _ _ _)) ?_
          refine E.GL.run rfl rfl rfl (E.Runs.move rfl rfl) ?_
          refine E.GL.skip rfl rfl rfl ?_
          refine E.GL.skip rfl rfl rfl ?_
          refine E.GL.skip rfl rfl rfl ?_
          refine E.GL.skip rfl rfl rfl ?_
          refine E.GL.skip rfl rfl rfl ?_
          refine E.GL.run rfl rfl rfl (E.Runs.pick_t rfl rfl rfl) ?_
          refine E.GL.run rfl rfl rfl (E.Runs.move rfl rfl) ?_
          refine E.GL.skip rfl rfl rfl ?_
          refine E.GL.skip rfl rfl rfl ?_
          refine E.GL.skip rfl rfl rfl ?_
          refine E.GL.skip rfl rfl rfl ?_
          refine E.GL.skip rfl rfl rfl ?_
          refine E.GL.skip rfl rfl rfl ?_
          refine E.GL.skip rfl rfl rfl ?_
          refine E.GL.skip rfl rfl rfl ?_
          refine E.GL.skip rfl rfl rfl ?_
          refine E.GL.skip rfl rfl rfl ?_
          refine E.GL.skip rfl rfl rfl ?_
          refine E.GL.run rfl rfl rfl (E.Runs.pick_t rfl rfl rfl) ?_
          refine E.GL.done ?_
          refine E.QG.code ?_
          refine E.CG.cond_t rfl ?_
          refine E.CG.list ?_
          refine E.GL.run rfl rfl rfl (E.Runs.move rfl rfl) ?_
          refine E.GL.run rfl rfl rfl (E.Runs.assign rfl rfl) ?_
          refine E.GL.done ?_
          refine E.QG.block_normal ?_
          refine E.QG.code ?_
          refine E.CG.list ?_
          refine E.GL.run rfl rfl rfl (E.Runs.add rfl rfl rfl (E.u64_in _ (by omega))) ?_
          refine E.GL.run rfl rfl rfl (E.Runs.move rfl rfl) ?_
          refine E.GL.done ?_
          exact E.QG.round2 (d := (.slice none 0 0, none)) (i + 1) (_, some (elN i 8)) (E.subc rfl (E.subc rfl (E.subc rfl (E.subc rfl (E.subc rfl E.subn))))) (by first | exact ⟨by omega, R7, hv7, hLs.skip (of_mx hT hO2).not, b1, K, L⟩ | exact ⟨by omega, R11, (fun e => nomatch e), hLs.first hi8 hcn, b1, K, L⟩ | exact ⟨by omega, R11, (fun e => nomatch e), hLs.put hi8 hcn (.inl (by omega)), b1, K, L⟩ | exact ⟨by omega, R11, (fun e => nomatch e), hLs.put hi8 hcn (.inr ⟨by omega, hn56.mp h57⟩), b1, K, L⟩ | exact ⟨by omega, R7, (fun e => nomatch e), hLs.keep (fun e => e.elim (fun e => by omega) (fun e => by first | exact h57 (hn56.mpr e.2) | exact h52 (by have := e.1; omega))), b1, K, L⟩ | fail) (by omega)
        · replace R7 : Kd.R kI 3 _ w.heap.size (fun _ => True) v7 l := R7
          obtain ⟨A7, c7, hv⟩ := Kd.R_slice R7
          subst hv
          have hlne := hLs.ne
          rcases A7 with _ | ad
          · exact absurd (C_none (Kd.R_reads' R7).2.2) hlne
          refine E.GL.run rfl rfl rfl (E.Runs.eqlv rfl rfl rfl rfl (fun _ _ _ => rfl) (eqNil22 _ _ _)) ?_
          refine E.GL.run rfl rfl rfl (E.Runs.move rfl rfl) ?_
          refine E.GL.run rfl rfl rfl (E.Runs.move rfl rfl) ?_
          refine E.GL.run rfl rfl rfl (E.Runs.len rfl rfl hu22) ?_
          refine E.GL.run rfl rfl rfl (E.Runs.move rfl rfl) ?_
          refine E.GL.run rfl rfl rfl (E.Runs.len rfl rfl hu22) ?_
          refine E.GL.cmp rfl rfl rfl (fun _ h => (E.Runs.lss rfl rfl rfl h)) (fun h45 => ?_) (fun h45 => ?_)
          · refine E.GL.run rfl rfl rfl (E.Runs.pick_f rfl rfl rfl) ?_
            refine E.GL.run rfl rfl rfl (E.Runs.move rfl rfl) ?_
            refine E.GL.skip rfl rfl rfl ?_
            refine E.GL.skip rfl rfl rfl ?_
            refine E.GL.skip rfl rfl rfl ?_
            refine E.GL.skip rfl rfl rfl ?_
            refine E.GL.skip rfl rfl rfl ?_
            refine E.GL.skip rfl rfl rfl ?_
            refine E.GL.skip rfl rfl rfl ?_
            refine E.GL.skip rfl rfl rfl ?_
            refine E.GL.skip rfl rfl rfl ?_
            refine E.GL.skip rfl rfl rfl ?_
            refine E.GL.skip rfl rfl rfl ?_
            refine E.GL.run rfl rfl rfl (E.Runs.pick_t rfl rfl rfl) ?_
            refine E.GL.done ?_
            refine E.QG.code ?_
            refine E.CG.cond_t rfl ?_
            refine E.CG.list ?_
            refine E.GL.run rfl rfl rfl (E.Runs.move rfl rfl) ?_
            refine E.GL.run rfl rfl rfl (E.Runs.assign rfl rfl) ?_
            refine E.GL.done ?_
            refine E.QG.block_normal ?_
            refine E.QG.code ?_
            refine E.CG.list ?_
            refine E.GL.run rfl rfl rfl (E.Runs.add rfl rfl rfl (E.u64_in _ (by omega))) ?_
            refine E.GL.run rfl rfl rfl (E.Runs.move rfl rfl) ?_
            refine E.GL.done ?_
            exact E.QG.round2 (d := (.slice none 0 0, none)) (i + 1) (_, some (elN i 8)) (E.subc rfl (E.subc rfl (E.subc rfl (E.subc rfl (E.subc rfl E.subn))))) (by first | exact ⟨by omega, R7, hv7, hLs.skip (of_mx hT hO2).not, b1, K, L⟩ | exact ⟨by omega, R11, (fun e => nomatch e), hLs.first hi8 hcn, b1, K, L⟩ | exact ⟨by omega, R11, (fun e => nomatch e), hLs.put hi8 hcn (.inl (by omega)), b1, K, L⟩ | exact ⟨by omega, R11, (fun e => nomatch e), hLs.put hi8 hcn (.inr ⟨by omega, hn56.mp h57⟩), b1, K, L⟩ | exact ⟨by omega, R7, (fun e => nomatch e), hLs.keep (fun e => e.elim (fun e => by omega) (fun e => by first | exact h57 (hn56.mpr e.2) | exact h52 (by have := e.1; omega))), b1, K, L⟩ | fail) (by omega)
          · refine E.GL.run rfl rfl rfl (E.Runs.pick_f rfl rfl rfl) ?_
            refine E.GL.run rfl rfl rfl (E.Runs.move rfl rfl) ?_
            refine E.GL.run rfl rfl rfl (E.Runs.move rfl rfl) ?_
            refine E.GL.run rfl rfl rfl (E.Runs.len rfl rfl hu22) ?_
            refine E.GL.run rfl rfl rfl (E.Runs.move rfl rfl) ?_
            refine E.GL.run rfl rfl rfl (E.Runs.len rfl rfl hu22) ?_
            refine E.GL.cmp rfl rfl rfl (fun _ h => (E.Runs.eql rfl rfl rfl h)) (fun h52 => ?_) (fun h52 => ?_)
            · refine E.GL.run rfl rfl rfl (E.Runs.move rfl rfl) ?_
              refine E.GL.run rfl rfl rfl (E.Runs.move rfl rfl) ?_
              refine E.GL.run rfl rfl rfl (E.Runs.move rfl rfl) ?_
              refine E.GL.st rfl rfl rfl (E.ST.call rfl ent42 (E.evc rfl (E.evc rfl E.evn)) ((compare_calls (elN i 8) l A11 (some ad) c11 c7 _ (by omega) (Kd.R_reads' R11).2.2 (Kd.R_reads' R7).2.2 (by have := elN_len i 8; omega)).mono ?_))
              rintro e w56 ⟨n56, rfl, hn56, l56⟩
              refine ⟨_, rfl, ?_⟩
              replace b1 := blk_below b1 l56
              replace b9 := blk_below b9 l56
              replace R7 := Kd.R_below R7 l56
              replace R11 := Kd.R_below R11 l56
              replace L := below_step L l56
              replace K := below_step K l56
              refine E.GL.cmp rfl rfl rfl (fun _ h => (E.Runs.lss rfl rfl rfl h)) (fun h57 => ?_) (fun h57 => ?_)
              · refine E.GL.run rfl rfl rfl (E.Runs.pick_t rfl rfl rfl) ?_
                refine E.GL.run rfl rfl rfl (E.Runs.pick_f rfl rfl rfl) ?_
                refine E.GL.done ?_
                refine E.QG.code ?_
                refine E.CG.cond_t rfl ?_
                refine E.CG.list ?_
                refine E.GL.run rfl rfl rfl (E.Runs.move rfl rfl) ?_
                refine E.GL.run rfl rfl rfl (E.Runs.assign rfl rfl) ?_
                refine E.GL.done ?_
                refine E.QG.block_normal ?_
                refine E.QG.code ?_
                refine E.CG.list ?_
                refine E.GL.run rfl rfl rfl (E.Runs.add rfl rfl rfl (E.u64_in _ (by omega))) ?_
                refine E.GL.run rfl rfl rfl (E.Runs.move rfl rfl) ?_
                refine E.GL.done ?_
                exact E.QG.round2 (d := (.slice none 0 0, none)) (i + 1) (_, some (elN i 8)) (E.subc rfl (E.subc rfl (E.subc rfl (E.subc rfl (E.subc rfl E.subn))))) (by first | exact ⟨by omega, R7, hv7, hLs.skip (of_mx hT hO2).not, b1, K, L⟩ | exact ⟨by omega, R11, (fun e => nomatch e), hLs.first hi8 hcn, b1, K, L⟩ | exact ⟨by omega, R11, (fun e => nomatch e), hLs.put hi8 hcn (.inl (by omega)), b1, K, L⟩ | exact ⟨by omega, R11, (fun e => nomatch e), hLs.put hi8 hcn (.inr ⟨by omega, hn56.mp h57⟩), b1, K, L⟩ | exact ⟨by omega, R7, (fun e => nomatch e), hLs.keep (fun e => e.elim (fun e => by omega) (fun e => by first | exact h57 (hn56.mpr e.2) | exact h52 (by have := e.1; omega))), b1, K, L⟩ | fail) (by omega)
              · refine E.GL.run rfl rfl rfl (E.Runs.pick_t rfl rfl rfl) ?_
                refine E.GL.run rfl rfl rfl (E.Runs.pick_f rfl rfl rfl) ?_
                refine E.GL.done ?_
                refine E.QG.code ?_
                refine E.CG.cond_f rfl ?_
                refine E.CG.skip ?_
                refine E.QG.block_normal ?_
                refine E.QG.code ?_
                refine E.CG.list ?_
                refine E.GL.run rfl rfl rfl (E.Runs.add rfl rfl rfl (E.u64_in _ (by omega))) ?_
                refine E.GL.run rfl rfl rfl (E.Runs.move rfl rfl) ?_
                refine E.GL.done ?_
                exact E.QG.round2 (d := (.slice none 0 0, none)) (i + 1) (_, some l) (E.subc rfl (E.subc rfl (E.subc rfl (E.subc rfl (E.subc rfl E.subn))))) (by first | exact ⟨by omega, R7, hv7, hLs.skip (of_mx hT hO2).not, b1, K, L⟩ | exact ⟨by omega, R11, (fun e => nomatch e), hLs.first hi8 hcn, b1, K, L⟩ | exact ⟨by omega, R11, (fun e => nomatch e), hLs.put hi8 hcn (.inl (by omega)), b1, K, L⟩ | exact ⟨by omega, R11, (fun e => nomatch e), hLs.put hi8 hcn (.inr ⟨by omega, hn56.mp h57⟩), b1, K, L⟩ | exact ⟨by omega, R7, (fun e => nomatch e), hLs.keep (fun e => e.elim (fun e => by omega) (fun e => by first | exact h57 (hn56.mpr e.2) | exact h52 (by have := e.1; omega))), b1, K, L⟩ | fail) (by omega)
            · refine E.GL.run rfl rfl rfl (E.Runs.move rfl rfl) ?_
              refine E.GL.skip rfl rfl rfl ?_
              refine E.GL.skip rfl rfl rfl ?_
              refine E.GL.skip rfl rfl rfl ?_
              refine E.GL.skip rfl rfl rfl ?_
              refine E.GL.run rfl rfl rfl (E.Runs.pick_f rfl rfl rfl) ?_
              refine E.GL.run rfl rfl rfl (E.Runs.pick_f rfl rfl rfl) ?_
              refine E.GL.done ?_
              refine E.QG.code ?_
              refine E.CG.cond_f rfl ?_
              refine E.CG.skip ?_
              refine E.QG.block_normal ?_
              refine E.QG.code ?_
              refine E.CG.list ?_
              refine E.GL.run rfl rfl rfl (E.Runs.add rfl rfl rfl (E.u64_in _ (by omega))) ?_
              refine E.GL.run rfl rfl rfl (E.Runs.move rfl rfl) ?_
              refine E.GL.done ?_
              exact E.QG.round2 (d := (.slice none 0 0, none)) (i + 1) (_, some l) (E.subc rfl (E.subc rfl (E.subc rfl (E.subc rfl (E.subc rfl E.subn))))) (by first | exact ⟨by omega, R7, hv7, hLs.skip (of_mx hT hO2).not, b1, K, L⟩ | exact ⟨by omega, R11, (fun e => nomatch e), hLs.first hi8 hcn, b1, K, L⟩ | exact ⟨by omega, R11, (fun e => nomatch e), hLs.put hi8 hcn (.inl (by omega)), b1, K, L⟩ | exact ⟨by omega, R11, (fun e => nomatch e), hLs.put hi8 hcn (.inr ⟨by omega, hn56.mp h57⟩), b1, K, L⟩ | exact ⟨by omega, R7, (fun e => nomatch e), hLs.keep (fun e => e.elim (fun e => by omega) (fun e => by first | exact h57 (hn56.mpr e.2) | exact h52 (by have := e.1; omega))), b1, K, L⟩ | fail) (by omega)
      · refine E.GL.run rfl rfl rfl (E.Runs.extract rfl rfl rfl) ?_
        refine E.GL.st rfl rfl rfl (E.ST.alloc rfl info62z fun g9 w9 e9 b9 l9 => ?_)
        have h9_L : w.heap.size ≤ g9 := by rw [e9]; exact L.size
        have h9_K : w14.heap.size ≤ g9 := by rw [e9]; exact K.size
        have n9_b1 : g1 ≠ g9 := by have := blk_lt b1; omega
        have n9_R7 : some g9 ≠ (v7).ownBlock := fun h => by have := Kd.R_lt R7 _ h.symm; omega
        replace b1 := blk_below b1 l9
        replace R7 := Kd.R_below R7 l9
        replace L := below_step L l9
        replace K := below_step K l9
        refine E.GL.store_whole rfl rfl rfl rfl rfl b9 rfl info62s (best_one _ _ _ _) fun wS10_7 c9 lS10_7 => ?_
        replace b1 := blk_grown b1 lS10_7 (E.nes (by first | assumption | exact Ne.symm (by assumption)))
        replace R7 := Kd.R_grown1 R7 rfl lS10_7 (by first | assumption | exact Kd.R_ne R7 b9 (by decide))
        replace L := E.below_own L h9_L lS10_7
        replace K := E.below_own K h9_K lS10_7
        replace b9 := c9
        clear c9
        refine E.GL.run rfl rfl rfl (E.Runs.assign rfl rfl) ?_
        refine E.GL.done ?_
        refine E.QG.code ?_
        refine E.CG.seq ?_
        refine E.CG.list ?_
        refine E.GL.run rfl rfl rfl (E.Runs.move rfl rfl) ?_
        refine E.GL.done ?_
        refine E.QG.code ?_
        refine E.CG.cond_t rfl ?_
        refine E.CG.exit ?_
        refine E.QG.pass_exit ?_
        refine E.QG.block_here ?_
        refine E.QG.code ?_
        refine E.CG.list ?_
        refine E.GL.run rfl rfl rfl (E.Runs.add rfl rfl rfl (E.u64_in _ (by omega))) ?_
        refine E.GL.run rfl rfl rfl (E.Runs.move rfl rfl) ?_
        refine E.GL.done ?_
        exact E.QG.round2 (d := (.slice none 0 0, none)) (i + 1) (v7, o) (E.subc rfl (E.subc rfl (E.subc rfl (E.subc rfl (E.subc rfl E.subn))))) (by first | exact ⟨by omega, R7, hv7, hLs.skip (of_mx hT hO2).not, b1, K, L⟩ | exact ⟨by omega, R11, (fun e => nomatch e), hLs.first hi8 hcn, b1, K, L⟩ | exact ⟨by omega, R11, (fun e => nomatch e), hLs.put hi8 hcn (.inl (by omega)), b1, K, L⟩ | exact ⟨by omega, R11, (fun e => nomatch e), hLs.put hi8 hcn (.inr ⟨by omega, hn56.mp h57⟩), b1, K, L⟩ | exact ⟨by omega, R7, (fun e => nomatch e), hLs.keep (fun e => e.elim (fun e => by omega) (fun e => by first | exact h57 (hn56.mpr e.2) | exact h52 (by have := e.1; omega))), b1, K, L⟩ | fail) (by omega)
    · obtain rfl : i = allS V + 1 := by omega
      refine E.GL.done ?_
      refine E.QG.code ?_
      refine E.CG.seq ?_
      refine E.CG.cond_f rfl ?_
      refine E.CG.exit ?_
      refine E.QG.pass_exit ?_
      refine E.QG.pass_exit ?_
      refine E.QG.block_here ?_
      refine E.QG.code ?_
      refine E.CG.seq ?_
      refine E.CG.list ?_
      refine E.GL.run rfl rfl rfl (E.Runs.move rfl rfl) ?_
      refine E.GL.run rfl rfl rfl (E.Runs.assign rfl rfl) ?_
      refine E.GL.run rfl rfl rfl (E.Runs.assign rfl rfl) ?_
      refine E.GL.done ?_
      refine E.QG.code ?_
      refine E.CG.ret ?_
      cases o with
      | none => exact absurd hmx (hLs _ (by omega))
      | some l => exact E.QG.result2 rfl rfl rfl ⟨_, l, _, rfl, R7, .inr (.inr ⟨ok, hmx, hLs, rfl⟩), L⟩

theorem runs_wo {N : Nat} {env : E.Env} {o : Oper} {w : World} {t u : TypeId} {x y : Operand} {V : Wk} {D : Nat} (ho : o.op = .binOp .andNot t x y u) (hx : E.Ev env x (.int .u64 ((2 ^ V.ds.length - 1 : Nat) : Int))) (hy : E.Ev env y (.int .u64 ((1 * 2 ^ D : Nat) : Int))) (ha : 2 ^ V.ds.length - 1 < 2 ^ 32) (hb : 1 * 2 ^ D < 2 ^ 32) : E.Runs Try.prog N env o w (.int .u64 ((woS V D : Nat) : Int)) := by
  have h := E.Runs.andNot (P := Try.prog) (w := w) (N := N) (.inl rfl) ho hx hy ha hb
  rw [show (2 ^ V.ds.length - 1 &&& (2 ^ V.ds.length - 1 ^^^ 1 * 2 ^ D)) = woS V D from by rw [Nat.one_mul]; rfl] at h
  exact h
set_option maxRecDepth 100000 in
set_option maxHeartbeats 8000000 in

theorem cost_calls (V : Wk) (m : Wa) (d : Int) (w : World) (hV : WM w V m) (hs : Sz V) :
    Calls Try.prog 19 #[wv V m, .int .i64 d] w fun e w' => ∃ n er, e = .returned (.tuple #[.int .i64 n, .int .i64 er]) ∧ CoOk V d n er ∧ Below w.heap.size w w' := by
  have hsd := hs.d
  have hu3 := Try.underlying3
  have hu22 := Try.underlying22
  have hu24 := Try.underlying24
  have hu26 := Try.underlying26
  have hu30 := Try.underlying30
  have hu60 := Try.underlying60
  have hu62 := Try.underlying62
  have hu63 := Try.underlying63
  have hu66 := Try.underlying66
  have hu68 := Try.underlying68
  obtain ⟨z3, o3⟩ := info_some info3s (by decide)
  obtain ⟨z22, o22⟩ := info_some info22s (by decide)
  obtain ⟨z24, o24⟩ := info_some info24s (by decide)
  obtain ⟨z62, o62⟩ := info_some info62s (by decide)
  refine E.enter (N := 48) Try.func19 rfl Try.ntmps19 (args := [wv V m, .int .i64 d]) (by simp) ?_
  have L := Below.refl w.heap.size w
  refine E.CG.seq ?_
  refine E.CG.list ?_
  refine E.GL.st rfl rfl rfl (E.ST.box rfl rfl fun g2 w2 e2 b2 l2 => ?_)
  have h2_L : w.heap.size ≤ g2 := by rw [e2]; exact L.size
  replace L := below_step L l2
  refine E.GL.run rfl rfl rfl (E.Runs.assign rfl rfl) ?_
  refine E.GL.run rfl rfl rfl (E.Runs.assign rfl rfl) ?_
  refine E.GL.done ?_
  refine E.QG.code ?_
  refine E.CG.seq ?_
  refine E.CG.seq ?_
  refine E.CG.list ?_
  refine E.GL.run rfl rfl rfl (E.Runs.loads (cs := [.int .i64 V.d, .slice m.A V.rs.length m.a, .int .i64 V.h, .slice m.B V.fs.length m.b, .slice m.C V.ds.length m.c]) rfl rfl hu26 rfl info26s (blk_cells b2)) ?_
  refine E.GL.st rfl rfl rfl (E.ST.call rfl ent31 (E.evc rfl E.evn) ((check_o V m _ (hV.below L) hs).mono ?_))
  rintro e w13 ⟨rfl, l13⟩
  refine ⟨_, rfl, ?_⟩
  replace b2 := blk_below b2 l13
  replace L := below_step L l13
  refine E.GL.run rfl rfl rfl (E.Runs.assign rfl rfl) ?_
  refine E.GL.done ?_
  refine E.QG.code ?_
  refine E.CG.seq ?_
  refine E.CG.list ?_
  refine E.GL.run rfl rfl rfl (E.Runs.move rfl rfl) ?_
  refine E.GL.cmpn rfl rfl rfl (fun _ h => (E.Runs.neq rfl rfl rfl h)) (fun h15 => ?_) (fun h15 => ?_)
  · have nok : ¬ WOk V := fun k => absurd (chk_ok.mpr k) (by omega)
    refine E.GL.done ?_
    refine E.QG.code ?_
    refine E.CG.cond_t rfl ?_
    refine E.CG.seq ?_
    refine E.CG.list ?_
    refine E.GL.run rfl rfl rfl (E.Runs.move rfl rfl) ?_
    refine E.GL.run rfl rfl rfl (E.Runs.assign rfl rfl) ?_
    refine E.GL.run rfl rfl rfl (E.Runs.assign rfl rfl) ?_
    refine E.GL.done ?_
    refine E.QG.code ?_
    refine E.CG.ret ?_
    refine E.QG.pass_ret ?_
    exact E.QG.result2 rfl rfl rfl ⟨_, _, rfl, .inl ⟨nok, rfl, rfl⟩, L⟩
  · have ok := chk_ok.mp (show chk V = 0 by omega)
    refine E.GL.done ?_
    refine E.QG.code ?_
    refine E.CG.cond_f rfl ?_
    refine E.CG.skip ?_
    refine E.QG.code ?_
    refine E.CG.seq ?_
    refine E.CG.seq ?_
    refine E.CG.list ?_
    refine E.GL.run rfl rfl rfl (E.Runs.move rfl rfl) ?_
    refine E.GL.run rfl rfl rfl (E.Runs.fieldAddr rfl rfl hu26 rfl (by assumption) rfl) ?_
    refine E.GL.run rfl rfl rfl (E.Runs.load1 rfl rfl hu24 rfl (by first | assumption | exact E.blkc (by assumption) rfl | exact pw_cell_below L (by assumption))) ?_
    refine E.GL.run rfl rfl rfl (E.Runs.len rfl rfl hu24) ?_
    refine E.GL.run rfl rfl rfl (E.Runs.sub rfl rfl rfl (IntWalk.i64_in _ (by omega))) ?_
    by_cases h22 : inR d 0 (V.ds.length - 1)
    · obtain ⟨D, rfl⟩ : ∃ D : Nat, d = D := ⟨d.toNat, by have := h22.1; omega⟩
      have hdl : D < V.ds.length := by have := h22.2; omega
      have hd8 := ok.s.ds
      have h2d : 2 ^ D ≤ 256 := (pow_8 (show D ≤ 8 by omega)).2
      have ha8 := allS_lt ok.s
      have ha9 : 2 ^ V.ds.length - 1 < 2 ^ 32 := by unfold allS at ha8; omega
      refine E.GL.st rfl rfl rfl (E.ST.call rfl ent46 (E.evc rfl (E.evc rfl (E.evc rfl E.evn))) ((within_o (D : Nat) 0 (V.ds.length - 1) true (iff_of_true rfl h22) _).mono ?_))
      rintro e w22 ⟨rfl, l22⟩
      refine ⟨_, rfl, ?_⟩
      replace b2 := blk_below b2 l22
      replace L := below_step L l22
      refine E.GL.run rfl rfl rfl (E.Runs.not rfl rfl) ?_
      refine E.GL.done ?_
      refine E.QG.code ?_
      refine E.CG.cond_f rfl ?_
      refine E.CG.skip ?_
      refine E.QG.code ?_
      refine E.CG.seq ?_
      refine E.CG.list ?_
      refine E.GL.run rfl rfl rfl (E.Runs.loads (cs := [.int .i64 V.d, .slice m.A V.rs.length m.a, .int .i64 V.h, .slice m.B V.fs.length m.b, .slice m.C V.ds.length m.c]) rfl rfl hu26 rfl info26s (blk_cells b2)) ?_
      refine E.GL.st rfl rfl rfl (E.ST.call rfl ent37 (E.evc rfl E.evn) ((search_calls V m _ (hV.below L) hs).mono ?_))
      rintro e w26 ⟨t, c, er, rfl, hS, l26⟩
      refine ⟨_, rfl, ?_⟩
      replace b2 := blk_below b2 l26
      replace L := below_step L l26
      have K := Below.refl w26.heap.size w26
      refine E.GL.run rfl rfl rfl (E.Runs.move rfl rfl) ?_
      rcases hS.three with ⟨nok, her, her0, her3⟩ | ⟨ok2, b, g, f, q, rfl, rfl, hM, hT, hmx, rfl⟩ | ⟨ok2, g, f, q, rfl, hM, hT, hmx, rfl⟩
      · exact absurd ok nok
      · refine E.GL.run rfl rfl rfl (E.Runs.extract rfl rfl rfl) ?_
        refine E.GL.run rfl rfl rfl (E.Runs.extract rfl rfl rfl) ?_
        refine E.GL.run rfl rfl rfl (E.Runs.extract rfl rfl rfl) ?_
        refine E.GL.st rfl rfl rfl (E.ST.alloc rfl info62z fun g8 w8 e8 b8 l8 => ?_)
        have h8_L : w.heap.size ≤ g8 := by rw [e8]; exact L.size
        have h8_K : w26.heap.size ≤ g8 := by rw [e8]; exact K.size
        have n8_b2 : g2 ≠ g8 := by have := blk_lt b2; omega
        replace b2 := blk_below b2 l8
        replace L := below_step L l8
        replace K := below_step K l8
        refine E.GL.run rfl rfl rfl (E.Runs.assign rfl rfl) ?_
        refine E.GL.store_whole rfl rfl rfl rfl rfl b8 rfl info62s (best_one _ _ _ _) fun wS6_8 c8 lS6_8 => ?_
        replace b2 := blk_grown b2 lS6_8 (E.nes (by first | assumption | exact Ne.symm (by assumption)))
        replace L := E.below_own L h8_L lS6_8
        replace K := E.below_own K h8_K lS6_8
        replace b8 := c8
        clear c8
        refine E.GL.run rfl rfl rfl (E.Runs.assign rfl rfl) ?_
        refine E.GL.done ?_
        refine E.QG.code ?_
        refine E.CG.seq ?_
        refine E.CG.seq ?_
        refine E.CG.list ?_
        refine E.GL.run rfl rfl rfl (E.Runs.move rfl rfl) ?_
        refine E.GL.run rfl rfl rfl (E.Runs.neq rfl rfl rfl (E.ne_f rfl)) ?_
        refine E.GL.done ?_
        refine E.QG.code ?_
        refine E.CG.cond_f rfl ?_
        refine E.CG.skip ?_
        refine E.QG.code ?_
        refine E.CG.seq ?_
        refine E.CG.heldH (none) (by kernel_rfl) fun v9 lD hh => ?_
        replace b2 := blk_below b2 lD
        replace b8 := blk_below b8 lD
        replace L := below_step L lD
        replace K := below_step K lD
        clear lD
        have s_b2 := b2
        have s_b8 := b8
        have s_L := L
        have s_K := K
        refine E.GH.take (i := 0) rfl (by kernel_rfl) (by kernel_rfl) (by kernel_rfl) (by intro c a d v w h; first | (cases d <;> exact h) | exact nomatch (show _ ∧ _ from h).1) rfl rfl rfl (fun w' hS => (E.Runs.move rfl rfl)) ?_
        refine E.GH.take (i := 1) rfl (by kernel_rfl) (by kernel_rfl) (by kernel_rfl) (by intro c a d v w h; first | (cases d <;> exact h) | exact nomatch (show _ ∧ _ from h).1) rfl rfl rfl (fun w' hS => (E.Runs.loads (cs := [.int .i64 V.d, .slice m.A V.rs.length m.a, .int .i64 V.h, .slice m.B V.fs.length m.b, .slice m.C V.ds.length m.c]) rfl rfl hu26 rfl info26s (blk_cells (blk_grown s_b2 hS E.nen)))) ?_
        refine E.GH.take (i := 3) rfl (by kernel_rfl) (by kernel_rfl) (by kernel_rfl) (by intro c a d v w h; first | (cases d <;> exact h) | exact nomatch (show _ ∧ _ from h).1) rfl rfl rfl (fun w' hS => (E.Runs.move rfl rfl)) ?_
        refine E.GH.take (i := 4) rfl (by kernel_rfl) (by kernel_rfl) (by kernel_rfl) (by intro c a d v w h; first | (cases d <;> exact h) | exact nomatch (show _ ∧ _ from h).1) rfl rfl rfl (fun w' hS => (E.Runs.shl (a := 1) (n := D) (.inl rfl) rfl rfl rfl (by omega) (by omega))) ?_
        refine E.GH.all (rs := [2, 10]) (by kernel_rfl) (by simp) (E.GHs.cons rfl ?_ (E.GHs.cons rfl ?_ E.GHs.nil))
        · refine E.GO.st rfl rfl rfl (E.ST.call rfl ent39 (E.evc rfl E.evn) ((all_calls V m _ ok.s.ds).mono ?_))
          rintro e w36 ⟨rfl, l36⟩
          refine ⟨_, rfl, hh.trans (E.gbB l36), ?_⟩
          replace hh := hh.trans (E.gbB l36)
          replace b2 := blk_below b2 l36
          replace b8 := blk_below b8 l36
          replace L := below_step L l36
          replace K := below_step K l36
          refine E.GH.take (i := 5) rfl (by kernel_rfl) (by kernel_rfl) (by kernel_rfl) (by intro c a d v w h; first | (cases d <;> exact h) | exact nomatch (show _ ∧ _ from h).1) rfl rfl rfl (fun w' hS => (runs_wo (V := V) (D := D) rfl rfl rfl ha9 (by omega))) ?_
          refine E.GH.all (rs := [6, 10]) (by kernel_rfl) (by simp) (E.GHs.cons rfl ?_ (E.GHs.cons rfl ?_ E.GHs.nil))
          · refine E.GO.st rfl rfl rfl (E.ST.call rfl ent40 (E.evc rfl (E.evc rfl E.evn)) ((of_calls g f (woS V D) _ (hM.below K) (tb_key ok.s hT) (wo_lt ok.s D)).mono ?_))
            rintro e w40 ⟨c2, rfl, hO2, l40⟩
            refine ⟨_, rfl, hh.trans (E.gbB l40), ?_⟩
            replace hh := hh.trans (E.gbB l40)
            replace b2 := blk_below b2 l40
            replace b8 := blk_below b8 l40
            replace L := below_step L l40
            replace K := below_step K l40
            refine E.GH.take (i := 7) rfl (by kernel_rfl) (by kernel_rfl) (by kernel_rfl) (by intro c a d v w h; first | (cases d <;> exact h) | exact nomatch (show _ ∧ _ from h).1) rfl rfl rfl (fun w' hS => (E.Runs.move rfl rfl)) ?_
            refine E.GH.take (i := 8) rfl (by kernel_rfl) (by kernel_rfl) (by kernel_rfl) (by intro c a d v w h; first | (cases d <;> exact h) | exact nomatch (show _ ∧ _ from h).1) rfl rfl rfl (fun w' hS => (E.Runs.extract rfl rfl rfl)) ?_
            refine E.GH.take (i := 9) rfl (by kernel_rfl) (by kernel_rfl) (by kernel_rfl) (by intro c a d v w h; first | (cases d <;> exact h) | exact nomatch (show _ ∧ _ from h).1) rfl rfl rfl (fun w' hS => (E.Runs.extract rfl rfl rfl)) ?_
            refine E.GH.one (i := 10) (by kernel_rfl) rfl ?_
            refine E.GO.st rfl rfl rfl (E.ST.alloc rfl info62z fun g10 w10 e10 b10 l10 => ⟨hh.trans (E.gbB l10), ?_⟩)
            have hh0 := hh
            replace hh := hh.trans (E.gbB l10)
            have h10_hh : v9.heap.size ≤ g10 := by rw [e10]; exact hh0.size
            have h10_L : w.heap.size ≤ g10 := by rw [e10]; exact L.size
            have h10_K : w26.heap.size ≤ g10 := by rw [e10]; exact K.size
            have n10_b2 : g2 ≠ g10 := by have := blk_lt b2; omega
            have n10_b8 : g8 ≠ g10 := by have := blk_lt b8; omega
            clear hh0
            replace b2 := blk_below b2 l10
            replace b8 := blk_below b8 l10
            replace L := below_step L l10
            replace K := below_step K l10
            refine E.GH.one (i := 11) (by kernel_rfl) rfl ?_
            refine E.GO.sn rfl rfl (E.ST.storeS (off := 0) (cells := [.slice (c2.getD b00).A (c2.getD b00).n (c2.getD b00).c, .int .i64 (c2.getD b00).t]) rfl rfl rfl b10 rfl info62s (best_one _ _ _ _) rfl fun wS9_11 c10 lS9_11 => ⟨E.gb_own hh h10_hh lS9_11, ?_⟩)
            replace hh := E.gb_own hh h10_hh lS9_11
            replace b2 := blk_grown b2 lS9_11 (E.nes (by first | assumption | exact Ne.symm (by assumption)))
            replace b8 := blk_grown b8 lS9_11 (E.nes (by first | assumption | exact Ne.symm (by assumption)))
            replace L := E.below_own L h10_L lS9_11
            replace K := E.below_own K h10_K lS9_11
            replace b10 := c10
            clear c10
            refine E.GH.take (i := 12) rfl (by kernel_rfl) (by kernel_rfl) (by kernel_rfl) (by intro c a d v w h; first | (cases d <;> exact h) | exact nomatch (show _ ∧ _ from h).1) rfl rfl rfl (fun w' hS => (E.Runs.assign rfl rfl)) ?_
            refine E.GH.done (by kernel_rfl) ?_
            refine E.QG.code ?_
            refine E.CG.seq ?_
            obtain ⟨y4, hy4⟩ := wo_kept hdl hmx (of_mx hT hO2)
            rcases c2 with _ | b4
            · cases hy4
            have hb4 : IsMx V (woS V D) (some b4.t) := of_mx hT hO2
            have hs1 := hmx.small ok.s
            have hs2 := hb4.small ok.s
            refine E.CG.list ?_
            refine E.GL.run rfl rfl rfl (E.Runs.fieldAddr rfl rfl hu62 rfl (by assumption) rfl) ?_
            refine E.GL.run rfl rfl rfl (E.Runs.load rfl rfl hu3 (by first | assumption | exact E.blkc (by assumption) rfl | exact pw_cell_below L (by assumption) | exact pw_cell_below K (by assumption))) ?_
            refine E.GL.run rfl rfl rfl (E.Runs.fieldAddr rfl rfl hu62 rfl (by assumption) rfl) ?_
            refine E.GL.run rfl rfl rfl (E.Runs.load rfl rfl hu3 (by first | assumption | exact E.blkc (by assumption) rfl | exact pw_cell_below L (by assumption) | exact pw_cell_below K (by assumption))) ?_
            refine E.GL.run rfl rfl rfl (E.Runs.sub rfl rfl rfl (IntWalk.i64_in _ (show -9223372036854775808 ≤ b4.t - b.t ∧ b4.t - b.t ≤ 9223372036854775807 from by omega))) ?_
            refine E.GL.run rfl rfl rfl (E.Runs.assign rfl rfl) ?_
            refine E.GL.run rfl rfl rfl (E.Runs.assign rfl rfl) ?_
            refine E.GL.done ?_
            refine E.QG.code ?_
            refine E.CG.ret ?_
            exact E.QG.result2 rfl rfl rfl ⟨_, _, rfl, .inr (.inr (.inr ⟨ok, h22, _, _, hmx, hb4, rfl, rfl⟩)), L⟩
          · refine E.GO.st rfl rfl rfl (E.ST.alloc rfl info62z fun g10 w10 e10 b10 l10 => ⟨hh.trans (E.gbB l10), ?_⟩)
            have hh0 := hh
            replace hh := hh.trans (E.gbB l10)
            have h10_hh : v9.heap.size ≤ g10 := by rw [e10]; exact hh0.size
            have h10_L : w.heap.size ≤ g10 := by rw [e10]; exact L.size
            have h10_K : w26.heap.size ≤ g10 := by rw [e10]; exact K.size
            have n10_b2 : g2 ≠ g10 := by have := blk_lt b2; omega
            have n10_b8 : g8 ≠ g10 := by have := blk_lt b8; omega
            clear hh0
            replace b2 := blk_below b2 l10
            replace b8 := blk_below b8 l10
            replace L := below_step L l10
            replace K := below_step K l10
            refine E.GH.one (i := 6) (by kernel_rfl) rfl ?_
            refine E.GO.st rfl rfl rfl (E.ST.call rfl ent40 (E.evc rfl (E.evc rfl E.evn)) ((of_calls g f (woS V D) _ (hM.below K) (tb_key ok.s hT) (wo_lt ok.s D)).mono ?_))
            rintro e w40 ⟨c2, rfl, hO2, l40⟩
            refine ⟨_, rfl, hh.trans (E.gbB l40), ?_⟩
            replace hh := hh.trans (E.gbB l40)
            replace b2 := blk_below b2 l40
            replace b8 := blk_below b8 l40
            replace b10 := blk_below b10 l40
            replace L := below_step L l40
            replace K := below_step K l40
            refine E.GH.take (i := 7) rfl (by kernel_rfl) (by kernel_rfl) (by kernel_rfl) (by intro c a d v w h; first | (cases d <;> exact h) | exact nomatch (show _ ∧ _ from h).1) rfl rfl rfl (fun w' hS => (E.Runs.move rfl rfl)) ?_
            refine E.GH.take (i := 8) rfl (by kernel_rfl) (by kernel_rfl) (by kernel_rfl) (by intro c a d v w h; first | (cases d <;> exact h) | exact nomatch (show _ ∧ _ from h).1) rfl rfl rfl (fun w' hS => (E.Runs.extract rfl rfl rfl)) ?_
            refine E.GH.take (i := 9) rfl (by kernel_rfl) (by kernel_rfl) (by kernel_rfl) (by intro c a d v w h; first | (cases d <;> exact h) | exact nomatch (show _ ∧ _ from h).1) rfl rfl rfl (fun w' hS => (E.Runs.extract rfl rfl rfl)) ?_
            refine E.GH.one (i := 11) (by kernel_rfl) rfl ?_
            refine E.GO.sn rfl rfl (E.ST.storeS (off := 0) (cells := [.slice (c2.getD b00).A (c2.getD b00).n (c2.getD b00).c, .int .i64 (c2.getD b00).t]) rfl rfl rfl b10 rfl info62s (best_one _ _ _ _) rfl fun wS9_11 c10 lS9_11 => ⟨E.gb_own hh h10_hh lS9_11, ?_⟩)
            replace hh := E.gb_own hh h10_hh lS9_11
            replace b2 := blk_grown b2 lS9_11 (E.nes (by first | assumption | exact Ne.symm (by assumption)))
            replace b8 := blk_grown b8 lS9_11 (E.nes (by first | assumption | exact Ne.symm (by assumption)))
            replace L := E.below_own L h10_L lS9_11
            replace K := E.below_own K h10_K lS9_11
            replace b10 := c10
            clear c10
            refine E.GH.take (i := 12) rfl (by kernel_rfl) (by kernel_rfl) (by kernel_rfl) (by intro c a d v w h; first | (cases d <;> exact h) | exact nomatch (show _ ∧ _ from h).1) rfl rfl rfl (fun w' hS => (E.Runs.assign rfl rfl)) ?_
            refine E.GH.done (by kernel_rfl) ?_
            refine E.QG.code ?_
            refine E.CG.seq ?_
            obtain ⟨y4, hy4⟩ := wo_kept hdl hmx (of_mx hT hO2)
            rcases c2 with _ | b4
            · cases hy4
            have hb4 : IsMx V (woS V D) (some b4.t) := of_mx hT hO2
            have hs1 := hmx.small ok.s
            have hs2 := hb4.small ok.s
            refine E.CG.list ?_
            refine E.GL.run rfl rfl rfl (E.Runs.fieldAddr rfl rfl hu62 rfl (by assumption) rfl) ?_
            refine E.GL.run rfl rfl rfl (E.Runs.load rfl rfl hu3 (by first | assumption | exact E.blkc (by assumption) rfl | exact pw_cell_below L (by assumption) | exact pw_cell_below K (by assumption))) ?_
            refine E.GL.run rfl rfl rfl (E.Runs.fieldAddr rfl rfl hu62 rfl (by assumption) rfl) ?_
            refine E.GL.run rfl rfl rfl (E.Runs.load rfl rfl hu3 (by first | assumption | exact E.blkc (by assumption) rfl | exact pw_cell_below L (by assumption) | exact pw_cell_below K (by assumption))) ?_
            refine E.GL.run rfl rfl rfl (E.Runs.sub rfl rfl rfl (IntWalk.i64_in _ (show -9223372036854775808 ≤ b4.t - b.t ∧ b4.t - b.t ≤ 9223372036854775807 from by omega))) ?_
            refine E.GL.run rfl rfl rfl (E.Runs.assign rfl rfl) ?_
            refine E.GL.run rfl rfl rfl (E.Runs.assign rfl rfl) ?_
            refine E.GL.done ?_
            refine E.QG.code ?_
            refine E.CG.ret ?_
            exact E.QG.result2 rfl rfl rfl ⟨_, _, rfl, .inr (.inr (.inr ⟨ok, h22, _, _, hmx, hb4, rfl, rfl⟩)), L⟩
        · refine E.GO.st rfl rfl rfl (E.ST.alloc rfl info62z fun g10 w10 e10 b10 l10 => ⟨hh.trans (E.gbB l10), ?_⟩)
          have hh0 := hh
          replace hh := hh.trans (E.gbB l10)
          have h10_hh : v9.heap.size ≤ g10 := by rw [e10]; exact hh0.size
          have h10_L : w.heap.size ≤ g10 := by rw [e10]; exact L.size
          have h10_K : w26.heap.size ≤ g10 := by rw [e10]; exact K.size
          have n10_b2 : g2 ≠ g10 := by have := blk_lt b2; omega
          have n10_b8 : g8 ≠ g10 := by have := blk_lt b8; omega
          clear hh0
          replace b2 := blk_below b2 l10
          replace b8 := blk_below b8 l10
          replace L := below_step L l10
          replace K := below_step K l10
          refine E.GH.one (i := 2) (by kernel_rfl) rfl ?_
          refine E.GO.st rfl rfl rfl (E.ST.call rfl ent39 (E.evc rfl E.evn) ((all_calls V m _ ok.s.ds).mono ?_))
          rintro e w36 ⟨rfl, l36⟩
          refine ⟨_, rfl, hh.trans (E.gbB l36), ?_⟩
          replace hh := hh.trans (E.gbB l36)
          replace b2 := blk_below b2 l36
          replace b8 := blk_below b8 l36
          replace b10 := blk_below b10 l36
          replace L := below_step L l36
          replace K := below_step K l36
          refine E.GH.take (i := 5) rfl (by kernel_rfl) (by kernel_rfl) (by kernel_rfl) (by intro c a d v w h; first | (cases d <;> exact h) | exact nomatch (show _ ∧ _ from h).1) rfl rfl rfl (fun w' hS => (runs_wo (V := V) (D := D) rfl rfl rfl ha9 (by omega))) ?_
          refine E.GH.one (i := 6) (by kernel_rfl) rfl ?_
          refine E.GO.st rfl rfl rfl (E.ST.call rfl ent40 (E.evc rfl (E.evc rfl E.evn)) ((of_calls g f (woS V D) _ (hM.below K) (tb_key ok.s hT) (wo_lt ok.s D)).mono ?_))
          rintro e w40 ⟨c2, rfl, hO2, l40⟩
          refine ⟨_, rfl, hh.trans (E.gbB l40), ?_⟩
          replace hh := hh.trans (E.gbB l40)
          replace b2 := blk_below b2 l40
          replace b8 := blk_below b8 l40
          replace b10 := blk_below b10 l40
          replace L := below_step L l40
          replace K := below_step K l40
          refine E.GH.take (i := 7) rfl (by kernel_rfl) (by kernel_rfl) (by kernel_rfl) (by intro c a d v w h; first | (cases d <;> exact h) | exact nomatch (show _ ∧ _ from h).1) rfl rfl rfl (fun w' hS => (E.Runs.move rfl rfl)) ?_
          refine E.GH.take (i := 8) rfl (by kernel_rfl) (by kernel_rfl) (by kernel_rfl) (by intro c a d v w h; first | (cases d <;> exact h) | exact nomatch (show _ ∧ _ from h).1) rfl rfl rfl (fun w' hS => (E.Runs.extract rfl rfl rfl)) ?_
          refine E.GH.take (i := 9) rfl (by kernel_rfl) (by kernel_rfl) (by kernel_rfl) (by intro c a d v w h; first | (cases d <;> exact h) | exact nomatch (show _ ∧ _ from h).1) rfl rfl rfl (fun w' hS => (E.Runs.extract rfl rfl rfl)) ?_
          refine E.GH.one (i := 11) (by kernel_rfl) rfl ?_
          refine E.GO.sn rfl rfl (E.ST.storeS (off := 0) (cells := [.slice (c2.getD b00).A (c2.getD b00).n (c2.getD b00).c, .int .i64 (c2.getD b00).t]) rfl rfl rfl b10 rfl info62s (best_one _ _ _ _) rfl fun wS9_11 c10 lS9_11 => ⟨E.gb_own hh h10_hh lS9_11, ?_⟩)
          replace hh := E.gb_own hh h10_hh lS9_11
          replace b2 := blk_grown b2 lS9_11 (E.nes (by first | assumption | exact Ne.symm (by assumption)))
          replace b8 := blk_grown b8 lS9_11 (E.nes (by first | assumption | exact Ne.symm (by assumption)))
          replace L := E.below_own L h10_L lS9_11
          replace K := E.below_own K h10_K lS9_11
          replace b10 := c10
          clear c10
          refine E.GH.take (i := 12) rfl (by kernel_rfl) (by kernel_rfl) (by kernel_rfl) (by intro c a d v w h; first | (cases d <;> exact h) | exact nomatch (show _ ∧ _ from h).1) rfl rfl rfl (fun w' hS => (E.Runs.assign rfl rfl)) ?_
          refine E.GH.done (by kernel_rfl) ?_
          refine E.QG.code ?_
          refine E.CG.seq ?_
          obtain ⟨y4, hy4⟩ := wo_kept hdl hmx (of_mx hT hO2)
          rcases c2 with _ | b4
          · cases hy4
          have hb4 : IsMx V (woS V D) (some b4.t) := of_mx hT hO2
          have hs1 := hmx.small ok.s
          have hs2 := hb4.small ok.s
          refine E.CG.list ?_
          refine E.GL.run rfl rfl rfl (E.Runs.fieldAddr rfl rfl hu62 rfl (by assumption) rfl) ?_
          refine E.GL.run rfl rfl rfl (E.Runs.load rfl rfl hu3 (by first | assumption | exact E.blkc (by assumption) rfl | exact pw_cell_below L (by assumption) | exact pw_cell_below K (by assumption))) ?_
          refine E.GL.run rfl rfl rfl (E.Runs.fieldAddr rfl rfl hu62 rfl (by assumption) rfl) ?_
          refine E.GL.run rfl rfl rfl (E.Runs.load rfl rfl hu3 (by first | assumption | exact E.blkc (by assumption) rfl | exact pw_cell_below L (by assumption) | exact pw_cell_below K (by assumption))) ?_
          refine E.GL.run rfl rfl rfl (E.Runs.sub rfl rfl rfl (IntWalk.i64_in _ (show -9223372036854775808 ≤ b4.t - b.t ∧ b4.t - b.t ≤ 9223372036854775807 from by omega))) ?_
          refine E.GL.run rfl rfl rfl (E.Runs.assign rfl rfl) ?_
          refine E.GL.run rfl rfl rfl (E.Runs.assign rfl rfl) ?_
          refine E.GL.done ?_
          refine E.QG.code ?_
          refine E.CG.ret ?_
          exact E.QG.result2 rfl rfl rfl ⟨_, _, rfl, .inr (.inr (.inr ⟨ok, h22, _, _, hmx, hb4, rfl, rfl⟩)), L⟩
      · refine E.GL.run rfl rfl rfl (E.Runs.extract rfl rfl rfl) ?_
        refine E.GL.run rfl rfl rfl (E.Runs.extract rfl rfl rfl) ?_
        refine E.GL.run rfl rfl rfl (E.Runs.extract rfl rfl rfl) ?_
        refine E.GL.st rfl rfl rfl (E.ST.alloc rfl info62z fun g8 w8 e8 b8 l8 => ?_)
        have h8_L : w.heap.size ≤ g8 := by rw [e8]; exact L.size
        have h8_K : w26.heap.size ≤ g8 := by rw [e8]; exact K.size
        have n8_b2 : g2 ≠ g8 := by have := blk_lt b2; omega
        replace b2 := blk_below b2 l8
        replace L := below_step L l8
        replace K := below_step K l8
        refine E.GL.run rfl rfl rfl (E.Runs.assign rfl rfl) ?_
        refine E.GL.store_whole rfl rfl rfl rfl rfl b8 rfl info62s (best_one _ _ _ _) fun wS6_8 c8 lS6_8 => ?_
        replace b2 := blk_grown b2 lS6_8 (E.nes (by first | assumption | exact Ne.symm (by assumption)))
        replace L := E.below_own L h8_L lS6_8
        replace K := E.below_own K h8_K lS6_8
        replace b8 := c8
        clear c8
        refine E.GL.run rfl rfl rfl (E.Runs.assign rfl rfl) ?_
        refine E.GL.done ?_
        refine E.QG.code ?_
        refine E.CG.seq ?_
        refine E.CG.seq ?_
        refine E.CG.list ?_
        refine E.GL.run rfl rfl rfl (E.Runs.move rfl rfl) ?_
        refine E.GL.run rfl rfl rfl (E.Runs.neq rfl rfl rfl (E.ne_t (by decide))) ?_
        refine E.GL.done ?_
        refine E.QG.code ?_
        refine E.CG.cond_t rfl ?_
        refine E.CG.seq ?_
        refine E.CG.list ?_
        refine E.GL.run rfl rfl rfl (E.Runs.move rfl rfl) ?_
        refine E.GL.run rfl rfl rfl (E.Runs.assign rfl rfl) ?_
        refine E.GL.run rfl rfl rfl (E.Runs.assign rfl rfl) ?_
        refine E.GL.done ?_
        refine E.QG.code ?_
        refine E.CG.ret ?_
        refine E.QG.pass_ret ?_
        exact E.QG.result2 rfl rfl rfl ⟨_, _, rfl, .inr (.inr (.inl ⟨ok, h22, hmx, rfl, rfl⟩)), L⟩
    · refine E.GL.st rfl rfl rfl (E.ST.call rfl ent46 (E.evc rfl (E.evc rfl (E.evc rfl E.evn))) ((within_o d 0 (V.ds.length - 1) false (iff_of_false Bool.false_ne_true h22) _).mono ?_))
      rintro e w22 ⟨rfl, l22⟩
      refine ⟨_, rfl, ?_⟩
      replace b2 := blk_below b2 l22
      replace L := below_step L l22
      refine E.GL.run rfl rfl rfl (E.Runs.not rfl rfl) ?_
      refine E.GL.done ?_
      refine E.QG.code ?_
      refine E.CG.cond_t rfl ?_
      refine E.CG.seq ?_
      refine E.CG.list ?_
      refine E.GL.run rfl rfl rfl (E.Runs.assign rfl rfl) ?_
      refine E.GL.run rfl rfl rfl (E.Runs.assign rfl rfl) ?_
      refine E.GL.done ?_
      refine E.QG.code ?_
      refine E.CG.ret ?_
      refine E.QG.pass_ret ?_
      exact E.QG.result2 rfl rfl rfl ⟨_, _, rfl, .inr (.inl ⟨ok, h22, rfl, rfl⟩), L⟩

end Go.Proofs.Ytdiambcjghlffaa.T
namespace Go.Proofs.Ytdiambcjghlffaa.T
open Go.RowKit Go.Proofs.YtdiambcjghlffaaW.PrintWords Go.Proofs.YtdiambcjghlffaaW.PrintMore
open Go.Proofs.Ytdiambcjghlffaa.P
set_option linter.unusedVariables false
set_option linter.unusedSimpArgs false

/-- A header of a slice. -/
structure Hd where
  A : Option Addr
  n : Nat
  c : Nat
def Hd.v (h : Hd) : Value := .slice h.A h.n h.c
def kH : Kd Hd := Kd.scalar Hd.v (fun _ => rfl)
/-- Rows of numbers, each by its header. -/
structure RowsOk (w : World) (hs : List Hd) (ps : List (List Int)) : Prop where
  len : hs.length = ps.length
  row : ∀ (i : Nat) (h : Hd) (p : List Int), hs[i]? = some h → ps[i]? = some p → Kd.R kI 3 w 0 (fun _ => True) h.v p
theorem RowsOk.none (w : World) : RowsOk w [] [] := ⟨rfl, fun i h p hh => by simp at hh⟩
theorem RowsOk.one {w : World} {h : Hd} {p : List Int} (k : Kd.R kI 3 w 0 (fun _ => True) h.v p) : RowsOk w [h] [p] := ⟨rfl, fun i h' p' hh hp => by
  rcases i with _ | i
  · simp at hh hp
    rw [← hh, ← hp]
    exact k
  · simp at hh⟩
theorem RowsOk.below {w w' : World} {hs : List Hd} {ps : List (List Int)} (h : RowsOk w hs ps) (l : Below w.heap.size w w') : RowsOk w' hs ps := ⟨h.len, fun i x p hx hp => Kd.R_below (h.row i x p hx hp) l⟩
theorem RowsOk.over {α : Type} {d : Kd α} {e base : Nat} {w w' : World} {hs : List Hd} {ps : List (List Int)} {u : Value} {ys : List α} (h : RowsOk w hs ps) (hu : d.R e w base (fun _ => True) u ys) (he : 3 ≠ e) (hg : w.grownBy w' u.ownBlock) : RowsOk w' hs ps :=
  ⟨h.len, fun i x p hx hp => E.R_over' (h.row i x p hx hp) hu (fun q hq => by rcases List.mem_cons.mp hq with h2 | h2; · rw [h2]; exact he
                                                                              · cases h2) hg⟩
/-- All programs that begin so, so many slots to go. -/
def allP (V : Wk) : Nat → List Int → List (List Int)
  | 0, first => [first]
  | k + 1, first => (List.range (V.fs.length + 1)).flatMap fun (j : Nat) => allP V k (first ++ [(j : Int) - 1])
theorem mem_allP {V : Wk} {p : List Int} : ∀ {k : Nat} {first : List Int}, p ∈ allP V k first ↔ ∃ t, p = first ++ t ∧ t.length = k ∧ AllR t (-1) (V.fs.length - 1)
  | 0, first => by
    unfold allP
    rw [List.mem_singleton]
    constructor
    · rintro rfl; exact ⟨[], by simp, rfl, fun x hx => by cases hx⟩
    · rintro ⟨t, rfl, ht, _⟩
      obtain rfl := List.length_eq_zero_iff.mp ht
      simp
  | k + 1, first => by
    unfold allP
    rw [List.mem_flatMap]
    constructor
    · rintro ⟨j, hj, hp⟩
      rw [List.mem_range] at hj
      obtain ⟨t, rfl, ht, hr⟩ := mem_allP.mp hp
      refine ⟨((j : Int) - 1) :: t, by simp, by simp [ht], fun x hx => ?_⟩
      rcases List.mem_cons.mp hx with rfl | hx
      · omega
      · exact hr x hx
    · rintro ⟨t, rfl, ht, hr⟩
      cases t with
      | nil => cases ht
      | cons x t =>
        have hx := hr x List.mem_cons_self
        refine ⟨(x + 1).toNat, List.mem_range.mpr (by omega), mem_allP.mpr ⟨t, ?_, by simpa using ht, fun y hy => hr y (List.mem_cons_of_mem _ hy)⟩⟩
        rw [show (((x + 1).toNat : Nat) : Int) - 1 = x by omega]
        simp
theorem allP_all {V : Wk} {p : List Int} : p ∈ allP V (Sl V) [] ↔ IsP V p := by
  rw [mem_allP]
  constructor
  · rintro ⟨t, rfl, ht, hr⟩; exact ⟨ht, hr⟩
  · rintro ⟨h, k⟩; exact ⟨p, rfl, h, k⟩
end Go.Proofs.Ytdiambcjghlffaa.T
namespace Go.Proofs.Ytdiambcjghlffaa.T
open Go.RowKit Go.Proofs.YtdiambcjghlffaaW.PrintWords Go.Proofs.YtdiambcjghlffaaW.PrintMore
open Go.Proofs.Ytdiambcjghlffaa.P
set_option linter.unusedVariables false
set_option linter.unusedSimpArgs false
/-- The greatest takings of some programs, of those that keep a set. -/
def MxIn (V : Wk) (s : Nat) (ps : List (List Int)) : Option Int → Prop
  | none => ∀ p ∈ ps, ¬ Kp V s p
  | some m => (∃ p ∈ ps, Kp V s p ∧ takes V p = m) ∧ ∀ p ∈ ps, Kp V s p → takes V p ≤ m
section
variable {V : Wk} {s : Nat} {ps : List (List Int)} {r : Option Int} {p : List Int}
theorem MxIn.skip (h : MxIn V s ps r) (hp : ¬ Kp V s p) : MxIn V s (ps ++ [p]) r := by
  cases r with
  | none =>
    intro q hq
    rcases List.mem_append.mp hq with h1 | h1
    · exact h q h1
    · rw [List.mem_singleton.mp h1]; exact hp
  | some m =>
    obtain ⟨⟨q, h1, h2⟩, h3⟩ := h
    refine ⟨⟨q, List.mem_append_left _ h1, h2⟩, fun q hq hk => ?_⟩
    rcases List.mem_append.mp hq with h4 | h4
    · exact h3 q h4 hk
    · rw [List.mem_singleton.mp h4] at hk; exact absurd hk hp
theorem MxIn.put (h : MxIn V s ps r) (hp : Kp V s p) (h0 : 0 ≤ takes V p) : MxIn V s (ps ++ [p]) (some (mx (r.getD (-1)) (takes V p))) := by
  have key : ∀ q, q ∈ ps ++ [p] → q ∈ ps ∨ q = p := fun q hq => by
    rcases List.mem_append.mp hq with h1 | h1
    · exact .inl h1
    · exact .inr (List.mem_singleton.mp h1)
  have hin : p ∈ ps ++ [p] := List.mem_append_right _ (List.mem_singleton.mpr rfl)
  cases r with
  | none =>
    have e : mx ((none : Option Int).getD (-1)) (takes V p) = takes V p := by show mx (-1) _ = _; unfold mx; rw [if_pos (by omega)]
    rw [e]
    refine ⟨⟨p, hin, hp, rfl⟩, fun q hq hk => ?_⟩
    rcases key q hq with h1 | h1
    · exact absurd hk (h q h1)
    · rw [h1]; exact Int.le_refl _
  | some m =>
    obtain ⟨⟨q, h1, h2, h3⟩, h4⟩ := h
    show MxIn V s (ps ++ [p]) (some (mx m (takes V p)))
    unfold mx
    split
    · refine ⟨⟨p, hin, hp, rfl⟩, fun q hq hk => ?_⟩
      rcases key q hq with h5 | h5
      · have := h4 q h5 hk; omega
      · rw [h5]; exact Int.le_refl _
    · refine ⟨⟨q, List.mem_append_left _ h1, h2, h3⟩, fun q hq hk => ?_⟩
      rcases key q hq with h5 | h5
      · exact h4 q h5 hk
      · rw [h5]; omega
theorem MxIn.all (h : MxIn V s (allP V (Sl V) []) r) : IsMx V s r := by
  cases r with
  | none => exact fun p hp => h p (allP_all.mpr hp)
  | some m =>
    obtain ⟨⟨q, h1, h2, h3⟩, h4⟩ := h
    exact ⟨⟨q, allP_all.mp h1, h2, h3⟩, fun p hp hk => h4 p (allP_all.mpr hp) hk⟩
end
/-- The sets that some programs keep. -/
def KsOk (V : Wk) (ps : List (List Int)) (ks : List Int) : Prop := ∀ a : Int, a ∈ ks ↔ ∃ p ∈ ps, a = ((mask V p : Nat) : Int)
theorem KsOk.put {V : Wk} {ps : List (List Int)} {ks : List Int} {p : List Int} (h : KsOk V ps ks) : KsOk V (ps ++ [p]) (ks ++ [((mask V p : Nat) : Int)]) := fun a => by
  rw [List.mem_append, List.mem_singleton, h a]
  constructor
  · rintro (⟨q, h1, h2⟩ | h1)
    · exact ⟨q, List.mem_append_left _ h1, h2⟩
    · exact ⟨p, List.mem_append_right _ (List.mem_singleton.mpr rfl), h1⟩
  · rintro ⟨q, h1, h2⟩
    rcases List.mem_append.mp h1 with h3 | h3
    · exact .inl ⟨q, h3, h2⟩
    · rw [List.mem_singleton.mp h3] at h2; exact .inr h2
theorem KsOk.skip {V : Wk} {ps : List (List Int)} {ks : List Int} {p : List Int} (h : KsOk V ps ks) (hp : ((mask V p : Nat) : Int) ∈ ks) : KsOk V (ps ++ [p]) ks := fun a => by
  rw [h a]
  constructor
  · rintro ⟨q, h1, h2⟩
    exact ⟨q, List.mem_append_left _ h1, h2⟩
  · rintro ⟨q, h1, h2⟩
    rcases List.mem_append.mp h1 with h3 | h3
    · exact ⟨q, h3, h2⟩
    · rw [List.mem_singleton.mp h3] at h2
      rw [h2]
      exact (h _).mp hp
/-- A set without some elements. -/
def Rm (n : Nat) (l : List Int) (s : Nat) : Prop := ∀ i : Nat, s.testBit i = true ↔ i < n ∧ (i : Int) ∉ l
theorem Rm.start (n : Nat) : Rm n [] (2 ^ n - 1) := fun i => by rw [Nat.testBit_two_pow_sub_one, decide_eq_true_eq]; simp
theorem Rm.more {n s x : Nat} {l : List Int} (h : Rm n l s) : Rm n (l ++ [(x : Int)]) (s &&& (s ^^^ (1 * 2 ^ x))) := fun i => by
  rw [Nat.one_mul, Nat.testBit_and, Nat.testBit_xor, Nat.testBit_two_pow, List.mem_append, List.mem_singleton]
  by_cases hi : s.testBit i = true
  · have h1 := (h i).mp hi
    rw [hi]
    by_cases e : x = i
    · subst e; simp
    · simp [e, h1.1, h1.2]
      intro q
      exact e (by omega)
  · have h1 : s.testBit i = false := by simpa using hi
    rw [h1]
    simp
    intro h2 h3
    exact absurd ((h i).mpr ⟨h2, h3⟩) hi
theorem Rm.lt {n s : Nat} {l : List Int} (h : Rm n l s) (hn : n ≤ 8) : s < 256 := by
  refine Nat.lt_of_lt_of_le (Nat.lt_pow_two_of_testBit s fun i hi => ?_) (pow_8 hn).2
  rw [Bool.eq_false_iff]
  intro hb
  have := ((h i).mp hb).1
  omega
end Go.Proofs.Ytdiambcjghlffaa.T
namespace Go.Proofs.Ytdiambcjghlffaa.T
open Go.RowKit Go.Proofs.YtdiambcjghlffaaW.PrintWords Go.Proofs.YtdiambcjghlffaaW.PrintMore
open Go.Proofs.Ytdiambcjghlffaa.P
set_option linter.unusedVariables false
set_option linter.unusedSimpArgs false

theorem KsOk.nil (V : Wk) : KsOk V [] [] := fun a => ⟨(fun h => by cases h), fun h => by obtain ⟨p, hp, _⟩ := h; cases hp⟩
end Go.Proofs.Ytdiambcjghlffaa.T
namespace Go.Proofs.Ytdiambcjghlffaa.T
open Go.RowKit Go.Proofs.YtdiambcjghlffaaW.PrintWords Go.Proofs.YtdiambcjghlffaaW.PrintMore
open Go.Proofs.Ytdiambcjghlffaa.P
set_option linter.unusedVariables false
set_option linter.unusedSimpArgs false

end Go.Proofs.Ytdiambcjghlffaa.T
