-- printed by a program of this session (wip/printx) out of the translation; Lean checks it
import Derived.Test.YtppmbdfbhahngaaVFnExactFairLeave
import Derived.Test.YtppmbdfbhahngaaPFnExactFairLeavex0
import Derived.Test.YtppmbdfbhahngaaPFnExactFairLeavex1
import Derived.Test.YtppmbdfbhahngaaPFnExactFairLeavex7
namespace Go.Proofs.Ytppmbdfbhahngaa.PFnExactFairLeave
open Go.RowKit Go.Proofs.YtppmbdfbhahngaaW.PrintWords Go.Proofs.YtppmbdfbhahngaaW.PrintLast Go.Proofs.YtppmbdfbhahngaaW.PrintMore
attribute [local go_sem] max2_int min2_int max_two min_two max_three min_three max_four min_four   -- for this text's walks alone
set_option linter.unusedVariables false
set_option linter.unusedSimpArgs false

attribute [local go_sem high] eqA28
/-! ### impl_both: function 84 -/
def impl_both.T1 : Bool × List (List Nat × List Nat) := (true, [([], []), ([], []), ([1], [1]), ([], []), ([3], [3]), ([0, 2, 4], [0, 2, 4]), ([], []), ([], []), ([7], [7]), ([], []), ([9], [9]), ([6, 8, 10, 5], [6, 8, 10]), ([], []), ([], []), ([13], [13]), ([], []), ([15], [15]), ([12, 14, 16, 11], [12, 14, 16]), ([5, 11, 17], [5, 11, 17]), ([18, 17, 0, 1, 2, 3, 4, 5, 6, 7, 8, 9, 10, 11, 12, 13, 14, 15, 16, 17, 18], [18])])
def impl_both.B1 : List Nat := [0, 0, 2, 0, 8, 31, 0, 0, 128, 0, 512, 2047, 0, 0, 8192, 0, 32768, 131071, 262143, 524287]
theorem impl_both.tab1 : rtab .any (opsOf Try.f84 1) = impl_both.T1 := by kernel_rfl
theorem impl_both.bits1 : waitsOk impl_both.T1.2 impl_both.B1 = true := by kernel_rfl
set_option maxHeartbeats 8000000 in
set_option maxRecDepth 100000 in
theorem impl_both.calls (a0_0 : Int) (a0_1 : Int) (a0_2 : Int) (a1_0 : Int) (a1_1 : Int) (a1_2 : Int) (t104 t105 t106 : Int) (nc : Nat) (fnc : Func) (lb : Array Value) (hf : Try.prog.funcs[nc]? = some fnc) (hname : (fnc.name == "runtime.NumGoroutine") = false) (hbd : fnc.body.isSome = true) (w : World)
  (h1 : ∀ (W : World), Below w.heap.size w W → Calls Try.prog nc (#[.int .i64 a0_0, .int .i64 a1_0] ++ lb) W fun e w' => e = .returned (.int .i64 t104) ∧ Below W.heap.size W w')
  (h2 : ∀ (W : World), Below w.heap.size w W → Calls Try.prog nc (#[.int .i64 a0_1, .int .i64 a1_1] ++ lb) W fun e w' => e = .returned (.int .i64 t105) ∧ Below W.heap.size W w')
  (h3 : ∀ (W : World), Below w.heap.size w W → Calls Try.prog nc (#[.int .i64 a0_2, .int .i64 a1_2] ++ lb) W fun e w' => e = .returned (.int .i64 t106) ∧ Below W.heap.size W w') :
  Calls Try.prog 84 #[.agg #[.int .i64 a0_0, .int .i64 a0_1, .int .i64 a0_2], .agg #[.int .i64 a1_0, .int .i64 a1_1, .int .i64 a1_2], .func (.func nc) #[] lb] w fun e w' => e = .returned (.agg #[.int .i64 t104, .int .i64 t105, .int .i64 t106]) ∧ Below w.heap.size w w' := by
 have HF := Aside0.mk hf
 have HNM := Aside0.mk hname
 have HBD := Aside0.mk hbd
 have HG1 := Aside0.mk h1
 have HG2 := Aside0.mk h2
 have HG3 := Aside0.mk h3
 clear hf hname hbd h1 h2 h3
 have hu28 := Try.underlying28
 have HB := Aside0.mk (Below.refl w.heap.size w)
 go_enter Try.func84, Try.ntmps84
 try go_wp2_with (first | ((with_reducible refine gd_ 3 rfl ?_); refine bv_ 3 #[.int .i64 a0_0, .int .i64 a0_1, .int .i64 a0_2] 28 ?_; intro gb101 hg w6 hbox hb; have BK101 := Aside0.mk (hbox); have GW101 := Aside0.mk ((by rw [hg]; exact (below_size (be_ HB)) : w.heap.size ≤ gb101)); have GE101 := Aside0.mk ((by rw [hg]; exact (below_size (be_ HB)) : w.heap.size ≤ gb101)); replace HB := Aside0.mk (below_step (be_ HB) hb); clear hb hbox hg) | ((with_reducible refine gd_ 4 rfl ?_); refine bv_ 4 #[.int .i64 a1_0, .int .i64 a1_1, .int .i64 a1_2] 28 ?_; intro gb102 hg w7 hbox hb; have BK102 := Aside0.mk (hbox); have GW102 := Aside0.mk ((by rw [hg]; exact (below_size (by repeat (first | (with_reducible first | exact HB.out | apply below_alloc | apply pw_below_drewN | apply below_drew1 | refine below_set ?_ GE101.out) | exact HB.out))) : w.heap.size ≤ gb102)); have GE102 := Aside0.mk ((by rw [hg]; exact (below_size (by repeat (first | (with_reducible first | exact HB.out | apply below_alloc | apply pw_below_drewN | apply below_drew1 | refine below_set ?_ GE101.out) | exact HB.out))) : w.heap.size ≤ gb102)); replace HB := Aside0.mk (below_step (by repeat (first | (with_reducible first | exact HB.out | apply below_alloc | apply pw_below_drewN | apply below_drew1 | refine below_set ?_ GE101.out) | exact HB.out)) hb); have NB101_102 := Aside0.mk ((by rw [hg]; exact Nat.ne_of_lt (blk_lt (g := gb101) (o := .cells #[.int .i64 a0_0, .int .i64 a0_1, .int .i64 a0_2] 28 (0, 0)) (bk_ BK101)) : gb101 ≠ gb102)); have NB102_101 := Aside0.mk ((by rw [hg]; exact Nat.ne_of_gt (blk_lt (g := gb101) (o := .cells #[.int .i64 a0_0, .int .i64 a0_1, .int .i64 a0_2] 28 (0, 0)) (bk_ BK101)) : gb102 ≠ gb101)); replace BK101 := Aside0.mk (blk_below (g := gb101) (o := .cells #[.int .i64 a0_0, .int .i64 a0_1, .int .i64 a0_2] 28 (0, 0)) (bk_ BK101) hb); clear hb hbox hg) | ((with_reducible refine gd_ 6 rfl ?_); refine bv_ 6 #[.int .i64 0, .int .i64 0, .int .i64 0] 28 ?_; intro gb103 hg w8 hbox hb; have BK103 := Aside0.mk (hbox); have GW103 := Aside0.mk ((by rw [hg]; exact (below_size (by repeat (first | (with_reducible first | exact HB.out | apply below_alloc | apply pw_below_drewN | apply below_drew1 | refine below_set ?_ GE101.out | refine below_set ?_ GE102.out) | exact HB.out))) : w.heap.size ≤ gb103)); have GE103 := Aside0.mk ((by rw [hg]; exact (below_size (by repeat (first | (with_reducible first | exact HB.out | apply below_alloc | apply pw_below_drewN | apply below_drew1 | refine below_set ?_ GE101.out | refine below_set ?_ GE102.out) | exact HB.out))) : w.heap.size ≤ gb103)); replace HB := Aside0.mk (below_step (by repeat (first | (with_reducible first | exact HB.out | apply below_alloc | apply pw_below_drewN | apply below_drew1 | refine below_set ?_ GE101.out | refine below_set ?_ GE102.out) | exact HB.out)) hb); have NB101_103 := Aside0.mk ((by rw [hg]; exact Nat.ne_of_lt (blk_lt (g := gb101) (o := .cells #[.int .i64 a0_0, .int .i64 a0_1, .int .i64 a0_2] 28 (0, 0)) (bk_ BK101)) : gb101 ≠ gb103)); have NB103_101 := Aside0.mk ((by rw [hg]; exact Nat.ne_of_gt (blk_lt (g := gb101) (o := .cells #[.int .i64 a0_0, .int .i64 a0_1, .int .i64 a0_2] 28 (0, 0)) (bk_ BK101)) : gb103 ≠ gb101)); replace BK101 := Aside0.mk (blk_below (g := gb101) (o := .cells #[.int .i64 a0_0, .int .i64 a0_1, .int .i64 a0_2] 28 (0, 0)) (bk_ BK101) hb); have NB102_103 := Aside0.mk ((by rw [hg]; exact Nat.ne_of_lt (blk_lt (g := gb102) (o := .cells #[.int .i64 a1_0, .int .i64 a1_1, .int .i64 a1_2] 28 (0, 0)) (bk_ BK102)) : gb102 ≠ gb103)); have NB103_102 := Aside0.mk ((by rw [hg]; exact Nat.ne_of_gt (blk_lt (g := gb102) (o := .cells #[.int .i64 a1_0, .int .i64 a1_1, .int .i64 a1_2] 28 (0, 0)) (bk_ BK102)) : gb103 ≠ gb102)); replace BK102 := Aside0.mk (blk_below (g := gb102) (o := .cells #[.int .i64 a1_0, .int .i64 a1_1, .int .i64 a1_2] 28 (0, 0)) (bk_ BK102) hb); clear hb hbox hg))
 have n0_ := Aside0.mk (blk_drew BK101.out)
 have n1_ := Aside0.mk (blk_drew BK102.out)
 have n2_ := Aside0.mk (blk_drew BK103.out)
 have n3_ := Aside0.mk (below_drew1 HB.out)
 clear BK101
 clear BK102
 clear BK103
 clear HB
 have BK101 := n0_
 have BK102 := n1_
 have BK103 := n2_
 have HB := n3_
 clear n0_ n1_ n2_ n3_
 refine start_ (n := 20) (S := fun w' => cw_ w' gb101 0 (.int .i64 a0_0) ∧ cw_ w' gb101 1 (.int .i64 a0_1) ∧ cw_ w' gb101 2 (.int .i64 a0_2) ∧ cw_ w' gb102 0 (.int .i64 a1_0) ∧ cw_ w' gb102 1 (.int .i64 a1_1) ∧ cw_ w' gb102 2 (.int .i64 a1_2)) (ds := []) (bs 20 0) (by kernel_rfl) rfl rfl ⟨(blk_cell BK101.out 0).trans rfl, (blk_cell BK101.out 1).trans rfl, (blk_cell BK101.out 2).trans rfl, (blk_cell BK102.out 0).trans rfl, (blk_cell BK102.out 1).trans rfl, (blk_cell BK102.out 2).trans rfl⟩ (fun hHeld => ?_); refine with_tabW impl_both.tab1 impl_both.bits1 (fun HT_ HW_ => ?_)
 generalize w8.drew = w9 at BK101 BK102 BK103 HB hHeld ⊢
 iterate 2 (refine psn_ HT_ ?_)
 refine ps_ 3 10 (bm 20 11) HT_ ?_
 refine ps_ 6 13 (bm 20 75) HT_ ?_
 refine ps_ 7 14 (bm 20 203) HT_ ?_
 refine ps_ 9 16 (bm 20 715) HT_ ?_
 refine ps_ 12 19 (bm 20 4811) HT_ ?_
 refine ps_ 13 20 (bm 20 13003) HT_ ?_
 refine ps_ 15 22 (bm 20 45771) HT_ ?_
 refine tk_ 2 9 (bm 20 45775) HT_ HW_ hHeld ?_
 refine tk_ 4 11 (bm 20 45791) HT_ HW_ hHeld ?_
 refine tk_ 8 15 (bm 20 46047) HT_ HW_ hHeld ?_
 refine tk_ 10 17 (bm 20 47071) HT_ HW_ hHeld ?_
 refine tk_ 14 21 (bm 20 63455) HT_ HW_ hHeld ?_
 refine tk_ 16 23 (bm 20 128991) HT_ HW_ hHeld ?_
 refine on_ 5 (some 12) (bm 20 129023) HT_ (fun K hK => ?_)
 refine goesV_ (t := 7) HF.out HNM.out HBD.out #[.int .i64 a0_0, .int .i64 a1_0] lb (by rfl) rfl rfl (by rfl) mt_ ?_
 refine (HG1.out _ (by repeat (first | (with_reducible first | exact HB.out | apply below_alloc | apply pw_below_drewN | apply below_drew1 | refine below_set ?_ GE101.out | refine below_set ?_ GE102.out | refine below_set ?_ GE103.out) | exact HB.out))).mono ?_
 rintro e w10 ⟨rfl, hb⟩
 refine ⟨_, rfl, ?_⟩
 have n0_ := Aside0.mk (blk_below (g := gb101) (o := .cells #[.int .i64 a0_0, .int .i64 a0_1, .int .i64 a0_2] 28 (0, 0)) (bk_ BK101) hb)
 have n1_ := Aside0.mk (blk_below (g := gb102) (o := .cells #[.int .i64 a1_0, .int .i64 a1_1, .int .i64 a1_2] 28 (0, 0)) (bk_ BK102) hb)
 have n2_ := Aside0.mk (blk_below (g := gb103) (o := .cells #[.int .i64 0, .int .i64 0, .int .i64 0] 28 (0, 0)) (bk_ BK103) hb)
 have n3_ := Aside0.mk (below_step (by repeat (first | (with_reducible first | exact HB.out | apply below_alloc | apply pw_below_drewN | apply below_drew1 | refine below_set ?_ GE101.out | refine below_set ?_ GE102.out | refine below_set ?_ GE103.out) | exact HB.out)) hb)
 clear BK101
 clear BK102
 clear BK103
 clear HB
 have BK101 := n0_
 have BK102 := n1_
 have BK103 := n2_
 have HB := n3_
 clear n0_ n1_ n2_ n3_
 (try clear hb)
 (try clear hb2)
 (try clear hk)
 (try clear hi)
 refine hK.out _ _ ⟨(blk_cell BK101.out 0).trans rfl, (blk_cell BK101.out 1).trans rfl, (blk_cell BK101.out 2).trans rfl, (blk_cell BK102.out 0).trans rfl, (blk_cell BK102.out 1).trans rfl, (blk_cell BK102.out 2).trans rfl⟩ (fun hHeld => ?_)
 clear hK K
 refine norm_ (a' := ?_) ?_ ?_
 rotate_left
 ·show Act.put _ (some 12) _ = _
  simp only [Act.put, ls0_, ls1_, ls2_, i64_w, i32_w]
  rfl
 refine on_ 11 (some 18) (bs 20 17) HT_ (fun K hK => ?_)
 refine goesV_ (t := 13) HF.out HNM.out HBD.out #[.int .i64 a0_1, .int .i64 a1_1] lb (by rfl) rfl rfl (by rfl) mt_ ?_
 refine (HG2.out _ (by repeat (first | (with_reducible first | exact HB.out | apply below_alloc | apply pw_below_drewN | apply below_drew1 | refine below_set ?_ GE101.out | refine below_set ?_ GE102.out | refine below_set ?_ GE103.out) | exact HB.out))).mono ?_
 rintro e w11 ⟨rfl, hb⟩
 refine ⟨_, rfl, ?_⟩
 have n0_ := Aside0.mk (blk_below (g := gb101) (o := .cells #[.int .i64 a0_0, .int .i64 a0_1, .int .i64 a0_2] 28 (0, 0)) (bk_ BK101) hb)
 have n1_ := Aside0.mk (blk_below (g := gb102) (o := .cells #[.int .i64 a1_0, .int .i64 a1_1, .int .i64 a1_2] 28 (0, 0)) (bk_ BK102) hb)
 have n2_ := Aside0.mk (blk_below (g := gb103) (o := .cells #[.int .i64 0, .int .i64 0, .int .i64 0] 28 (0, 0)) (bk_ BK103) hb)
 have n3_ := Aside0.mk (below_step (by repeat (first | (with_reducible first | exact HB.out | apply below_alloc | apply pw_below_drewN | apply below_drew1 | refine below_set ?_ GE101.out | refine below_set ?_ GE102.out | refine below_set ?_ GE103.out) | exact HB.out)) hb)
 clear BK101
 clear BK102
 clear BK103
 clear HB
 have BK101 := n0_
 have BK102 := n1_
 have BK103 := n2_
 have HB := n3_
 clear n0_ n1_ n2_ n3_
 (try clear hb)
 (try clear hb2)
 (try clear hk)
 (try clear hi)
 refine hK.out _ _ ⟨(blk_cell BK101.out 0).trans rfl, (blk_cell BK101.out 1).trans rfl, (blk_cell BK101.out 2).trans rfl, (blk_cell BK102.out 0).trans rfl, (blk_cell BK102.out 1).trans rfl, (blk_cell BK102.out 2).trans rfl⟩ (fun hHeld => ?_)
 clear hK K
 refine norm_ (a' := ?_) ?_ ?_
 rotate_left
 ·show Act.put _ (some 18) _ = _
  simp only [Act.put, ls0_, ls1_, ls2_, i64_w, i32_w]
  rfl
 refine on_ 17 (some 24) (bs 20 18) HT_ (fun K hK => ?_)
 refine goesV_ (t := 19) HF.out HNM.out HBD.out #[.int .i64 a0_2, .int .i64 a1_2] lb (by rfl) rfl rfl (by rfl) mt_ ?_
 refine (HG3.out _ (by repeat (first | (with_reducible first | exact HB.out | apply below_alloc | apply pw_below_drewN | apply below_drew1 | refine below_set ?_ GE101.out | refine below_set ?_ GE102.out | refine below_set ?_ GE103.out) | exact HB.out))).mono ?_
 rintro e w12 ⟨rfl, hb⟩
 refine ⟨_, rfl, ?_⟩
 have n0_ := Aside0.mk (blk_below (g := gb101) (o := .cells #[.int .i64 a0_0, .int .i64 a0_1, .int .i64 a0_2] 28 (0, 0)) (bk_ BK101) hb)
 have n1_ := Aside0.mk (blk_below (g := gb102) (o := .cells #[.int .i64 a1_0, .int .i64 a1_1, .int .i64 a1_2] 28 (0, 0)) (bk_ BK102) hb)
 have n2_ := Aside0.mk (blk_below (g := gb103) (o := .cells #[.int .i64 0, .int .i64 0, .int .i64 0] 28 (0, 0)) (bk_ BK103) hb)
 have n3_ := Aside0.mk (below_step (by repeat (first | (with_reducible first | exact HB.out | apply below_alloc | apply pw_below_drewN | apply below_drew1 | refine below_set ?_ GE101.out | refine below_set ?_ GE102.out | refine below_set ?_ GE103.out) | exact HB.out)) hb)
 clear BK101
 clear BK102
 clear BK103
 clear HB
 have BK101 := n0_
 have BK102 := n1_
 have BK103 := n2_
 have HB := n3_
 clear n0_ n1_ n2_ n3_
 (try clear hb)
 (try clear hb2)
 (try clear hk)
 (try clear hi)
 refine hK.out _ _ ⟨(blk_cell BK101.out 0).trans rfl, (blk_cell BK101.out 1).trans rfl, (blk_cell BK101.out 2).trans rfl, (blk_cell BK102.out 0).trans rfl, (blk_cell BK102.out 1).trans rfl, (blk_cell BK102.out 2).trans rfl⟩ (fun hHeld => ?_)
 clear hK K
 refine norm_ (a' := ?_) ?_ ?_
 rotate_left
 ·show Act.put _ (some 24) _ = _
  simp only [Act.put, ls0_, ls1_, ls2_, i64_w, i32_w]
  rfl
 refine psn_ HT_ ?_
 refine on_ 19 none (bs 20 20) HT_ (fun K hK => ?_)
 have hs13 : w12.cell? ⟨gb103, 0, none⟩ = some (.int .i64 0) := (blk_cell BK103.out 0).trans rfl
 have hfs13 := blk_frozen BK103.out 0
 have hns13_0 := NB101_103.out
 have hns13_1 := NB102_103.out
 have hms13_0 := NB103_101.out
 have hms13_1 := NB103_102.out
 have hs14 : w12.cell? ⟨gb103, 1, none⟩ = some (.int .i64 0) := (blk_cell BK103.out 1).trans rfl
 have hfs14 := blk_frozen BK103.out 1
 have hns14_0 := NB101_103.out
 have hns14_1 := NB102_103.out
 have hms14_0 := NB103_101.out
 have hms14_1 := NB103_102.out
 have hs15 : w12.cell? ⟨gb103, 2, none⟩ = some (.int .i64 0) := (blk_cell BK103.out 2).trans rfl
 have hfs15 := blk_frozen BK103.out 2
 have hns15_0 := NB101_103.out
 have hns15_1 := NB102_103.out
 have hms15_0 := NB103_101.out
 have hms15_1 := NB103_102.out
 refine skip_ (w1 := ?_) (by rfl) rfl ?_ ?_
 rotate_left
 ·go_simp
  rfl
 refine hK.out _ _ ⟨(cf3_ NB101_103.out hHeld.1), (cf3_ NB101_103.out hHeld.2.1), (cf3_ NB101_103.out hHeld.2.2.1), (cf3_ NB102_103.out hHeld.2.2.2.1), (cf3_ NB102_103.out hHeld.2.2.2.2.1), (cf3_ NB102_103.out hHeld.2.2.2.2.2)⟩ (fun hHeld => ?_)
 clear hK K
 refine done_ (done_of HT_.out (by kernel_rfl)) ?_
 try go_wp2
 refine bodyPost_ret (results_cell_row rfl _ _ gb103 28 #[.int .i64 t104, .int .i64 t105, .int .i64 t106] (0, 0) _ rfl (by (with_reducible repeat (first | refine blk_drewN ?_ _ | refine blk_drew ?_ | refine blk_alloc ?_ _)); refine blk_put (cs := #[.int .i64 t104, .int .i64 t105, .int .i64 0]) ?_ 2 _ rfl; (with_reducible repeat (first | refine blk_drewN ?_ _ | refine blk_drew ?_ | refine blk_alloc ?_ _)); refine blk_put (cs := #[.int .i64 t104, .int .i64 0, .int .i64 0]) ?_ 1 _ rfl; (with_reducible repeat (first | refine blk_drewN ?_ _ | refine blk_drew ?_ | refine blk_alloc ?_ _)); refine blk_put (cs := #[.int .i64 0, .int .i64 0, .int .i64 0]) ?_ 0 _ rfl; exact bk_ BK103) Try.underlying28 rfl (by kernel_rfl)) rfl ?_
 exact ⟨by first | rfl | (simp [errW_none, errW_some] <;> rfl) | (simp [*, errW_none, errW_some] <;> rfl), by repeat (first | (with_reducible first | exact HB.out | apply below_alloc | apply pw_below_drewN | apply below_drew1 | refine below_set ?_ GE101.out | refine below_set ?_ GE102.out | refine below_set ?_ GE103.out) | exact HB.out)⟩


def impl_both_85.f (a0_0 : Int) (a0_1 : Int) (a0_2 : Int) (a1_0 : Int) (a1_1 : Int) (a1_2 : Int) : Option (Int × Int × Int) := (impl_VecMost_1.f a0_0 a1_0).bind fun r1 => (impl_VecMost_1.f a0_1 a1_1).bind fun r2 => (impl_VecMost_1.f a0_2 a1_2).bind fun r3 => some (r1, r2, r3)
theorem impl_both_85.calls (a0_0 : Int) (a0_1 : Int) (a0_2 : Int) (a1_0 : Int) (a1_1 : Int) (a1_2 : Int) (r1 r2 r3 : Int) (w : World) (h : impl_both_85.f a0_0 a0_1 a0_2 a1_0 a1_1 a1_2 = some (r1, r2, r3)) :
  Calls Try.prog 84 #[.agg #[.int .i64 a0_0, .int .i64 a0_1, .int .i64 a0_2], .agg #[.int .i64 a1_0, .int .i64 a1_1, .int .i64 a1_2], .func (.func 85) #[] #[]] w fun e w' => e = .returned (.agg #[.int .i64 r1, .int .i64 r2, .int .i64 r3]) ∧ Below w.heap.size w w' := by
 unfold impl_both_85.f at h
 obtain ⟨q1, h1, h⟩ := Option.bind_eq_some_iff.mp h
 obtain ⟨q2, h2, h⟩ := Option.bind_eq_some_iff.mp h
 obtain ⟨q3, h3, h⟩ := Option.bind_eq_some_iff.mp h
 simp only [Option.some.injEq, Prod.mk.injEq] at h
 obtain ⟨e1, e2, e3⟩ := h
 subst e1 e2 e3
 exact impl_both.calls a0_0 a0_1 a0_2 a1_0 a1_1 a1_2 q1 q2 q3 85 Try.f85 #[] Try.func85 (by kernel_rfl) rfl w (fun W _ => impl_VecMost_1.calls a0_0 a1_0 q1 W h1) (fun W _ => impl_VecMost_1.calls a0_1 a1_1 q2 W h2) (fun W _ => impl_VecMost_1.calls a0_2 a1_2 q3 W h3)

/-! ### impl_VecMost: function 55 -/
def impl_VecMost.f (a0_0 : Int) (a0_1 : Int) (a0_2 : Int) (a1_0 : Int) (a1_1 : Int) (a1_2 : Int) : Option (Int × Int × Int) := (impl_both_85.f a0_0 a0_1 a0_2 a1_0 a1_1 a1_2).bind fun bt225 => (some (bt225.1, bt225.2.1, bt225.2.2))
set_option maxHeartbeats 8000000 in
set_option maxRecDepth 100000 in
theorem impl_VecMost.calls (a0_0 : Int) (a0_1 : Int) (a0_2 : Int) (a1_0 : Int) (a1_1 : Int) (a1_2 : Int) (r1 : Int) (r2 : Int) (r3 : Int) (w : World) (h : impl_VecMost.f a0_0 a0_1 a0_2 a1_0 a1_1 a1_2 = some (r1, r2, r3)) :
  Calls Try.prog 55 #[.agg #[.int .i64 a0_0, .int .i64 a0_1, .int .i64 a0_2], .agg #[.int .i64 a1_0, .int .i64 a1_1, .int .i64 a1_2]] w fun e w' => e = .returned (.agg #[.int .i64 r1, .int .i64 r2, .int .i64 r3]) ∧ Below w.heap.size w w' := by
 have hu28 := Try.underlying28; have HB := Aside0.mk (Below.refl w.heap.size w)
 have H := h
 clear h
 unfold impl_VecMost.f at H
 replace H := Option.bind_eq_some_iff.mp H
 obtain ⟨⟨t225, t226, t227⟩, A30, H⟩ := H
 have A3 := Aside0.mk A30
 clear A30
 simp only [Option.some.injEq, Prod.mk.injEq] at H
 obtain ⟨rfl, rfl, rfl⟩ := H
 go_enter Try.func55, Try.ntmps55
 go_wp2_with (first | ((with_reducible refine gd_ 2 rfl ?_); refine bv_ 2 #[.int .i64 a0_0, .int .i64 a0_1, .int .i64 a0_2] 28 ?_; intro gb222 hg w4 hbox hb; have BK222 := Aside0.mk (hbox); have GW222 := gw_ HB hg; have GE222 := gw_ HB hg; replace HB := Aside0.mk (below_step (be_ HB) hb); clear hb hbox hg) | ((with_reducible refine gd_ 3 rfl ?_); refine bv_ 3 #[.int .i64 a1_0, .int .i64 a1_1, .int .i64 a1_2] 28 ?_; intro gb223 hg w5 hbox hb; have BK223 := Aside0.mk (hbox); have GW223 := gw_ HB hg; have GE223 := gw_ HB hg; replace HB := Aside0.mk (below_step (bf_ HB) hb); have NB222_223 := nl_ BK222 hg; have NB223_222 := ng_ BK222 hg; replace BK222 := bb_ BK222 hb; clear hb hbox hg) | ((with_reducible refine gd_ 4 rfl ?_); refine bv_ 4 #[.int .i64 0, .int .i64 0, .int .i64 0] 28 ?_; intro gb224 hg w6 hbox hb; have BK224 := Aside0.mk (hbox); have GW224 := gw_ HB hg; have GE224 := gw_ HB hg; replace HB := Aside0.mk (below_step (bf_ HB) hb); have NB222_224 := nl_ BK222 hg; have NB224_222 := ng_ BK222 hg; replace BK222 := bb_ BK222 hb; have NB223_224 := nl_ BK223 hg; have NB224_223 := ng_ BK223 hg; replace BK223 := bb_ BK223 hb; clear hb hbox hg; have hnb7 := NB222_223.out; have hnc7 := NB223_222.out; have hnb8 := NB222_224.out; have hnc8 := NB224_222.out; obtain ⟨hcz9_0, hcz9_1, hcz9_2, hfz9_0, hfz9_1, hfz9_2⟩ := bz3_ BK222; have hnb10 := NB223_224.out; have hnc10 := NB224_223.out; obtain ⟨hcz11_0, hcz11_1, hcz11_2, hfz11_0, hfz11_1, hfz11_2⟩ := bz3_ BK223) | ((with_reducible refine gc_ 84 rfl ?_); refine gl_ 7 Try.func84 #[.agg #[.int .i64 a0_0, .int .i64 a0_1, .int .i64 a0_2], .agg #[.int .i64 a1_0, .int .i64 a1_1, .int .i64 a1_2], .func (.func 85) #[] #[]] ?_; (with_reducible refine (impl_both_85.calls a0_0 a0_1 a0_2 a1_0 a1_1 a1_2 t225 t226 t227 _ A3.out).mono ?_); rintro e w12 ⟨rfl, hb⟩; refine ⟨_, rfl, ?_⟩; replace BK222 := bb_ BK222 hb; replace BK223 := bb_ BK223 hb; replace BK224 := bb_ BK224 hb; replace HB := Aside0.mk (below_step (bf_ HB) hb); (try clear hb); (try clear hb2); (try clear hk); (try clear hi); obtain ⟨hcz13_0, hcz13_1, hcz13_2, hfz13_0, hfz13_1, hfz13_2⟩ := bz3_ BK224))
 refine bodyPost_ret (results_cell_row rfl _ _ gb224 28 #[.int .i64 t225, .int .i64 t226, .int .i64 t227] (0, 0) _ rfl (by (with_reducible repeat (first | refine blk_drewN ?_ _ | refine blk_drew ?_ | refine blk_alloc ?_ _)); refine blk_put (cs := #[.int .i64 t225, .int .i64 t226, .int .i64 0]) ?_ 2 _ rfl; (with_reducible repeat (first | refine blk_drewN ?_ _ | refine blk_drew ?_ | refine blk_alloc ?_ _)); refine blk_put (cs := #[.int .i64 t225, .int .i64 0, .int .i64 0]) ?_ 1 _ rfl; (with_reducible repeat (first | refine blk_drewN ?_ _ | refine blk_drew ?_ | refine blk_alloc ?_ _)); refine blk_put (cs := #[.int .i64 0, .int .i64 0, .int .i64 0]) ?_ 0 _ rfl; exact bk_ BK224) Try.underlying28 rfl (by kernel_rfl)) rfl ?_
 exact ⟨by first | rfl | (simp [errW_none, errW_some] <;> rfl) | (simp [*, errW_none, errW_some] <;> rfl), bf_ HB⟩

/-! ### impl_Fair_owes: function 37 -/
def impl_Fair_owes.f (a0_0 : Int) (a0_1 : Int) (a0_2 : Int) (a0_3 : Int) (l0_4 : List (S46)) (a1_0 : Int) (a1_1 : Int) (a1_2 : Bool) (a1_3 : Int) (a1_4 : Int) (a1_5 : Int) : Option (Bool) := if a1_2 = true then (some true) else ((impl_VecMost.f a1_3 a1_4 a1_5 a0_1 a0_2 a0_3).bind fun bt230 => (some (!(bt230.1 == a0_1) || (!(bt230.2.1 == a0_2) || (!(bt230.2.2 == a0_3))))))
def impl_Fair_owes.T1 : Bool × List (List Nat × List Nat) := (true, [([], []), ([0], [0]), ([1], [1]), ([2], [2]), ([3, 2], [2, 3]), ([2], [2]), ([5, 2], [2, 5]), ([4, 6, 2, 2], [2, 4, 6]), ([2], [2]), ([8, 2], [2, 8]), ([7, 9, 2], [2, 7, 9]), ([2, 10], [2, 10]), ([11, 7, 0, 1, 2, 3, 4, 5, 6, 7, 8, 9, 10, 11], [11])])
def impl_Fair_owes.B1 : List Nat := [0, 1, 3, 7, 15, 7, 39, 127, 7, 263, 1023, 2047, 4095]
theorem impl_Fair_owes.tab1 : rtab .any (opsOf Try.f37 1) = impl_Fair_owes.T1 := by kernel_rfl
theorem impl_Fair_owes.bits1 : waitsOk impl_Fair_owes.T1.2 impl_Fair_owes.B1 = true := by kernel_rfl
set_option maxHeartbeats 8000000 in
set_option maxRecDepth 100000 in
theorem impl_Fair_owes.calls (a0_0 : Int) (a0_1 : Int) (a0_2 : Int) (a0_3 : Int) (A0_4 : Option Addr) (c0_4 : Nat) (l0_4 : List (S46)) (a1_0 : Int) (a1_1 : Int) (a1_2 : Bool) (a1_3 : Int) (a1_4 : Int) (a1_5 : Int) (r : Bool) (w : World) (hr0_4 : Kd.C k46 w A0_4 l0_4.length l0_4) (hc0_4 : l0_4.length ≤ c0_4) (h : impl_Fair_owes.f a0_0 a0_1 a0_2 a0_3 l0_4 a1_0 a1_1 a1_2 a1_3 a1_4 a1_5 = some r) :
  Calls Try.prog 37 #[.agg #[.int .i64 a0_0, .int .i64 a0_1, .int .i64 a0_2, .int .i64 a0_3, .slice A0_4 l0_4.length c0_4], .agg #[.int .i64 a1_0, .int .i64 a1_1, .bool a1_2, .int .i64 a1_3, .int .i64 a1_4, .int .i64 a1_5]] w fun e w' => e = .returned (.bool r) ∧ Below w.heap.size w w' := by
 have hu31 := Try.underlying31; have hu46 := Try.underlying46; have hu28 := Try.underlying28
 have HR0_4 := Aside0.mk hr0_4
 have HC0_4 := Aside0.mk hc0_4
 clear hr0_4 hc0_4; have HB := Aside0.mk (Below.refl w.heap.size w)
 have H := h
 clear h
 unfold impl_Fair_owes.f at H
 by_cases c3 : a1_2 = true
 ·subst c3
  rw [if_pos rfl] at H
  obtain rfl := Option.some.inj H
  go_enter Try.func37, Try.ntmps37
  try go_wp2_with (first | ((with_reducible refine gd_ 2 rfl ?_); refine bv_ 2 #[.int .i64 a0_0, .int .i64 a0_1, .int .i64 a0_2, .int .i64 a0_3, .slice A0_4 l0_4.length c0_4] 31 ?_; intro gb228 hg w4 hbox hb; have BK228 := Aside0.mk (hbox); have GW228 := gw_ HB hg; have GE228 := gw_ HB hg; replace HB := Aside0.mk (below_step (be_ HB) hb); clear hb hbox hg) | ((with_reducible refine gd_ 3 rfl ?_); refine bv_ 3 #[.int .i64 a1_0, .int .i64 a1_1, .bool true, .int .i64 a1_3, .int .i64 a1_4, .int .i64 a1_5] 46 ?_; intro gb229 hg w5 hbox hb; have BK229 := Aside0.mk (hbox); have GW229 := gw_ HB hg; have GE229 := gw_ HB hg; replace HB := Aside0.mk (below_step (bf_ HB) hb); have NB228_229 := nl_ BK228 hg; have NB229_228 := ng_ BK228 hg; replace BK228 := bb_ BK228 hb; clear hb hbox hg))
  replace BK228 := Aside0.mk (blk_drew BK228.out); replace BK229 := Aside0.mk (blk_drew BK229.out); replace HB := Aside0.mk (below_drew1 HB.out)
  refine start_ (n := 13) (S := fun w' => cw_ w' gb229 0 (.int .i64 a1_0) ∧ cw_ w' gb229 1 (.int .i64 a1_1) ∧ cw_ w' gb229 2 (.bool true) ∧ cw_ w' gb229 3 (.int .i64 a1_3) ∧ cw_ w' gb229 4 (.int .i64 a1_4) ∧ cw_ w' gb229 5 (.int .i64 a1_5)) (ds := []) (bs 13 0) (by kernel_rfl) rfl rfl ⟨bt_ BK229 0, bt_ BK229 1, bt_ BK229 2, bt_ BK229 3, bt_ BK229 4, bt_ BK229 5⟩ (fun hHeld => ?_); refine with_tabW impl_Fair_owes.tab1 impl_Fair_owes.bits1 (fun HT_ HW_ => ?_)
  generalize w5.drew = w6 at BK228 BK229 HB hHeld ⊢
  refine psn_ HT_ ?_
  refine tkn_ HT_ HW_ hHeld ?_
  refine psn_ HT_ ?_
  iterate 8 (refine pun_ HT_ ?_)
  iterate 2 (refine psn_ HT_ ?_)
  refine done_ (done_of HT_.out (by kernel_rfl)) ?_
  try go_wp2
  go_ret
  exact ⟨by first | rfl | (simp [errW_none, errW_some] <;> rfl) | (simp [*, errW_none, errW_some] <;> rfl), bf_ HB⟩
 ·replace c3 := Bool.eq_false_iff.mpr c3
  subst c3
  rw [if_neg (show ¬ (false = true) by decide)] at H
  replace H := Option.bind_eq_some_iff.mp H
  obtain ⟨⟨t230, t231, t232⟩, A70, H⟩ := H
  have A7 := Aside0.mk A70
  clear A70
  obtain rfl := Option.some.inj H
  go_enter Try.func37, Try.ntmps37
  try go_wp2_with (first | ((with_reducible refine gd_ 2 rfl ?_); refine bv_ 2 #[.int .i64 a0_0, .int .i64 a0_1, .int .i64 a0_2, .int .i64 a0_3, .slice A0_4 l0_4.length c0_4] 31 ?_; intro gb228 hg w8 hbox hb; have BK228 := Aside0.mk (hbox); have GW228 := gw_ HB hg; have GE228 := gw_ HB hg; replace HB := Aside0.mk (below_step (be_ HB) hb); clear hb hbox hg) | ((with_reducible refine gd_ 3 rfl ?_); refine bv_ 3 #[.int .i64 a1_0, .int .i64 a1_1, .bool false, .int .i64 a1_3, .int .i64 a1_4, .int .i64 a1_5] 46 ?_; intro gb229 hg w9 hbox hb; have BK229 := Aside0.mk (hbox); have GW229 := gw_ HB hg; have GE229 := gw_ HB hg; replace HB := Aside0.mk (below_step (bf_ HB) hb); have NB228_229 := nl_ BK228 hg; have NB229_228 := ng_ BK228 hg; replace BK228 := bb_ BK228 hb; clear hb hbox hg))
  replace BK228 := Aside0.mk (blk_drew BK228.out); replace BK229 := Aside0.mk (blk_drew BK229.out); replace HB := Aside0.mk (below_drew1 HB.out)
  refine start_ (n := 13) (S := fun w' => cw_ w' gb229 0 (.int .i64 a1_0) ∧ cw_ w' gb229 1 (.int .i64 a1_1) ∧ cw_ w' gb229 2 (.bool false) ∧ cw_ w' gb229 3 (.int .i64 a1_3) ∧ cw_ w' gb229 4 (.int .i64 a1_4) ∧ cw_ w' gb229 5 (.int .i64 a1_5) ∧ cw_ w' gb228 0 (.int .i64 a0_0) ∧ cw_ w' gb228 1 (.int .i64 a0_1) ∧ cw_ w' gb228 2 (.int .i64 a0_2) ∧ cw_ w' gb228 3 (.int .i64 a0_3) ∧ cw_ w' gb228 4 (.slice A0_4 l0_4.length c0_4)) (ds := []) (bs 13 0) (by kernel_rfl) rfl rfl ⟨bt_ BK229 0, bt_ BK229 1, bt_ BK229 2, bt_ BK229 3, bt_ BK229 4, bt_ BK229 5, bt_ BK228 0, bt_ BK228 1, bt_ BK228 2, bt_ BK228 3, bt_ BK228 4⟩ (fun hHeld => ?_); refine with_tabW impl_Fair_owes.tab1 impl_Fair_owes.bits1 (fun HT_ HW_ => ?_)
  generalize w9.drew = w10 at BK228 BK229 HB hHeld ⊢
  refine psn_ HT_ ?_
  refine tkn_ HT_ HW_ hHeld ?_
  iterate 2 (refine psn_ HT_ ?_)
  refine ps_ 5 10 (bm 13 47) HT_ ?_
  refine ps_ 8 13 (bm 13 303) HT_ ?_
  refine tk_ 4 9 (bm 13 319) HT_ HW_ hHeld ?_
  refine tk_ 6 11 (bm 13 383) HT_ HW_ hHeld ?_
  refine tk_ 9 14 (bm 13 895) HT_ HW_ hHeld ?_
  refine on_ 7 (some 12) (bs 13 10) HT_ (fun K hK => ?_)
  refine gs_ Try.func55 #[.agg #[.int .i64 a1_3, .int .i64 a1_4, .int .i64 a1_5], .agg #[.int .i64 a0_1, .int .i64 a0_2, .int .i64 a0_3]] ?_
  with_reducible refine (impl_VecMost.calls a1_3 a1_4 a1_5 a0_1 a0_2 a0_3 t230 t231 t232 _ A7.out).mono ?_
  rintro e w11 ⟨rfl, hb⟩
  refine ⟨_, rfl, ?_⟩
  replace BK228 := bb_ BK228 hb; replace BK229 := bb_ BK229 hb; replace HB := Aside0.mk (below_step (bf_ HB) hb); (try clear hb); (try clear hb2); (try clear hk); (try clear hi)
  refine hK.out _ _ ⟨bt_ BK229 0, bt_ BK229 1, bt_ BK229 2, bt_ BK229 3, bt_ BK229 4, bt_ BK229 5, bt_ BK228 0, bt_ BK228 1, bt_ BK228 2, bt_ BK228 3, bt_ BK228 4⟩ (fun hHeld => ?_)
  clear hK K
  refine norm_ (a' := ?_) ?_ ?_
  rotate_left
  ·show Act.put _ (some 12) _ = _
   simp only [Act.put, ls0_, ls1_, ls2_, i64_w, i32_w]
   rfl
  iterate 3 (refine psn_ HT_ ?_)
  refine done_ (done_of HT_.out (by kernel_rfl)) ?_
  try go_wp2
  go_ret
  exact ⟨by first | rfl | (simp [errW_none, errW_some] <;> rfl) | (simp [*, errW_none, errW_some] <;> rfl), bf_ HB⟩

/-! ### impl_Kid_69: function 69 -/
def impl_Kid_69.f (l0 : List (S46)) : Option ((List (S46))) := (some (([] : List (S46)) : List (S46))).bind fun y233 => (if y233.length + l0.length < 2932031007402 then (some (y233 ++ l0)) else (none))
set_option maxHeartbeats 8000000 in
set_option maxRecDepth 100000 in
theorem impl_Kid_69.calls_some (A0 : Addr) (c0 : Nat) (l0 : List (S46)) (r : List (S46)) (w : World) (hr0 : Kd.C k46 w (some A0) l0.length l0) (hc0 : l0.length ≤ c0) (h : impl_Kid_69.f l0 = some r) :
  Calls Try.prog 69 #[.slice (some A0) l0.length c0] w fun e w' => ∃ v0_ : Value, e = .returned (v0_) ∧ Kd.R k46 46 w' w.heap.size (fun _ => True) v0_ r ∧ Below w.heap.size w w' := by
 have hnil0_ := fun (W : World) (n c : Nat) => Lib.run_eql_slice_nil (P := Try.prog) W 29 46 (some A0) n c 0 0 Try.underlying29
 have HR0 := Aside0.mk hr0
 have HC0 := Aside0.mk hc0
 clear hr0 hc0; have HB := Aside0.mk (Below.refl w.heap.size w)
 have H : ((some (([] : List (S46)) : List (S46))).bind fun y233 => (if y233.length + l0.length < 2932031007402 then (some (y233 ++ l0)) else (none))) = some r := h
 clear h
 obtain ⟨y233, hy233⟩ : ∃ y_ : List (S46), y_ = (([] : List (S46))) := ⟨_, rfl⟩
 replace H : (if y233.length + l0.length < 2932031007402 then (some (y233 ++ l0)) else (none)) = some r := by first | (rw [hy233]; with_reducible exact H) | (have H2_ := (Option.bind_some _ _).symm.trans H; rw [hy233]; with_reducible exact H2_) | (have H2_ := (Option.bind_some _ _).symm.trans H; with_reducible exact H2_) | with_reducible exact H | (rw [hy233]; exact H) | exact H
 have Ny233 := Aside0.mk hy233
 clear hy233
 by_cases c2 : y233.length + l0.length < 2932031007402
 ·rw [if_pos c2] at H
  have LMc2 := Aside0.mk c2
  clear c2
  obtain ⟨y236, hy236⟩ : ∃ y_ : List (S46), y_ = (y233 ++ l0) := ⟨_, rfl⟩
  replace H : (some y236) = some r := by first | (rw [hy236]; with_reducible exact H) | (have H2_ := (Option.bind_some _ _).symm.trans H; rw [hy236]; with_reducible exact H2_) | (have H2_ := (Option.bind_some _ _).symm.trans H; with_reducible exact H2_) | with_reducible exact H | (rw [hy236]; exact H) | exact H
  have Ny236 := Aside0.mk hy236
  clear hy236
  obtain rfl := Option.some.inj H
  go_enter Try.func69, Try.ntmps69
  go_wp2_with (first | ((with_reducible refine gd_ 5 rfl ?_); refine Kd.R_lit k46 _ 46 ?hg (N := 5) ?hd (xs := ([] : List (S46))) (inner := []) (ok := fun _ => True) (okp := fun _ => True) ?hr ?hp (fun _ hk => by first | exact hk | grind) trivial (Below.refl _ _) (Nat.le_refl _) (by simp) ?_; (case hd => rfl); (case hg => rfl); (case hr => first | (go_simp; done) | (go_simp; rfl)); (case hp => exact (Reps.none _ _)); intro v234 w3 ho4 hb hg_ hnew_; clear hg_ hnew_; (first | rw [← Ny233.out] at ho4 | (simp only [Int.reduceToNat] at ho4; rw [← Ny233.out] at ho4)); have HO235 := Aside0.mk (Kd.R_lower ho4 (below_size (be_ HB))); replace HB := Aside0.mk (below_step (be_ HB) hb); clear hb ho4) | ((with_reducible refine gate_builtin (b := .append) (xs := #[.tmp 5, .tmp 6]) rfl ?_); at_builtin; refine Kd.R_append_rows k46 (w0 := w) w.heap.size rfl (.tmp 5) (.tmp 6) 29 46 (.agg #[(.int .i64 0), (.int .i64 0), (.bool false), (.int .i64 0), (.int .i64 0), (.int .i64 0)]) 48 rfl Try.underlying29 info46 rfl (by decide) (by omega) v234 y233 l0 _ _ _ (fun _ => True) (fun _ => False) rfl rfl ?aO ?aR (fun _ _ h => h) (fun _ h => h.elim) ?aF ?aB ?aS ?aL ?_; (case aR => repeat (first | exact (Kd.C_below HR0.out HB.out) | (with_reducible refine Kd.C_alloc ?_ _) | (with_reducible refine Kd.C_drewN ?_ _) | (with_reducible refine Kd.C_drew ?_))); (case aB => exact (be_ HB)); (case aF => exact (fun _ _ => trivial)); (case aO => exact (kr_ HO235)); (case aS => exact (below_size (be_ HB))); (case aL => have := LMc2.out; omega); intro v237 w5 ho hb hg hat; rw [← Ny236.out] at ho; replace HB := Aside0.mk (hb); have HO238 := Aside0.mk (ho); clear HO235 ho hb hg hat))
  go_ret
  exact ⟨_, by first | rfl | (simp [errW_none, errW_some] <;> rfl) | (simp [*, errW_none, errW_some] <;> rfl), by (with_reducible repeat (first | apply Kd.R_alloc | apply Kd.R_drewN | apply Kd.R_drew)); exact HO238.out, be_ HB⟩
 ·rw [if_neg c2] at H
  exact absurd H (by simp)
set_option maxHeartbeats 8000000 in
set_option maxRecDepth 100000 in
theorem impl_Kid_69.calls (A0 : Option Addr) (c0 : Nat) (l0 : List (S46)) (r : List (S46)) (w : World) (hr0 : Kd.C k46 w A0 l0.length l0) (hc0 : l0.length ≤ c0) (h : impl_Kid_69.f l0 = some r) :
  Calls Try.prog 69 #[.slice A0 l0.length c0] w fun e w' => ∃ v0_ : Value, e = .returned (v0_) ∧ Kd.R k46 46 w' w.heap.size (fun _ => True) v0_ r ∧ Below w.heap.size w w' := by
  cases A0 with
  | some a_ => exact impl_Kid_69.calls_some a_ c0 l0 r w hr0 hc0 h
  | none =>
    obtain rfl : l0 = [] := by
      rcases l0 with _ | ⟨x_, t_⟩
      · rfl
      · obtain ⟨ad_, h0_, _⟩ := hr0.2.2 (by simp)
        cases h0_
    obtain rfl : r = [] := by simpa [impl_Kid_69.f] using h.symm
    have hnil0_ := fun (W : World) (n c : Nat) => Lib.run_eql_slice_nil (P := Try.prog) W 29 46 none n c 0 0 Try.underlying29
    clear hr0 hc0 h
    go_enter Try.func69, Try.ntmps69
    go_wp2
    go_ret
    exact ⟨_, rfl, Kd.R_nil _ _ _ _ _, Below.refl _ _⟩

/-! ### impl_copyFair: function 38 -/
def impl_copyFair.f (a0_0 : Int) (a0_1 : Int) (a0_2 : Int) (a0_3 : Int) (l0_4 : List (S46)) : Option (Int × Int × Int × Int × (List (S46))) := (impl_Kid_69.f l0_4).bind fun t241 => (some (a0_0, a0_1, a0_2, a0_3, t241))
def impl_copyFair.T1 : Bool × List (List Nat × List Nat) := (true, [([], []), ([0], [0]), ([], []), ([2], [2]), ([], []), ([4], [4]), ([5], [5]), ([1, 3, 6], [1, 3, 6]), ([7, 6, 0, 1, 2, 3, 4, 5, 6, 7], [7])])
def impl_copyFair.B1 : List Nat := [0, 1, 0, 4, 0, 16, 48, 127, 255]
theorem impl_copyFair.tab1 : rtab .any (opsOf Try.f38 1) = impl_copyFair.T1 := by kernel_rfl
theorem impl_copyFair.bits1 : waitsOk impl_copyFair.T1.2 impl_copyFair.B1 = true := by kernel_rfl
set_option maxHeartbeats 8000000 in
set_option maxRecDepth 100000 in
theorem impl_copyFair.calls (a0_0 : Int) (a0_1 : Int) (a0_2 : Int) (a0_3 : Int) (A0_4 : Option Addr) (c0_4 : Nat) (l0_4 : List (S46)) (r1 : Int) (r2 : Int) (r3 : Int) (r4 : Int) (r5 : List (S46)) (w : World) (hr0_4 : Kd.C k46 w A0_4 l0_4.length l0_4) (hc0_4 : l0_4.length ≤ c0_4) (h : impl_copyFair.f a0_0 a0_1 a0_2 a0_3 l0_4 = some (r1, r2, r3, r4, r5)) :
  Calls Try.prog 38 #[.agg #[.int .i64 a0_0, .int .i64 a0_1, .int .i64 a0_2, .int .i64 a0_3, .slice A0_4 l0_4.length c0_4]] w fun e w' => ∃ v4_ : Value, e = .returned (.agg #[.int .i64 r1, .int .i64 r2, .int .i64 r3, .int .i64 r4, v4_]) ∧ Kd.R k46 46 w' w.heap.size (fun _ => True) v4_ r5 ∧ Below w.heap.size w w' := by
 have hu31 := Try.underlying31; have hu28 := Try.underlying28
 have HR0_4 := Aside0.mk hr0_4
 have HC0_4 := Aside0.mk hc0_4
 clear hr0_4 hc0_4; have HB := Aside0.mk (Below.refl w.heap.size w)
 have H := h
 clear h
 unfold impl_copyFair.f at H
 replace H := Option.bind_eq_some_iff.mp H
 obtain ⟨t241, A20, H⟩ := H
 have A2 := Aside0.mk A20
 clear A20
 simp only [Option.some.injEq, Prod.mk.injEq] at H
 obtain ⟨rfl, rfl, rfl, rfl, rfl⟩ := H
 go_enter Try.func38, Try.ntmps38
 try go_wp2_with (first | ((with_reducible refine gd_ 1 rfl ?_); refine bv_ 1 #[.int .i64 a0_0, .int .i64 a0_1, .int .i64 a0_2, .int .i64 a0_3, .slice A0_4 l0_4.length c0_4] 31 ?_; intro gb239 hg w3 hbox hb; have BK239 := Aside0.mk (hbox); have GW239 := gw_ HB hg; have GE239 := gw_ HB hg; replace HB := Aside0.mk (below_step (be_ HB) hb); clear hb hbox hg) | ((with_reducible refine gd_ 2 rfl ?_); refine bv_ 2 #[.int .i64 0, .int .i64 0, .int .i64 0, .int .i64 0, .slice none 0 0] 31 ?_; intro gb240 hg w4 hbox hb; have BK240 := Aside0.mk (hbox); have GW240 := gw_ HB hg; have GE240 := gw_ HB hg; replace HB := Aside0.mk (below_step (bf_ HB) hb); have NB239_240 := nl_ BK239 hg; have NB240_239 := ng_ BK239 hg; replace BK239 := bb_ BK239 hb; clear hb hbox hg))
 replace BK239 := Aside0.mk (blk_drew BK239.out); replace BK240 := Aside0.mk (blk_drew BK240.out); replace HB := Aside0.mk (below_drew1 HB.out)
 refine start_ (n := 9) (S := fun w' => cw_ w' gb239 0 (.int .i64 a0_0) ∧ cw_ w' gb239 1 (.int .i64 a0_1) ∧ cw_ w' gb239 2 (.int .i64 a0_2) ∧ cw_ w' gb239 3 (.int .i64 a0_3) ∧ cw_ w' gb239 4 (.slice A0_4 l0_4.length c0_4)) (ds := []) (bs 9 0) (by kernel_rfl) rfl rfl ⟨bt_ BK239 0, bt_ BK239 1, bt_ BK239 2, bt_ BK239 3, bt_ BK239 4⟩ (fun hHeld => ?_); refine with_tabW impl_copyFair.tab1 impl_copyFair.bits1 (fun HT_ HW_ => ?_)
 generalize w4.drew = w5 at BK239 BK240 HB hHeld ⊢
 refine psn_ HT_ ?_
 refine ps_ 2 5 (bm 9 5) HT_ ?_
 refine ps_ 4 7 (bm 9 21) HT_ ?_
 refine tk_ 1 4 (bm 9 23) HT_ HW_ hHeld ?_
 refine tk_ 3 6 (bs 9 5) HT_ HW_ hHeld ?_
 refine tkn_ HT_ HW_ hHeld ?_
 refine on_ 6 (some 9) (bs 9 7) HT_ (fun K hK => ?_)
 refine gs_ Try.func69 #[.slice A0_4 l0_4.length c0_4] ?_
 with_reducible refine (impl_Kid_69.calls _ _ l0_4 t241 _ ?side1 ?side2 A2.out).mono ?_
 (case side1 => repeat (first | exact (Kd.C_below HR0_4.out HB.out) | (with_reducible refine Kd.C_alloc ?_ _) | (with_reducible refine Kd.C_drewN ?_ _) | (with_reducible refine Kd.C_drew ?_)))
 (case side2 => exact HC0_4.out)
 rintro e w6 ⟨v242, rfl, ho0, hb⟩
 refine ⟨_, rfl, ?_⟩
 have HO243 := Aside0.mk (Kd.R_lower ho0 (below_size (bf_ HB))); replace BK239 := bb_ BK239 hb; replace BK240 := bb_ BK240 hb; replace HB := Aside0.mk (below_step (bf_ HB) hb); (try clear hb); (try clear hb2); (try clear hk); (try clear hi); (try clear ho0)
 obtain ⟨Ao7, co7, eo7⟩ := Kd.R_slice HO243.out
 (first | subst eo7 | (injection eo7 with f1_ f2_ f3_; have f4_ := f1_.symm; have f5_ := f3_.symm; clear f1_ f2_ f3_; subst f4_; subst f5_))
 refine hK.out _ _ ⟨bt_ BK239 0, bt_ BK239 1, bt_ BK239 2, bt_ BK239 3, bt_ BK239 4⟩ (fun hHeld => ?_)
 clear hK K
 refine norm_ (a' := ?_) ?_ ?_
 rotate_left
 ·show Act.put _ (some 9) _ = _
  simp only [Act.put, ls0_, ls1_, ls2_, i64_w, i32_w]
  rfl
 refine psn_ HT_ ?_
 refine on_ 8 none (bs 9 9) HT_ (fun K hK => ?_)
 have hs8 := bc_ BK240 0 (.int .i64 0) rfl; have hfs8 := blk_frozen BK240.out 0; have hns8_0 := NB239_240.out; have hms8_0 := NB240_239.out; have hs9 := bc_ BK240 1 (.int .i64 0) rfl; have hfs9 := blk_frozen BK240.out 1; have hns9_0 := NB239_240.out; have hms9_0 := NB240_239.out; have hs10 := bc_ BK240 2 (.int .i64 0) rfl; have hfs10 := blk_frozen BK240.out 2; have hns10_0 := NB239_240.out; have hms10_0 := NB240_239.out; have hs11 := bc_ BK240 3 (.int .i64 0) rfl; have hfs11 := blk_frozen BK240.out 3; have hns11_0 := NB239_240.out; have hms11_0 := NB240_239.out; have hs12 := bc_ BK240 4 (.slice none 0 0) rfl; have hfs12 := blk_frozen BK240.out 4; have hns12_0 := NB239_240.out; have hms12_0 := NB240_239.out
 refine skip_ (w1 := ?_) (by rfl) rfl ?_ ?_
 rotate_left
 ·go_simp
  rfl
 refine hK.out _ _ ⟨(cf5_ NB239_240.out hHeld.1), (cf5_ NB239_240.out hHeld.2.1), (cf5_ NB239_240.out hHeld.2.2.1), (cf5_ NB239_240.out hHeld.2.2.2.1), (cf5_ NB239_240.out hHeld.2.2.2.2)⟩ (fun hHeld => ?_)
 clear hK K
 refine done_ (done_of HT_.out (by kernel_rfl)) ?_
 try go_wp2
 refine bodyPost_ret (results_cell_row rfl _ _ gb240 31 #[.int .i64 a0_0, .int .i64 a0_1, .int .i64 a0_2, .int .i64 a0_3, .slice Ao7 t241.length co7] (0, 0) _ rfl (by (with_reducible repeat (first | refine blk_drewN ?_ _ | refine blk_drew ?_ | refine blk_alloc ?_ _)); refine blk_put (cs := #[.int .i64 a0_0, .int .i64 a0_1, .int .i64 a0_2, .int .i64 a0_3, .slice none 0 0]) ?_ 4 _ rfl; (with_reducible repeat (first | refine blk_drewN ?_ _ | refine blk_drew ?_ | refine blk_alloc ?_ _)); refine blk_put (cs := #[.int .i64 a0_0, .int .i64 a0_1, .int .i64 a0_2, .int .i64 0, .slice none 0 0]) ?_ 3 _ rfl; (with_reducible repeat (first | refine blk_drewN ?_ _ | refine blk_drew ?_ | refine blk_alloc ?_ _)); refine blk_put (cs := #[.int .i64 a0_0, .int .i64 a0_1, .int .i64 0, .int .i64 0, .slice none 0 0]) ?_ 2 _ rfl; (with_reducible repeat (first | refine blk_drewN ?_ _ | refine blk_drew ?_ | refine blk_alloc ?_ _)); refine blk_put (cs := #[.int .i64 a0_0, .int .i64 0, .int .i64 0, .int .i64 0, .slice none 0 0]) ?_ 1 _ rfl; (with_reducible repeat (first | refine blk_drewN ?_ _ | refine blk_drew ?_ | refine blk_alloc ?_ _)); refine blk_put (cs := #[.int .i64 0, .int .i64 0, .int .i64 0, .int .i64 0, .slice none 0 0]) ?_ 0 _ rfl; exact bk_ BK240) Try.underlying31 rfl (by kernel_rfl)) rfl ?_
 exact ⟨_, by first | rfl | (simp [errW_none, errW_some] <;> rfl) | (simp [*, errW_none, errW_some] <;> rfl), by (with_reducible repeat (first | apply Kd.R_alloc | apply Kd.R_drewN | apply Kd.R_drew)); exact Kd.R_mono (Kd.R_far (p := ⟨gb240, 4, none⟩) (Kd.R_far (p := ⟨gb240, 3, none⟩) (Kd.R_far (p := ⟨gb240, 2, none⟩) (Kd.R_far (p := ⟨gb240, 1, none⟩) (Kd.R_far (p := ⟨gb240, 0, none⟩) (Kd.R_types HO243.out BK240.out (by decide)) (fun _ hk => by first | exact hk.2 | grind) (.int .i64 a0_0)) (fun _ hk => by first | exact hk.2 | grind) (.int .i64 a0_1)) (fun _ hk => by first | exact hk.2 | grind) (.int .i64 a0_2)) (fun _ hk => by first | exact hk.2 | grind) (.int .i64 a0_3)) (fun _ hk => by first | exact hk.2 | grind) (.slice Ao7 t241.length co7)) (fun _ hk => by first | exact trivial | grind), bf_ HB⟩

/-! ### impl_Kid_39: function 39 (wip/hand) -/
set_option maxHeartbeats 4000000 in
set_option maxRecDepth 100000 in
theorem impl_Kid_39.del (W : World) (base : Nat) (ok : Nat → Prop) (g m c k : Nat) (xs : List S46) (HO : k46.R 46 W base ok (.slice (some ⟨g, 0, none⟩) (m + 1) c) xs) (hk : k < m + 1) :
    Calls Try.prog 39 #[.slice (some ⟨g, 0, none⟩) (m + 1) c, .int .i64 k, .int .i64 (k + 1)] W fun e' w' => e' = .returned (.slice (some ⟨g, 0, none⟩) m c) ∧ k46.R 46 w' base ok (.slice (some ⟨g, 0, none⟩) m c) (xs.eraseIdx k) ∧ W.grownBy w' (some g) := by
  obtain ⟨hn, hnc, _⟩ := Kd.R_reads' HO
  have h1 : k + 1 ≤ m + 1 := hk
  have h2 : m + 1 ≤ c := hnc
  have hne : ¬ (c = m) := by omega
  have h3 : k ≤ c := by omega
  have h4 : k + 1 ≤ c := by omega
  have h5 : k ≤ m := by omega
  have h6 : (0 : Int) ≤ (k : Int) + 1 := by omega
  have h7 : ((k : Int) + 1).toNat = k + 1 := by omega
  have h8 : (k : Int) + 1 ≤ (m : Int) + 1 := by omega
  have hu := Try.underlying29
  have hb0 : base ≤ W.heap.size := Nat.le_of_lt (Nat.lt_of_le_of_lt (Kd.R_base HO g (by simp [Value.ownBlock])) (Kd.R_lt HO g (by simp [Value.ownBlock])))
  have HO1 := Aside0.mk (Kd.R_drew HO)
  have HB0 := Aside0.mk hb0
  clear HO hnc hn hb0
  go_enter Try.func39, Try.ntmps39
  go_wp2_with fail
  go_region_law (refine Kd.R_delete_step k46 (w0 := W.drew) base (by rfl) (.tmp 22) (.tmp 25) 29 46 rfl Try.underlying29 (by kernel_rfl) (g := g) (n := m + 1) (c := c) (k := k) (m := m + 1 - (k + 1)) (c2 := c - (k + 1)) (A := if c = k + 1 then some ⟨g, 0, none⟩ else (some (⟨g, 0, none⟩ : Addr)).map (·.add ((k + 1) * k46.sz))) (by first | rfl | (go_simp; done) | (go_simp; rfl)) (by first | rfl | (go_simp; done) | (go_simp; rfl)) rfl rfl HO1.out hk (Below.refl _ _) HB0.out ?_; intro w1 ho hb hg)
  replace ho : k46.R 46 w1 base ok (.slice (some ⟨g, 0, none⟩) m c) (xs.eraseIdx k) := ho
  have hbd := fun zs hz => R_beyond k46 (o := m * 6) zs ho (Nat.le_refl _) hz
  have hcl : ∀ ty, (Builtin.clear_ #[29] ty #[.slice (some ⟨g, m * 6, none⟩) 1 (c - m)]).run Try.prog w1 = .ok (.tuple #[]) (w1.setCells g (m * 6) [.int .i64 0, .int .i64 0, .bool false, .int .i64 0, .int .i64 0, .int .i64 0]) := fun ty => by
    have hsz : m * 6 + 6 ≤ c * 6 := by omega
    obtain ⟨_, _, hc, hf⟩ := hbd [.int .i64 0, .int .i64 0, .bool false, .int .i64 0, .int .i64 0, .int .i64 0] hsz
    exact run_clear_one w1 29 46 ty _ _ Try.underlying29 Try.zeroValue46 rfl (by intro v hv; (repeat (rcases List.mem_cons.1 hv with rfl | hv; · rfl)); cases hv) g (m * 6) (c - m) (fun j hj => hc _ (show m * 6 + j < c * 6 by simp at hj; omega)) (fun j _ => hf _)
  have HF := Aside0.mk (hbd [.int .i64 0, .int .i64 0, .bool false, .int .i64 0, .int .i64 0, .int .i64 0] (show m * 6 + 6 ≤ c * 6 by omega))
  have HG := Aside0.mk hg
  clear ho hb hg hbd
  generalize (if c = k + 1 then some (⟨g, 0, none⟩ : Addr) else some ⟨g, (k + 1) * 6, none⟩) = A25
  go_wp2
  go_ret
  obtain ⟨a1, a2, a3, a4, a5⟩ := HG.out
  obtain ⟨hr, ⟨b1, b2, b3, b4, b5⟩, _, _⟩ := HF.out
  exact ⟨rfl, hr, ⟨b1.trans a1, b2.trans a2, b3.trans a3, Nat.le_trans a4 b4, fun q hq hne => (b5 q (Nat.lt_of_lt_of_le hq a4) hne).trans (a5 q hq hne)⟩⟩
theorem impl_Kid_39.calls {w0 W : World} (base : Nat) (v : Value) (xs : List S46) (i j : Int) (ok : Nat → Prop) (hj : j = wrap64 (i + 1)) (h0 : 0 ≤ i) (HO : k46.R 46 W base ok v xs) (HB : Below base w0 W) (hbase : base ≤ W.heap.size) (hl : i < (xs.length : Int)) :
    Calls Try.prog 39 #[v, .int .i64 i, .int .i64 j] W fun e' w' => ∃ v1, e' = .returned v1 ∧ k46.R 46 w' base ok v1 (xs.eraseIdx i.toNat) ∧ Below base w0 w' ∧ W.grownBy w' v.ownBlock ∧ (v1.ownBlock = v.ownBlock ∨ ∃ b, v1.ownBlock = some b ∧ W.heap.size ≤ b) := by
  obtain ⟨k, rfl⟩ : ∃ k : Nat, i = (k : Int) := ⟨i.toNat, by omega⟩
  obtain ⟨m, hm⟩ : ∃ m, xs.length = m + 1 := ⟨xs.length - 1, by omega⟩
  obtain ⟨g, c, rfl, hg0, _⟩ := Kd.R_form HO (by omega)
  have hbig := own_long_ (Kd.R_own HO).choose_spec
  have hj' : j = (k : Int) + 1 := by rw [hj]; unfold wrap64; unfold maxLen at hbig; omega
  subst hj'
  rw [hm] at HO ⊢
  refine (impl_Kid_39.del W base ok g m c k xs HO (by omega)).mono ?_
  rintro e' w' ⟨rfl, hr, hg⟩
  have hob : ∀ q, (Value.slice (some ⟨g, 0, none⟩) q c).ownBlock = some g := fun q => by simp [Value.ownBlock]
  refine ⟨_, rfl, by rw [Int.toNat_natCast]; exact hr, HB.grown hg hbase (fun q hq => by injection hq with hq; subst hq; exact hg0), by rw [hob]; exact hg, .inl (by rw [hob, hob])⟩

/-! ### impl_FairLeave: function 10 -/
def impl_FairLeave.f (k : Nat) (a0_0 : Int) (a0_1 : Int) (a0_2 : Int) (a0_3 : Int) (l0_4 : List (S46)) (a1 : Int) : Option (Int × Int × Int × Int × (List (S46)) × Int) := (impl_Fair_at.f a0_0 a0_1 a0_2 a0_3 l0_4 a1).bind fun t246 => ((impl_FairOk.f k a0_0 a0_1 a0_2 a0_3 l0_4).bind fun t247 => (if t247 = true then (if t246 < 0 then (some (0, 0, 0, 0, ([] : List (S46)), 4)) else (if 0 ≤ t246 then (if t246 < (l0_4.length : Int) then ((impl_Fair_owes.f a0_0 a0_1 a0_2 a0_3 l0_4 ((rd_T46 l0_4 t246).f0) ((rd_T46 l0_4 t246).f1) ((rd_T46 l0_4 t246).f2) ((rd_T46 l0_4 t246).f3.f0) ((rd_T46 l0_4 t246).f3.f1) ((rd_T46 l0_4 t246).f3.f2)).bind fun t249 => (if t249 = true then (some (0, 0, 0, 0, ([] : List (S46)), 5)) else ((impl_copyFair.f a0_0 a0_1 a0_2 a0_3 l0_4).bind fun bt250 => (if t246 < (bt250.2.2.2.2.length : Int) then (some (bt250.1, bt250.2.1, bt250.2.2.1, bt250.2.2.2.1, (bt250.2.2.2.2.eraseIdx (t246 : Int).toNat), 0)) else (none))))) else (none)) else (none))) else (some (0, 0, 0, 0, ([] : List (S46)), 1))))
theorem impl_FairLeave.mono : ∀ a0 a1 a2 a3 a4 a5 k, LeO (impl_FairLeave.f k a0 a1 a2 a3 a4 a5) (impl_FairLeave.f (k + 1) a0 a1 a2 a3 a4 a5) := by
 intro a0 a1 a2 a3 a4 a5 k
 unfold impl_FairLeave.f
 repeat' (first | (with_reducible exact impl_FairOk.mono _ _ _ _ _ _) | (with_reducible exact LeO.refl _) | (with_reducible exact LeO.none _) | (with_reducible refine LeO.ite ?_ ?_) | (with_reducible refine LeO.bind ?_ (fun _ => ?_)) | exact impl_FairOk.mono _ _ _ _ _ _ | exact LeO.none _ | refine LeO.ite ?_ ?_ | refine LeO.bind ?_ (fun _ => ?_))
def impl_FairLeave.T6 : Bool × List (List Nat × List Nat) := (true, [([], []), ([], []), ([1], [1]), ([], []), ([2, 3], [2, 3]), ([4], [4]), ([0, 5], [0, 5]), ([6, 6], [6])])
def impl_FairLeave.B6 : List Nat := [0, 0, 2, 0, 14, 30, 63, 127]
theorem impl_FairLeave.tab6 : rtab .any (opsOf Try.f10 6) = impl_FairLeave.T6 := by kernel_rfl
theorem impl_FairLeave.bits6 : waitsOk impl_FairLeave.T6.2 impl_FairLeave.B6 = true := by kernel_rfl
set_option maxHeartbeats 8000000 in
set_option maxRecDepth 100000 in
theorem impl_FairLeave.calls (k : Nat) (a0_0 : Int) (a0_1 : Int) (a0_2 : Int) (a0_3 : Int) (A0_4 : Option Addr) (c0_4 : Nat) (l0_4 : List (S46)) (a1 : Int) (r1 : Int) (r2 : Int) (r3 : Int) (r4 : Int) (r5 : List (S46)) (r6 : Int) (w : World) (hr0_4 : Kd.C k46 w A0_4 l0_4.length l0_4) (hc0_4 : l0_4.length ≤ c0_4) (h : impl_FairLeave.f k a0_0 a0_1 a0_2 a0_3 l0_4 a1 = some (r1, r2, r3, r4, r5, r6)) :
  Calls Try.prog 10 #[.agg #[.int .i64 a0_0, .int .i64 a0_1, .int .i64 a0_2, .int .i64 a0_3, .slice A0_4 l0_4.length c0_4], .int .i64 a1] w fun e w' => ∃ v4_ : Value, e = .returned (.tuple #[.agg #[.int .i64 r1, .int .i64 r2, .int .i64 r3, .int .i64 r4, v4_], .int .i64 r6]) ∧ Kd.R k46 46 w' w.heap.size (fun _ => True) v4_ r5 ∧ Below w.heap.size w w' := by
 have hu31 := Try.underlying31; have hu46 := Try.underlying46
 have HR0_4 := Aside0.mk hr0_4
 have HC0_4 := Aside0.mk hc0_4
 clear hr0_4 hc0_4; have HB := Aside0.mk (Below.refl w.heap.size w)
 have H := h
 clear h
 unfold impl_FairLeave.f at H
 replace H := Option.bind_eq_some_iff.mp H
 obtain ⟨t246, A30, H⟩ := H
 have A3 := Aside0.mk A30
 clear A30
 replace H := Option.bind_eq_some_iff.mp H
 obtain ⟨t247, A40, H⟩ := H
 have A4 := Aside0.mk A40
 clear A40
 by_cases c5 : t247 = true
 ·subst c5
  rw [if_pos rfl] at H
  by_cases c6 : t246 < 0
  ·rw [if_pos c6] at H
   have c6b0 : decide (t246 < 0) = true := decide_eq_true c6
   clear c6
   simp only [Option.some.injEq, Prod.mk.injEq] at H
   obtain ⟨rfl, rfl, rfl, rfl, rfl, rfl⟩ := H
   go_enter Try.func10, Try.ntmps10
   go_wp2_with (first | ((with_reducible refine gd_ 2 rfl ?_); refine bv_ 2 #[.int .i64 a0_0, .int .i64 a0_1, .int .i64 a0_2, .int .i64 a0_3, .slice A0_4 l0_4.length c0_4] 31 ?_; intro gb244 hg w7 hbox hb; have BK244 := Aside0.mk (hbox); have GW244 := gw_ HB hg; have GE244 := gw_ HB hg; replace HB := Aside0.mk (below_step (be_ HB) hb); clear hb hbox hg) | ((with_reducible refine gd_ 4 rfl ?_); refine bv_ 4 #[.int .i64 0, .int .i64 0, .int .i64 0, .int .i64 0, .slice none 0 0] 31 ?_; intro gb245 hg w8 hbox hb; have BK245 := Aside0.mk (hbox); have GW245 := gw_ HB hg; have GE245 := gw_ HB hg; replace HB := Aside0.mk (below_step (bf_ HB) hb); have NB244_245 := nl_ BK244 hg; have NB245_244 := ng_ BK244 hg; replace BK244 := bb_ BK244 hb; clear hb hbox hg; have hnb9 := NB244_245.out; have hnc9 := NB245_244.out; obtain ⟨hcz10_0, hcz10_1, hcz10_2, hcz10_3, hcz10_4, hfz10_0, hfz10_1, hfz10_2, hfz10_3, hfz10_4⟩ := bz5_ BK244) | ((with_reducible refine gc_ 36 rfl ?_); refine gl_ 10 Try.func36 #[.agg #[.int .i64 a0_0, .int .i64 a0_1, .int .i64 a0_2, .int .i64 a0_3, .slice A0_4 l0_4.length c0_4], .int .i64 a1] ?_; (with_reducible refine (impl_Fair_at.calls a0_0 a0_1 a0_2 a0_3 _ _ l0_4 a1 t246 _ ?side1 ?side2 A3.out).mono ?_); (case side1 => repeat (first | exact (Kd.C_below HR0_4.out HB.out) | (with_reducible refine Kd.C_alloc ?_ _) | (with_reducible refine Kd.C_drewN ?_ _) | (with_reducible refine Kd.C_drew ?_))); (case side2 => exact HC0_4.out); rintro e w11 ⟨rfl, hb⟩; refine ⟨_, rfl, ?_⟩; replace BK244 := bb_ BK244 hb; replace BK245 := bb_ BK245 hb; replace HB := Aside0.mk (below_step (bf_ HB) hb); (try clear hb); (try clear hb2); (try clear hk); (try clear hi); obtain ⟨hcz12_0, hcz12_1, hcz12_2, hcz12_3, hcz12_4, hfz12_0, hfz12_1, hfz12_2, hfz12_3, hfz12_4⟩ := bz5_ BK244) | ((with_reducible refine gc_ 21 rfl ?_); refine gl_ 13 Try.func21 #[.agg #[.int .i64 a0_0, .int .i64 a0_1, .int .i64 a0_2, .int .i64 a0_3, .slice A0_4 l0_4.length c0_4]] ?_; (with_reducible refine (impl_FairOk.calls k a0_0 a0_1 a0_2 a0_3 _ _ l0_4 true _ ?side1 ?side2 A4.out).mono ?_); (case side1 => repeat (first | exact (Kd.C_below HR0_4.out HB.out) | (with_reducible refine Kd.C_alloc ?_ _) | (with_reducible refine Kd.C_drewN ?_ _) | (with_reducible refine Kd.C_drew ?_))); (case side2 => exact HC0_4.out); rintro e w13 ⟨rfl, hb⟩; refine ⟨_, rfl, ?_⟩; replace BK244 := bb_ BK244 hb; replace BK245 := bb_ BK245 hb; replace HB := Aside0.mk (below_step (bf_ HB) hb); (try clear hb); (try clear hb2); (try clear hk); (try clear hi); obtain ⟨hcz14_0, hcz14_1, hcz14_2, hcz14_3, hcz14_4, hfz14_0, hfz14_1, hfz14_2, hfz14_3, hfz14_4⟩ := bz5_ BK245))
   refine bodyPost_ret (results_ct rfl _ _ gb245 31 #[.int .i64 0, .int .i64 0, .int .i64 0, .int .i64 0, .slice none 0 0] (0, 0) _ rfl (by (with_reducible repeat (first | refine blk_drewN ?_ _ | refine blk_drew ?_ | refine blk_alloc ?_ _)); refine blk_put (cs := #[.int .i64 0, .int .i64 0, .int .i64 0, .int .i64 0, .slice none 0 0]) ?_ 4 _ rfl; (with_reducible repeat (first | refine blk_drewN ?_ _ | refine blk_drew ?_ | refine blk_alloc ?_ _)); refine blk_put (cs := #[.int .i64 0, .int .i64 0, .int .i64 0, .int .i64 0, .slice none 0 0]) ?_ 3 _ rfl; (with_reducible repeat (first | refine blk_drewN ?_ _ | refine blk_drew ?_ | refine blk_alloc ?_ _)); refine blk_put (cs := #[.int .i64 0, .int .i64 0, .int .i64 0, .int .i64 0, .slice none 0 0]) ?_ 2 _ rfl; (with_reducible repeat (first | refine blk_drewN ?_ _ | refine blk_drew ?_ | refine blk_alloc ?_ _)); refine blk_put (cs := #[.int .i64 0, .int .i64 0, .int .i64 0, .int .i64 0, .slice none 0 0]) ?_ 1 _ rfl; (with_reducible repeat (first | refine blk_drewN ?_ _ | refine blk_drew ?_ | refine blk_alloc ?_ _)); refine blk_put (cs := #[.int .i64 0, .int .i64 0, .int .i64 0, .int .i64 0, .slice none 0 0]) ?_ 0 _ rfl; exact bk_ BK245) Try.underlying31 rfl (by kernel_rfl)) rfl ?_
   exact ⟨_, by first | rfl | (simp [errW_none, errW_some] <;> rfl) | (simp [*, errW_none, errW_some] <;> rfl), by first | exact Kd.R_nil _ _ _ _ _ | exact Kd.N_nil _ _ _ _ _ | exact Kd.V_nil _ _ _ _ _ | exact Kd.Q_nil _ _ _ _ _ | exact Kd.S_nil _ _ _ _ _, bf_ HB⟩
  ·rw [if_neg c6] at H
   have c6b0 : decide (t246 < 0) = false := decide_eq_false c6
   clear c6
   by_cases c15 : 0 ≤ t246
   ·rw [if_pos c15] at H
    have c15b0 : decide (0 ≤ t246) = true := decide_eq_true c15
    clear c15
    by_cases c16 : t246 < (l0_4.length : Int)
    ·rw [if_pos c16] at H
     have c16b0 : decide (t246 < (l0_4.length : Int)) = true := decide_eq_true c16
     clear c16
     replace H := Option.bind_eq_some_iff.mp H
     obtain ⟨t249, A170, H⟩ := H
     have A17 := Aside0.mk A170
     clear A170
     by_cases c18 : t249 = true
     ·subst c18
      rw [if_pos rfl] at H
      simp only [Option.some.injEq, Prod.mk.injEq] at H
      obtain ⟨rfl, rfl, rfl, rfl, rfl, rfl⟩ := H
      go_enter Try.func10, Try.ntmps10
      try go_wp2_with (first | ((with_reducible refine gd_ 2 rfl ?_); refine bv_ 2 #[.int .i64 a0_0, .int .i64 a0_1, .int .i64 a0_2, .int .i64 a0_3, .slice A0_4 l0_4.length c0_4] 31 ?_; intro gb244 hg w19 hbox hb; have BK244 := Aside0.mk (hbox); have GW244 := gw_ HB hg; have GE244 := gw_ HB hg; replace HB := Aside0.mk (below_step (be_ HB) hb); clear hb hbox hg) | ((with_reducible refine gd_ 4 rfl ?_); refine bv_ 4 #[.int .i64 0, .int .i64 0, .int .i64 0, .int .i64 0, .slice none 0 0] 31 ?_; intro gb245 hg w20 hbox hb; have BK245 := Aside0.mk (hbox); have GW245 := gw_ HB hg; have GE245 := gw_ HB hg; replace HB := Aside0.mk (below_step (bf_ HB) hb); have NB244_245 := nl_ BK244 hg; have NB245_244 := ng_ BK244 hg; replace BK244 := bb_ BK244 hb; clear hb hbox hg; have hnb21 := NB244_245.out; have hnc21 := NB245_244.out; obtain ⟨hcz22_0, hcz22_1, hcz22_2, hcz22_3, hcz22_4, hfz22_0, hfz22_1, hfz22_2, hfz22_3, hfz22_4⟩ := bz5_ BK244) | ((with_reducible refine gc_ 36 rfl ?_); refine gl_ 10 Try.func36 #[.agg #[.int .i64 a0_0, .int .i64 a0_1, .int .i64 a0_2, .int .i64 a0_3, .slice A0_4 l0_4.length c0_4], .int .i64 a1] ?_; (with_reducible refine (impl_Fair_at.calls a0_0 a0_1 a0_2 a0_3 _ _ l0_4 a1 t246 _ ?side1 ?side2 A3.out).mono ?_); (case side1 => repeat (first | exact (Kd.C_below HR0_4.out HB.out) | (with_reducible refine Kd.C_alloc ?_ _) | (with_reducible refine Kd.C_drewN ?_ _) | (with_reducible refine Kd.C_drew ?_))); (case side2 => exact HC0_4.out); rintro e w23 ⟨rfl, hb⟩; refine ⟨_, rfl, ?_⟩; replace BK244 := bb_ BK244 hb; replace BK245 := bb_ BK245 hb; replace HB := Aside0.mk (below_step (bf_ HB) hb); (try clear hb); (try clear hb2); (try clear hk); (try clear hi); obtain ⟨hcz24_0, hcz24_1, hcz24_2, hcz24_3, hcz24_4, hfz24_0, hfz24_1, hfz24_2, hfz24_3, hfz24_4⟩ := bz5_ BK244) | ((with_reducible refine gc_ 21 rfl ?_); refine gl_ 13 Try.func21 #[.agg #[.int .i64 a0_0, .int .i64 a0_1, .int .i64 a0_2, .int .i64 a0_3, .slice A0_4 l0_4.length c0_4]] ?_; (with_reducible refine (impl_FairOk.calls k a0_0 a0_1 a0_2 a0_3 _ _ l0_4 true _ ?side1 ?side2 A4.out).mono ?_); (case side1 => repeat (first | exact (Kd.C_below HR0_4.out HB.out) | (with_reducible refine Kd.C_alloc ?_ _) | (with_reducible refine Kd.C_drewN ?_ _) | (with_reducible refine Kd.C_drew ?_))); (case side2 => exact HC0_4.out); rintro e w25 ⟨rfl, hb⟩; refine ⟨_, rfl, ?_⟩; replace BK244 := bb_ BK244 hb; replace BK245 := bb_ BK245 hb; replace HB := Aside0.mk (below_step (bf_ HB) hb); (try clear hb); (try clear hb2); (try clear hk); (try clear hi)))
      replace BK244 := Aside0.mk (blk_drew BK244.out); replace BK245 := Aside0.mk (blk_drew BK245.out); replace HB := Aside0.mk (below_drew1 HB.out)
      have p248 : 0 ≤ (t246 : Int) := od_
      have q248 : t246 < (l0_4.length : Int) := od_
      obtain ⟨ad248, e248, hx248_0, hx248_1, hx248_2, hx248_3, hx248_4, hx248_5⟩ := at_T46 HR0_4.out t246 p248 q248
      have hw248_5 := hx248_5; have hw248_4 := hx248_4; have hw248_3 := hx248_3; have hw248_2 := hx248_2; have hw248_1 := hx248_1; have hw248_0 := hx248_0
      cases e248
      replace hx248_0 := hb_ HB hx248_0
      replace hx248_1 := hb_ HB hx248_1
      replace hx248_2 := hb_ HB hx248_2
      replace hx248_3 := hb_ HB hx248_3
      replace hx248_4 := hb_ HB hx248_4
      replace hx248_5 := hb_ HB hx248_5
      replace p248 := eq_true p248
      replace q248 := eq_true q248
      refine start_ (n := 8) (S := fun w' => cw_ w' gb244 0 (.int .i64 a0_0) ∧ cw_ w' gb244 1 (.int .i64 a0_1) ∧ cw_ w' gb244 2 (.int .i64 a0_2) ∧ cw_ w' gb244 3 (.int .i64 a0_3) ∧ cw_ w' gb244 4 (.slice (some ad248) l0_4.length c0_4) ∧ w'.cell? (ad248.add ((t246).toNat * 6)) = some (.int .i64 ((rd_T46 l0_4 t246).f0)) ∧ w'.cell? ⟨(ad248.add ((t246).toNat * 6)).block, (ad248.add ((t246).toNat * 6)).off + 1, none⟩ = some (.int .i64 ((rd_T46 l0_4 t246).f1)) ∧ w'.cell? ⟨(ad248.add ((t246).toNat * 6)).block, (ad248.add ((t246).toNat * 6)).off + 2, none⟩ = some (.bool ((rd_T46 l0_4 t246).f2)) ∧ w'.cell? ⟨(ad248.add ((t246).toNat * 6)).block, (ad248.add ((t246).toNat * 6)).off + 3, none⟩ = some (.int .i64 ((rd_T46 l0_4 t246).f3.f0)) ∧ w'.cell? ⟨(ad248.add ((t246).toNat * 6)).block, (ad248.add ((t246).toNat * 6)).off + 4, none⟩ = some (.int .i64 ((rd_T46 l0_4 t246).f3.f1)) ∧ w'.cell? ⟨(ad248.add ((t246).toNat * 6)).block, (ad248.add ((t246).toNat * 6)).off + 5, none⟩ = some (.int .i64 ((rd_T46 l0_4 t246).f3.f2))) (ds := []) (bs 8 0) (by kernel_rfl) rfl rfl ⟨bt_ BK244 0, bt_ BK244 1, bt_ BK244 2, bt_ BK244 3, bt_ BK244 4, (hd_ HB hw248_0), (hd_ HB hw248_1), (hd_ HB hw248_2), (hd_ HB hw248_3), (hd_ HB hw248_4), (hd_ HB hw248_5)⟩ (fun hHeld => ?_); refine with_tabW impl_FairLeave.tab6 impl_FairLeave.bits6 (fun HT_ HW_ => ?_)
      generalize w25.drew = w26 at BK244 BK245 HB hx248_0 hx248_1 hx248_2 hx248_3 hx248_4 hx248_5 hHeld ⊢
      refine ps_ 1 22 (bm 8 2) HT_ ?_
      refine ps_ 3 24 (bm 8 10) HT_ ?_
      refine tk_ 0 21 (bm 8 11) HT_ HW_ hHeld ?_
      refine tk_ 2 23 (bs 8 4) HT_ HW_ hHeld ?_
      refine psn_ HT_ ?_
      refine tkn_ HT_ HW_ hHeld ?_
      refine on_ 6 (some 27) (bs 8 7) HT_ (fun K hK => ?_)
      refine gs_ Try.func37 #[.agg #[.int .i64 a0_0, .int .i64 a0_1, .int .i64 a0_2, .int .i64 a0_3, .slice (some ad248) l0_4.length c0_4], .agg #[.int .i64 ((rd_T46 l0_4 t246).f0), .int .i64 ((rd_T46 l0_4 t246).f1), .bool ((rd_T46 l0_4 t246).f2), .int .i64 ((rd_T46 l0_4 t246).f3.f0), .int .i64 ((rd_T46 l0_4 t246).f3.f1), .int .i64 ((rd_T46 l0_4 t246).f3.f2)]] ?_
      with_reducible refine (impl_Fair_owes.calls a0_0 a0_1 a0_2 a0_3 _ _ l0_4 ((rd_T46 l0_4 t246).f0) ((rd_T46 l0_4 t246).f1) ((rd_T46 l0_4 t246).f2) ((rd_T46 l0_4 t246).f3.f0) ((rd_T46 l0_4 t246).f3.f1) ((rd_T46 l0_4 t246).f3.f2) true _ ?side1 ?side2 A17.out).mono ?_
      (case side1 => repeat (first | exact (Kd.C_below HR0_4.out HB.out) | (with_reducible refine Kd.C_alloc ?_ _) | (with_reducible refine Kd.C_drewN ?_ _) | (with_reducible refine Kd.C_drew ?_)))
      (case side2 => exact HC0_4.out)
      rintro e w27 ⟨rfl, hb⟩
      refine ⟨_, rfl, ?_⟩
      replace BK244 := bb_ BK244 hb; replace BK245 := bb_ BK245 hb; replace HB := Aside0.mk (below_step (bf_ HB) hb); (try clear hb); (try clear hb2); (try clear hk); (try clear hi)
      refine hK.out _ _ ⟨bt_ BK244 0, bt_ BK244 1, bt_ BK244 2, bt_ BK244 3, bt_ BK244 4, (hd_ HB hw248_0), (hd_ HB hw248_1), (hd_ HB hw248_2), (hd_ HB hw248_3), (hd_ HB hw248_4), (hd_ HB hw248_5)⟩ (fun hHeld => ?_)
      clear hK K
      refine norm_ (a' := ?_) ?_ ?_
      rotate_left
      ·show Act.put _ (some 27) _ = _
       simp only [Act.put, ls0_, ls1_, ls2_, i64_w, i32_w]
       rfl
      refine psn_ HT_ ?_
      refine done_ (done_of HT_.out (by kernel_rfl)) ?_
      obtain ⟨hcz28_0, hcz28_1, hcz28_2, hcz28_3, hcz28_4, hfz28_0, hfz28_1, hfz28_2, hfz28_3, hfz28_4⟩ := bz5_ BK245
      try go_wp2
      refine bodyPost_ret (results_ct rfl _ _ gb245 31 #[.int .i64 0, .int .i64 0, .int .i64 0, .int .i64 0, .slice none 0 0] (0, 0) _ rfl (by (with_reducible repeat (first | refine blk_drewN ?_ _ | refine blk_drew ?_ | refine blk_alloc ?_ _)); refine blk_put (cs := #[.int .i64 0, .int .i64 0, .int .i64 0, .int .i64 0, .slice none 0 0]) ?_ 4 _ rfl; (with_reducible repeat (first | refine blk_drewN ?_ _ | refine blk_drew ?_ | refine blk_alloc ?_ _)); refine blk_put (cs := #[.int .i64 0, .int .i64 0, .int .i64 0, .int .i64 0, .slice none 0 0]) ?_ 3 _ rfl; (with_reducible repeat (first | refine blk_drewN ?_ _ | refine blk_drew ?_ | refine blk_alloc ?_ _)); refine blk_put (cs := #[.int .i64 0, .int .i64 0, .int .i64 0, .int .i64 0, .slice none 0 0]) ?_ 2 _ rfl; (with_reducible repeat (first | refine blk_drewN ?_ _ | refine blk_drew ?_ | refine blk_alloc ?_ _)); refine blk_put (cs := #[.int .i64 0, .int .i64 0, .int .i64 0, .int .i64 0, .slice none 0 0]) ?_ 1 _ rfl; (with_reducible repeat (first | refine blk_drewN ?_ _ | refine blk_drew ?_ | refine blk_alloc ?_ _)); refine blk_put (cs := #[.int .i64 0, .int .i64 0, .int .i64 0, .int .i64 0, .slice none 0 0]) ?_ 0 _ rfl; exact bk_ BK245) Try.underlying31 rfl (by kernel_rfl)) rfl ?_
      exact ⟨_, by first | rfl | (simp [errW_none, errW_some] <;> rfl) | (simp [*, errW_none, errW_some] <;> rfl), by first | exact Kd.R_nil _ _ _ _ _ | exact Kd.N_nil _ _ _ _ _ | exact Kd.V_nil _ _ _ _ _ | exact Kd.Q_nil _ _ _ _ _ | exact Kd.S_nil _ _ _ _ _, bf_ HB⟩
     ·replace c18 := Bool.eq_false_iff.mpr c18
      subst c18
      rw [if_neg (show ¬ (false = true) by decide)] at H
      replace H := Option.bind_eq_some_iff.mp H
      obtain ⟨⟨t250, t251, t252, t253, t254⟩, A290, H⟩ := H
      have A29 := Aside0.mk A290
      clear A290
      by_cases c30 : t246 < (t254.length : Int)
      ·rw [if_pos c30] at H
       have LMc30 := Aside0.mk c30
       clear c30
       obtain ⟨y258, hy258⟩ : ∃ y_ : List (S46), y_ = (t254.eraseIdx (t246 : Int).toNat) := ⟨_, rfl⟩
       replace H : (some (t250, t251, t252, t253, y258, 0)) = some (r1, r2, r3, r4, r5, r6) := by first | (rw [hy258]; with_reducible exact H) | (have H2_ := (Option.bind_some _ _).symm.trans H; rw [hy258]; with_reducible exact H2_) | (have H2_ := (Option.bind_some _ _).symm.trans H; with_reducible exact H2_) | with_reducible exact H | (rw [hy258]; exact H) | exact H
       have Ny258 := Aside0.mk hy258
       clear hy258
       simp only [Option.some.injEq, Prod.mk.injEq] at H
       obtain ⟨rfl, rfl, rfl, rfl, rfl, rfl⟩ := H
       go_enter Try.func10, Try.ntmps10
       try go_wp2_with (first | ((with_reducible refine gd_ 2 rfl ?_); refine bv_ 2 #[.int .i64 a0_0, .int .i64 a0_1, .int .i64 a0_2, .int .i64 a0_3, .slice A0_4 l0_4.length c0_4] 31 ?_; intro gb244 hg w31 hbox hb; have BK244 := Aside0.mk (hbox); have GW244 := gw_ HB hg; have GE244 := gw_ HB hg; replace HB := Aside0.mk (below_step (be_ HB) hb); clear hb hbox hg) | ((with_reducible refine gd_ 4 rfl ?_); refine bv_ 4 #[.int .i64 0, .int .i64 0, .int .i64 0, .int .i64 0, .slice none 0 0] 31 ?_; intro gb245 hg w32 hbox hb; have BK245 := Aside0.mk (hbox); have GW245 := gw_ HB hg; have GE245 := gw_ HB hg; replace HB := Aside0.mk (below_step (bf_ HB) hb); have NB244_245 := nl_ BK244 hg; have NB245_244 := ng_ BK244 hg; replace BK244 := bb_ BK244 hb; clear hb hbox hg; have hnb33 := NB244_245.out; have hnc33 := NB245_244.out; obtain ⟨hcz34_0, hcz34_1, hcz34_2, hcz34_3, hcz34_4, hfz34_0, hfz34_1, hfz34_2, hfz34_3, hfz34_4⟩ := bz5_ BK244) | ((with_reducible refine gc_ 36 rfl ?_); refine gl_ 10 Try.func36 #[.agg #[.int .i64 a0_0, .int .i64 a0_1, .int .i64 a0_2, .int .i64 a0_3, .slice A0_4 l0_4.length c0_4], .int .i64 a1] ?_; (with_reducible refine (impl_Fair_at.calls a0_0 a0_1 a0_2 a0_3 _ _ l0_4 a1 t246 _ ?side1 ?side2 A3.out).mono ?_); (case side1 => repeat (first | exact (Kd.C_below HR0_4.out HB.out) | (with_reducible refine Kd.C_alloc ?_ _) | (with_reducible refine Kd.C_drewN ?_ _) | (with_reducible refine Kd.C_drew ?_))); (case side2 => exact HC0_4.out); rintro e w35 ⟨rfl, hb⟩; refine ⟨_, rfl, ?_⟩; replace BK244 := bb_ BK244 hb; replace BK245 := bb_ BK245 hb; replace HB := Aside0.mk (below_step (bf_ HB) hb); (try clear hb); (try clear hb2); (try clear hk); (try clear hi); obtain ⟨hcz36_0, hcz36_1, hcz36_2, hcz36_3, hcz36_4, hfz36_0, hfz36_1, hfz36_2, hfz36_3, hfz36_4⟩ := bz5_ BK244) | ((with_reducible refine gc_ 21 rfl ?_); refine gl_ 13 Try.func21 #[.agg #[.int .i64 a0_0, .int .i64 a0_1, .int .i64 a0_2, .int .i64 a0_3, .slice A0_4 l0_4.length c0_4]] ?_; (with_reducible refine (impl_FairOk.calls k a0_0 a0_1 a0_2 a0_3 _ _ l0_4 true _ ?side1 ?side2 A4.out).mono ?_); (case side1 => repeat (first | exact (Kd.C_below HR0_4.out HB.out) | (with_reducible refine Kd.C_alloc ?_ _) | (with_reducible refine Kd.C_drewN ?_ _) | (with_reducible refine Kd.C_drew ?_))); (case side2 => exact HC0_4.out); rintro e w37 ⟨rfl, hb⟩; refine ⟨_, rfl, ?_⟩; replace BK244 := bb_ BK244 hb; replace BK245 := bb_ BK245 hb; replace HB := Aside0.mk (below_step (bf_ HB) hb); (try clear hb); (try clear hb2); (try clear hk); (try clear hi)))
       replace BK244 := Aside0.mk (blk_drew BK244.out); replace BK245 := Aside0.mk (blk_drew BK245.out); replace HB := Aside0.mk (below_drew1 HB.out)
       have p248 : 0 ≤ (t246 : Int) := od_
       have q248 : t246 < (l0_4.length : Int) := od_
       obtain ⟨ad248, e248, hx248_0, hx248_1, hx248_2, hx248_3, hx248_4, hx248_5⟩ := at_T46 HR0_4.out t246 p248 q248
       have hw248_5 := hx248_5; have hw248_4 := hx248_4; have hw248_3 := hx248_3; have hw248_2 := hx248_2; have hw248_1 := hx248_1; have hw248_0 := hx248_0
       cases e248
       replace hx248_0 := hb_ HB hx248_0
       replace hx248_1 := hb_ HB hx248_1
       replace hx248_2 := hb_ HB hx248_2
       replace hx248_3 := hb_ HB hx248_3
       replace hx248_4 := hb_ HB hx248_4
       replace hx248_5 := hb_ HB hx248_5
       replace p248 := eq_true p248
       replace q248 := eq_true q248
       refine start_ (n := 8) (S := fun w' => cw_ w' gb244 0 (.int .i64 a0_0) ∧ cw_ w' gb244 1 (.int .i64 a0_1) ∧ cw_ w' gb244 2 (.int .i64 a0_2) ∧ cw_ w' gb244 3 (.int .i64 a0_3) ∧ cw_ w' gb244 4 (.slice (some ad248) l0_4.length c0_4) ∧ w'.cell? (ad248.add ((t246).toNat * 6)) = some (.int .i64 ((rd_T46 l0_4 t246).f0)) ∧ w'.cell? ⟨(ad248.add ((t246).toNat * 6)).block, (ad248.add ((t246).toNat * 6)).off + 1, none⟩ = some (.int .i64 ((rd_T46 l0_4 t246).f1)) ∧ w'.cell? ⟨(ad248.add ((t246).toNat * 6)).block, (ad248.add ((t246).toNat * 6)).off + 2, none⟩ = some (.bool ((rd_T46 l0_4 t246).f2)) ∧ w'.cell? ⟨(ad248.add ((t246).toNat * 6)).block, (ad248.add ((t246).toNat * 6)).off + 3, none⟩ = some (.int .i64 ((rd_T46 l0_4 t246).f3.f0)) ∧ w'.cell? ⟨(ad248.add ((t246).toNat * 6)).block, (ad248.add ((t246).toNat * 6)).off + 4, none⟩ = some (.int .i64 ((rd_T46 l0_4 t246).f3.f1)) ∧ w'.cell? ⟨(ad248.add ((t246).toNat * 6)).block, (ad248.add ((t246).toNat * 6)).off + 5, none⟩ = some (.int .i64 ((rd_T46 l0_4 t246).f3.f2))) (ds := []) (bs 8 0) (by kernel_rfl) rfl rfl ⟨bt_ BK244 0, bt_ BK244 1, bt_ BK244 2, bt_ BK244 3, bt_ BK244 4, (hd_ HB hw248_0), (hd_ HB hw248_1), (hd_ HB hw248_2), (hd_ HB hw248_3), (hd_ HB hw248_4), (hd_ HB hw248_5)⟩ (fun hHeld => ?_); refine with_tabW impl_FairLeave.tab6 impl_FairLeave.bits6 (fun HT_ HW_ => ?_)
       generalize w37.drew = w38 at BK244 BK245 HB hx248_0 hx248_1 hx248_2 hx248_3 hx248_4 hx248_5 hHeld ⊢
       refine ps_ 1 22 (bm 8 2) HT_ ?_
       refine ps_ 3 24 (bm 8 10) HT_ ?_
       refine tk_ 0 21 (bm 8 11) HT_ HW_ hHeld ?_
       refine tk_ 2 23 (bs 8 4) HT_ HW_ hHeld ?_
       refine psn_ HT_ ?_
       refine tkn_ HT_ HW_ hHeld ?_
       refine on_ 6 (some 27) (bs 8 7) HT_ (fun K hK => ?_)
       refine gs_ Try.func37 #[.agg #[.int .i64 a0_0, .int .i64 a0_1, .int .i64 a0_2, .int .i64 a0_3, .slice (some ad248) l0_4.length c0_4], .agg #[.int .i64 ((rd_T46 l0_4 t246).f0), .int .i64 ((rd_T46 l0_4 t246).f1), .bool ((rd_T46 l0_4 t246).f2), .int .i64 ((rd_T46 l0_4 t246).f3.f0), .int .i64 ((rd_T46 l0_4 t246).f3.f1), .int .i64 ((rd_T46 l0_4 t246).f3.f2)]] ?_
       with_reducible refine (impl_Fair_owes.calls a0_0 a0_1 a0_2 a0_3 _ _ l0_4 ((rd_T46 l0_4 t246).f0) ((rd_T46 l0_4 t246).f1) ((rd_T46 l0_4 t246).f2) ((rd_T46 l0_4 t246).f3.f0) ((rd_T46 l0_4 t246).f3.f1) ((rd_T46 l0_4 t246).f3.f2) false _ ?side1 ?side2 A17.out).mono ?_
       (case side1 => repeat (first | exact (Kd.C_below HR0_4.out HB.out) | (with_reducible refine Kd.C_alloc ?_ _) | (with_reducible refine Kd.C_drewN ?_ _) | (with_reducible refine Kd.C_drew ?_)))
       (case side2 => exact HC0_4.out)
       rintro e w39 ⟨rfl, hb⟩
       refine ⟨_, rfl, ?_⟩
       replace BK244 := bb_ BK244 hb; replace BK245 := bb_ BK245 hb; replace HB := Aside0.mk (below_step (bf_ HB) hb); (try clear hb); (try clear hb2); (try clear hk); (try clear hi)
       refine hK.out _ _ ⟨bt_ BK244 0, bt_ BK244 1, bt_ BK244 2, bt_ BK244 3, bt_ BK244 4, (hd_ HB hw248_0), (hd_ HB hw248_1), (hd_ HB hw248_2), (hd_ HB hw248_3), (hd_ HB hw248_4), (hd_ HB hw248_5)⟩ (fun hHeld => ?_)
       clear hK K
       refine norm_ (a' := ?_) ?_ ?_
       rotate_left
       ·show Act.put _ (some 27) _ = _
        simp only [Act.put, ls0_, ls1_, ls2_, i64_w, i32_w]
        rfl
       refine psn_ HT_ ?_
       refine done_ (done_of HT_.out (by kernel_rfl)) ?_
       obtain ⟨hcz40_0, hcz40_1, hcz40_2, hcz40_3, hcz40_4, hfz40_0, hfz40_1, hfz40_2, hfz40_3, hfz40_4⟩ := bz5_ BK244
       try go_wp2_with (first | ((with_reducible refine gc_ 38 rfl ?_); refine gl_ 30 Try.func38 #[.agg #[.int .i64 a0_0, .int .i64 a0_1, .int .i64 a0_2, .int .i64 a0_3, .slice (some ad248) l0_4.length c0_4]] ?_; (with_reducible refine (impl_copyFair.calls a0_0 a0_1 a0_2 a0_3 _ _ l0_4 t250 t251 t252 t253 t254 _ ?side1 ?side2 A29.out).mono ?_); (case side1 => repeat (first | exact (Kd.C_below HR0_4.out HB.out) | (with_reducible refine Kd.C_alloc ?_ _) | (with_reducible refine Kd.C_drewN ?_ _) | (with_reducible refine Kd.C_drew ?_))); (case side2 => exact HC0_4.out); rintro e w41 ⟨v255, rfl, ho0, hb⟩; refine ⟨_, rfl, ?_⟩; have HO256 := Aside0.mk (Kd.R_lower ho0 (below_size (bf_ HB))); replace BK244 := bb_ BK244 hb; replace BK245 := bb_ BK245 hb; replace HB := Aside0.mk (below_step (bf_ HB) hb); (try clear hb); (try clear hb2); (try clear hk); (try clear hi); (try clear ho0)) | ((with_reducible refine gd_ 7 rfl ?_); refine bv_ 7 #[.int .i64 0, .int .i64 0, .int .i64 0, .int .i64 0, .slice none 0 0] 31 ?_; intro gb257 hg w42 hbox hb; replace HO256 := Aside0.mk (Kd.R_below (kr_ HO256) hb); have BK257 := Aside0.mk (hbox); have GW257 := gw_ HB hg; have GE257 := gw_ HB hg; replace HB := Aside0.mk (below_step (bf_ HB) hb); have NB244_257 := nl_ BK244 hg; have NB257_244 := ng_ BK244 hg; replace BK244 := bb_ BK244 hb; have NB245_257 := nl_ BK245 hg; have NB257_245 := ng_ BK245 hg; replace BK245 := bb_ BK245 hb; clear hb hbox hg; have hnb43 := NB257_244.out; have hnc43 := NB244_257.out; have hnb44 := NB257_245.out; have hnc44 := NB245_257.out; obtain ⟨hcz45_0, hcz45_1, hcz45_2, hcz45_3, hcz45_4, hfz45_0, hfz45_1, hfz45_2, hfz45_3, hfz45_4⟩ := bz5_ BK257; obtain ⟨Ao46, co46, eo46⟩ := Kd.R_slice HO256.out; subst eo46) | ((with_reducible refine gc_ 39 rfl ?_); refine gl_ 36 Try.func39 #[.slice Ao46 t254.length co46, .int .i64 t246, _] ?_; refine (impl_Kid_39.calls (w0 := w) w.heap.size (.slice Ao46 t254.length co46) t254 t246 _ (fun _ => True) (by first | rfl | assumption | omega) (od_) ?aO ?aB ?aS ?aL).mono ?_; (case aB => exact (bf_ HB)); (case aO => exact (by (with_reducible repeat (first | apply Kd.R_alloc | apply Kd.R_drewN | apply Kd.R_drew)); exact Kd.R_mono (Kd.R_far (p := ⟨gb257, 4, none⟩) (Kd.R_far (p := ⟨gb257, 3, none⟩) (Kd.R_far (p := ⟨gb257, 2, none⟩) (Kd.R_far (p := ⟨gb257, 1, none⟩) (Kd.R_far (p := ⟨gb257, 0, none⟩) (Kd.R_types HO256.out BK257.out (by decide)) (fun _ hk => by first | exact hk.2 | grind) (.int .i64 t250)) (fun _ hk => by first | exact hk.2 | grind) (.int .i64 t251)) (fun _ hk => by first | exact hk.2 | grind) (.int .i64 t252)) (fun _ hk => by first | exact hk.2 | grind) (.int .i64 t253)) (fun _ hk => by first | exact hk.2 | grind) (.slice Ao46 t254.length co46)) (fun _ hk => by first | exact trivial | grind))); (case aS => exact (below_size (bf_ HB))); (case aL => have := LMc30.out; omega); rintro e w47 ⟨v259, rfl, ho, hb, hg, hat⟩; refine ⟨_, rfl, ?_⟩; rw [← Ny258.out] at ho; replace BK244 := Aside0.mk (blk_grown (g := gb244) (o := .cells #[.int .i64 a0_0, .int .i64 a0_1, .int .i64 a0_2, .int .i64 a0_3, .slice (some ad248) l0_4.length c0_4] 31 (0, 0)) (bl_ BK244) hg (Kd.R_ne HO256.out BK244.out (by decide))); replace BK245 := Aside0.mk (blk_grown (g := gb245) (o := .cells #[.int .i64 0, .int .i64 0, .int .i64 0, .int .i64 0, .slice none 0 0] 31 (0, 0)) (bl_ BK245) hg (Kd.R_ne HO256.out BK245.out (by decide))); replace BK257 := Aside0.mk (blk_grown (g := gb257) (o := .cells #[.int .i64 t250, .int .i64 t251, .int .i64 t252, .int .i64 t253, .slice Ao46 t254.length co46] 31 (0, 0)) (by (with_reducible repeat (first | refine blk_drewN ?_ _ | refine blk_drew ?_ | refine blk_alloc ?_ _)); refine blk_put (cs := #[.int .i64 t250, .int .i64 t251, .int .i64 t252, .int .i64 t253, .slice none 0 0]) ?_ 4 _ rfl; (with_reducible repeat (first | refine blk_drewN ?_ _ | refine blk_drew ?_ | refine blk_alloc ?_ _)); refine blk_put (cs := #[.int .i64 t250, .int .i64 t251, .int .i64 t252, .int .i64 0, .slice none 0 0]) ?_ 3 _ rfl; (with_reducible repeat (first | refine blk_drewN ?_ _ | refine blk_drew ?_ | refine blk_alloc ?_ _)); refine blk_put (cs := #[.int .i64 t250, .int .i64 t251, .int .i64 0, .int .i64 0, .slice none 0 0]) ?_ 2 _ rfl; (with_reducible repeat (first | refine blk_drewN ?_ _ | refine blk_drew ?_ | refine blk_alloc ?_ _)); refine blk_put (cs := #[.int .i64 t250, .int .i64 0, .int .i64 0, .int .i64 0, .slice none 0 0]) ?_ 1 _ rfl; (with_reducible repeat (first | refine blk_drewN ?_ _ | refine blk_drew ?_ | refine blk_alloc ?_ _)); refine blk_put (cs := #[.int .i64 0, .int .i64 0, .int .i64 0, .int .i64 0, .slice none 0 0]) ?_ 0 _ rfl; exact bk_ BK257) hg (Kd.R_ne HO256.out BK257.out (by decide))); replace HB := Aside0.mk (hb); have HO260 := Aside0.mk (ho); clear HO256 ho hb hg hat; obtain ⟨Ao48, co48, eo48⟩ := Kd.R_slice HO260.out; subst eo48; obtain ⟨hcz49_0, hcz49_1, hcz49_2, hcz49_3, hcz49_4, hfz49_0, hfz49_1, hfz49_2, hfz49_3, hfz49_4⟩ := bz5_ BK257; obtain ⟨hcz50_0, hcz50_1, hcz50_2, hcz50_3, hcz50_4, hfz50_0, hfz50_1, hfz50_2, hfz50_3, hfz50_4⟩ := bz5_ BK245))
       refine bodyPost_ret (results_ct rfl _ _ gb245 31 #[.int .i64 t250, .int .i64 t251, .int .i64 t252, .int .i64 t253, .slice Ao48 y258.length co48] (0, 0) _ rfl (by (with_reducible repeat (first | refine blk_drewN ?_ _ | refine blk_drew ?_ | refine blk_alloc ?_ _)); refine blk_put (cs := #[.int .i64 t250, .int .i64 t251, .int .i64 t252, .int .i64 t253, .slice none 0 0]) ?_ 4 _ rfl; (with_reducible repeat (first | refine blk_drewN ?_ _ | refine blk_drew ?_ | refine blk_alloc ?_ _)); refine blk_put (cs := #[.int .i64 t250, .int .i64 t251, .int .i64 t252, .int .i64 0, .slice none 0 0]) ?_ 3 _ rfl; (with_reducible repeat (first | refine blk_drewN ?_ _ | refine blk_drew ?_ | refine blk_alloc ?_ _)); refine blk_put (cs := #[.int .i64 t250, .int .i64 t251, .int .i64 0, .int .i64 0, .slice none 0 0]) ?_ 2 _ rfl; (with_reducible repeat (first | refine blk_drewN ?_ _ | refine blk_drew ?_ | refine blk_alloc ?_ _)); refine blk_put (cs := #[.int .i64 t250, .int .i64 0, .int .i64 0, .int .i64 0, .slice none 0 0]) ?_ 1 _ rfl; (with_reducible repeat (first | refine blk_drewN ?_ _ | refine blk_drew ?_ | refine blk_alloc ?_ _)); refine blk_put (cs := #[.int .i64 0, .int .i64 0, .int .i64 0, .int .i64 0, .slice none 0 0]) ?_ 0 _ rfl; (with_reducible repeat (first | refine blk_drewN ?_ _ | refine blk_drew ?_ | refine blk_alloc ?_ _)); refine blk_far ?_ NB245_257.out _; exact bk_ BK245) Try.underlying31 rfl (by kernel_rfl)) rfl ?_
       exact ⟨_, by first | rfl | (simp [errW_none, errW_some] <;> rfl) | (simp [*, errW_none, errW_some] <;> rfl), by (with_reducible repeat (first | apply Kd.R_alloc | apply Kd.R_drewN | apply Kd.R_drew)); exact Kd.R_mono (Kd.R_far (p := ⟨gb245, 4, none⟩) (Kd.R_far (p := ⟨gb245, 3, none⟩) (Kd.R_far (p := ⟨gb245, 2, none⟩) (Kd.R_far (p := ⟨gb245, 1, none⟩) (Kd.R_far (p := ⟨gb245, 0, none⟩) (Kd.R_far (p := ⟨gb257, 4, none⟩) (Kd.R_types (Kd.R_types HO260.out BK257.out (by decide)) BK245.out (by decide)) (fun _ hk => by first | exact hk.1.2 | grind) (.slice Ao48 y258.length co48)) (fun _ hk => by first | exact hk.2 | grind) (.int .i64 t250)) (fun _ hk => by first | exact hk.2 | grind) (.int .i64 t251)) (fun _ hk => by first | exact hk.2 | grind) (.int .i64 t252)) (fun _ hk => by first | exact hk.2 | grind) (.int .i64 t253)) (fun _ hk => by first | exact hk.2 | grind) (.slice Ao48 y258.length co48)) (fun _ hk => by first | exact trivial | grind), bf_ HB⟩
      ·rw [if_neg c30] at H
       exact absurd H (by simp)
    ·rw [if_neg c16] at H
     exact absurd H (by simp)
   ·rw [if_neg c15] at H
    exact absurd H (by simp)
 ·replace c5 := Bool.eq_false_iff.mpr c5
  subst c5
  rw [if_neg (show ¬ (false = true) by decide)] at H
  simp only [Option.some.injEq, Prod.mk.injEq] at H
  obtain ⟨rfl, rfl, rfl, rfl, rfl, rfl⟩ := H
  go_enter Try.func10, Try.ntmps10
  go_wp2_with (first | ((with_reducible refine gd_ 2 rfl ?_); refine bv_ 2 #[.int .i64 a0_0, .int .i64 a0_1, .int .i64 a0_2, .int .i64 a0_3, .slice A0_4 l0_4.length c0_4] 31 ?_; intro gb244 hg w51 hbox hb; have BK244 := Aside0.mk (hbox); have GW244 := gw_ HB hg; have GE244 := gw_ HB hg; replace HB := Aside0.mk (below_step (be_ HB) hb); clear hb hbox hg) | ((with_reducible refine gd_ 4 rfl ?_); refine bv_ 4 #[.int .i64 0, .int .i64 0, .int .i64 0, .int .i64 0, .slice none 0 0] 31 ?_; intro gb245 hg w52 hbox hb; have BK245 := Aside0.mk (hbox); have GW245 := gw_ HB hg; have GE245 := gw_ HB hg; replace HB := Aside0.mk (below_step (bf_ HB) hb); have NB244_245 := nl_ BK244 hg; have NB245_244 := ng_ BK244 hg; replace BK244 := bb_ BK244 hb; clear hb hbox hg; have hnb53 := NB244_245.out; have hnc53 := NB245_244.out; obtain ⟨hcz54_0, hcz54_1, hcz54_2, hcz54_3, hcz54_4, hfz54_0, hfz54_1, hfz54_2, hfz54_3, hfz54_4⟩ := bz5_ BK244) | ((with_reducible refine gc_ 36 rfl ?_); refine gl_ 10 Try.func36 #[.agg #[.int .i64 a0_0, .int .i64 a0_1, .int .i64 a0_2, .int .i64 a0_3, .slice A0_4 l0_4.length c0_4], .int .i64 a1] ?_; (with_reducible refine (impl_Fair_at.calls a0_0 a0_1 a0_2 a0_3 _ _ l0_4 a1 t246 _ ?side1 ?side2 A3.out).mono ?_); (case side1 => repeat (first | exact (Kd.C_below HR0_4.out HB.out) | (with_reducible refine Kd.C_alloc ?_ _) | (with_reducible refine Kd.C_drewN ?_ _) | (with_reducible refine Kd.C_drew ?_))); (case side2 => exact HC0_4.out); rintro e w55 ⟨rfl, hb⟩; refine ⟨_, rfl, ?_⟩; replace BK244 := bb_ BK244 hb; replace BK245 := bb_ BK245 hb; replace HB := Aside0.mk (below_step (bf_ HB) hb); (try clear hb); (try clear hb2); (try clear hk); (try clear hi); obtain ⟨hcz56_0, hcz56_1, hcz56_2, hcz56_3, hcz56_4, hfz56_0, hfz56_1, hfz56_2, hfz56_3, hfz56_4⟩ := bz5_ BK244) | ((with_reducible refine gc_ 21 rfl ?_); refine gl_ 13 Try.func21 #[.agg #[.int .i64 a0_0, .int .i64 a0_1, .int .i64 a0_2, .int .i64 a0_3, .slice A0_4 l0_4.length c0_4]] ?_; (with_reducible refine (impl_FairOk.calls k a0_0 a0_1 a0_2 a0_3 _ _ l0_4 false _ ?side1 ?side2 A4.out).mono ?_); (case side1 => repeat (first | exact (Kd.C_below HR0_4.out HB.out) | (with_reducible refine Kd.C_alloc ?_ _) | (with_reducible refine Kd.C_drewN ?_ _) | (with_reducible refine Kd.C_drew ?_))); (case side2 => exact HC0_4.out); rintro e w57 ⟨rfl, hb⟩; refine ⟨_, rfl, ?_⟩; replace BK244 := bb_ BK244 hb; replace BK245 := bb_ BK245 hb; replace HB := Aside0.mk (below_step (bf_ HB) hb); (try clear hb); (try clear hb2); (try clear hk); (try clear hi); obtain ⟨hcz58_0, hcz58_1, hcz58_2, hcz58_3, hcz58_4, hfz58_0, hfz58_1, hfz58_2, hfz58_3, hfz58_4⟩ := bz5_ BK245))
  refine bodyPost_ret (results_ct rfl _ _ gb245 31 #[.int .i64 0, .int .i64 0, .int .i64 0, .int .i64 0, .slice none 0 0] (0, 0) _ rfl (by (with_reducible repeat (first | refine blk_drewN ?_ _ | refine blk_drew ?_ | refine blk_alloc ?_ _)); refine blk_put (cs := #[.int .i64 0, .int .i64 0, .int .i64 0, .int .i64 0, .slice none 0 0]) ?_ 4 _ rfl; (with_reducible repeat (first | refine blk_drewN ?_ _ | refine blk_drew ?_ | refine blk_alloc ?_ _)); refine blk_put (cs := #[.int .i64 0, .int .i64 0, .int .i64 0, .int .i64 0, .slice none 0 0]) ?_ 3 _ rfl; (with_reducible repeat (first | refine blk_drewN ?_ _ | refine blk_drew ?_ | refine blk_alloc ?_ _)); refine blk_put (cs := #[.int .i64 0, .int .i64 0, .int .i64 0, .int .i64 0, .slice none 0 0]) ?_ 2 _ rfl; (with_reducible repeat (first | refine blk_drewN ?_ _ | refine blk_drew ?_ | refine blk_alloc ?_ _)); refine blk_put (cs := #[.int .i64 0, .int .i64 0, .int .i64 0, .int .i64 0, .slice none 0 0]) ?_ 1 _ rfl; (with_reducible repeat (first | refine blk_drewN ?_ _ | refine blk_drew ?_ | refine blk_alloc ?_ _)); refine blk_put (cs := #[.int .i64 0, .int .i64 0, .int .i64 0, .int .i64 0, .slice none 0 0]) ?_ 0 _ rfl; exact bk_ BK245) Try.underlying31 rfl (by kernel_rfl)) rfl ?_
  exact ⟨_, by first | rfl | (simp [errW_none, errW_some] <;> rfl) | (simp [*, errW_none, errW_some] <;> rfl), by first | exact Kd.R_nil _ _ _ _ _ | exact Kd.N_nil _ _ _ _ _ | exact Kd.V_nil _ _ _ _ _ | exact Kd.Q_nil _ _ _ _ _ | exact Kd.S_nil _ _ _ _ _, bf_ HB⟩

/-! ### laws_eqVec: function 40 -/
def laws_eqVec.f (a0_0 : Int) (a0_1 : Int) (a0_2 : Int) (a1_0 : Int) (a1_1 : Int) (a1_2 : Int) : Option (Bool) := if a0_0 = a1_0 then (if a0_1 = a1_1 then (if a0_2 = a1_2 then (some true) else (some false)) else (some false)) else (some false)
set_option maxHeartbeats 8000000 in
set_option maxRecDepth 100000 in
theorem laws_eqVec.calls (a0_0 : Int) (a0_1 : Int) (a0_2 : Int) (a1_0 : Int) (a1_1 : Int) (a1_2 : Int) (r : Bool) (w : World) (h : laws_eqVec.f a0_0 a0_1 a0_2 a1_0 a1_1 a1_2 = some r) :
  Calls Try.prog 40 #[.agg #[.int .i64 a0_0, .int .i64 a0_1, .int .i64 a0_2], .agg #[.int .i64 a1_0, .int .i64 a1_1, .int .i64 a1_2]] w fun e w' => e = .returned (.bool r) ∧ Below w.heap.size w w' := by
 have hu28 := Try.underlying28; have HB := Aside0.mk (Below.refl w.heap.size w)
 have H := h
 clear h
 unfold laws_eqVec.f at H
 by_cases c3 : a0_0 = a1_0
 ·rw [if_pos c3] at H
  have c3b0 : (a0_0 == a1_0) = true := beq_iff_eq.mpr c3
  have c3b1 : (a0_0 != a1_0) = false := bne_eq_false_iff_eq.mpr c3
  clear c3
  by_cases c4 : a0_1 = a1_1
  ·rw [if_pos c4] at H
   have c4b0 : (a0_1 == a1_1) = true := beq_iff_eq.mpr c4
   have c4b1 : (a0_1 != a1_1) = false := bne_eq_false_iff_eq.mpr c4
   clear c4
   by_cases c5 : a0_2 = a1_2
   ·rw [if_pos c5] at H
    have c5b0 : (a0_2 == a1_2) = true := beq_iff_eq.mpr c5
    have c5b1 : (a0_2 != a1_2) = false := bne_eq_false_iff_eq.mpr c5
    clear c5
    obtain rfl := Option.some.inj H
    go_enter Try.func40, Try.ntmps40
    go_wp2_with (first | ((with_reducible refine gd_ 2 rfl ?_); refine bv_ 2 #[.int .i64 a0_0, .int .i64 a0_1, .int .i64 a0_2] 28 ?_; intro gb261 hg w6 hbox hb; have BK261 := Aside0.mk (hbox); have GW261 := gw_ HB hg; have GE261 := gw_ HB hg; replace HB := Aside0.mk (below_step (be_ HB) hb); clear hb hbox hg) | ((with_reducible refine gd_ 3 rfl ?_); refine bv_ 3 #[.int .i64 a1_0, .int .i64 a1_1, .int .i64 a1_2] 28 ?_; intro gb262 hg w7 hbox hb; have BK262 := Aside0.mk (hbox); have GW262 := gw_ HB hg; have GE262 := gw_ HB hg; replace HB := Aside0.mk (below_step (bf_ HB) hb); have NB261_262 := nl_ BK261 hg; have NB262_261 := ng_ BK261 hg; replace BK261 := bb_ BK261 hb; clear hb hbox hg; have hnb8 := NB261_262.out; have hnc8 := NB262_261.out; obtain ⟨hcz9_0, hcz9_1, hcz9_2, hfz9_0, hfz9_1, hfz9_2⟩ := bz3_ BK261; obtain ⟨hcz10_0, hcz10_1, hcz10_2, hfz10_0, hfz10_1, hfz10_2⟩ := bz3_ BK262))
    go_ret
    exact ⟨by first | rfl | (simp [errW_none, errW_some] <;> rfl) | (simp [*, errW_none, errW_some] <;> rfl), bf_ HB⟩
   ·rw [if_neg c5] at H
    have c5b0 : (a0_2 == a1_2) = false := beq_eq_false_iff_ne.mpr c5
    have c5b1 : (a0_2 != a1_2) = true := bne_iff_ne.mpr c5
    obtain rfl := Option.some.inj H
    go_enter Try.func40, Try.ntmps40
    go_wp2_with (first | ((with_reducible refine gd_ 2 rfl ?_); refine bv_ 2 #[.int .i64 a0_0, .int .i64 a0_1, .int .i64 a0_2] 28 ?_; intro gb261 hg w11 hbox hb; have BK261 := Aside0.mk (hbox); have GW261 := gw_ HB hg; have GE261 := gw_ HB hg; replace HB := Aside0.mk (below_step (be_ HB) hb); clear hb hbox hg) | ((with_reducible refine gd_ 3 rfl ?_); refine bv_ 3 #[.int .i64 a1_0, .int .i64 a1_1, .int .i64 a1_2] 28 ?_; intro gb262 hg w12 hbox hb; have BK262 := Aside0.mk (hbox); have GW262 := gw_ HB hg; have GE262 := gw_ HB hg; replace HB := Aside0.mk (below_step (bf_ HB) hb); have NB261_262 := nl_ BK261 hg; have NB262_261 := ng_ BK261 hg; replace BK261 := bb_ BK261 hb; clear hb hbox hg; have hnb13 := NB261_262.out; have hnc13 := NB262_261.out; obtain ⟨hcz14_0, hcz14_1, hcz14_2, hfz14_0, hfz14_1, hfz14_2⟩ := bz3_ BK261; obtain ⟨hcz15_0, hcz15_1, hcz15_2, hfz15_0, hfz15_1, hfz15_2⟩ := bz3_ BK262))
    go_ret
    exact ⟨by first | rfl | (simp [errW_none, errW_some] <;> rfl) | (simp [*, errW_none, errW_some] <;> rfl), bf_ HB⟩
  ·rw [if_neg c4] at H
   have c4b0 : (a0_1 == a1_1) = false := beq_eq_false_iff_ne.mpr c4
   have c4b1 : (a0_1 != a1_1) = true := bne_iff_ne.mpr c4
   obtain rfl := Option.some.inj H
   go_enter Try.func40, Try.ntmps40
   go_wp2_with (first | ((with_reducible refine gd_ 2 rfl ?_); refine bv_ 2 #[.int .i64 a0_0, .int .i64 a0_1, .int .i64 a0_2] 28 ?_; intro gb261 hg w16 hbox hb; have BK261 := Aside0.mk (hbox); have GW261 := gw_ HB hg; have GE261 := gw_ HB hg; replace HB := Aside0.mk (below_step (be_ HB) hb); clear hb hbox hg) | ((with_reducible refine gd_ 3 rfl ?_); refine bv_ 3 #[.int .i64 a1_0, .int .i64 a1_1, .int .i64 a1_2] 28 ?_; intro gb262 hg w17 hbox hb; have BK262 := Aside0.mk (hbox); have GW262 := gw_ HB hg; have GE262 := gw_ HB hg; replace HB := Aside0.mk (below_step (bf_ HB) hb); have NB261_262 := nl_ BK261 hg; have NB262_261 := ng_ BK261 hg; replace BK261 := bb_ BK261 hb; clear hb hbox hg; have hnb18 := NB261_262.out; have hnc18 := NB262_261.out; obtain ⟨hcz19_0, hcz19_1, hcz19_2, hfz19_0, hfz19_1, hfz19_2⟩ := bz3_ BK261; obtain ⟨hcz20_0, hcz20_1, hcz20_2, hfz20_0, hfz20_1, hfz20_2⟩ := bz3_ BK262))
   go_ret
   exact ⟨by first | rfl | (simp [errW_none, errW_some] <;> rfl) | (simp [*, errW_none, errW_some] <;> rfl), bf_ HB⟩
 ·rw [if_neg c3] at H
  have c3b0 : (a0_0 == a1_0) = false := beq_eq_false_iff_ne.mpr c3
  have c3b1 : (a0_0 != a1_0) = true := bne_iff_ne.mpr c3
  obtain rfl := Option.some.inj H
  go_enter Try.func40, Try.ntmps40
  go_wp2_with (first | ((with_reducible refine gd_ 2 rfl ?_); refine bv_ 2 #[.int .i64 a0_0, .int .i64 a0_1, .int .i64 a0_2] 28 ?_; intro gb261 hg w21 hbox hb; have BK261 := Aside0.mk (hbox); have GW261 := gw_ HB hg; have GE261 := gw_ HB hg; replace HB := Aside0.mk (below_step (be_ HB) hb); clear hb hbox hg) | ((with_reducible refine gd_ 3 rfl ?_); refine bv_ 3 #[.int .i64 a1_0, .int .i64 a1_1, .int .i64 a1_2] 28 ?_; intro gb262 hg w22 hbox hb; have BK262 := Aside0.mk (hbox); have GW262 := gw_ HB hg; have GE262 := gw_ HB hg; replace HB := Aside0.mk (below_step (bf_ HB) hb); have NB261_262 := nl_ BK261 hg; have NB262_261 := ng_ BK261 hg; replace BK261 := bb_ BK261 hb; clear hb hbox hg; have hnb23 := NB261_262.out; have hnc23 := NB262_261.out; obtain ⟨hcz24_0, hcz24_1, hcz24_2, hfz24_0, hfz24_1, hfz24_2⟩ := bz3_ BK261; obtain ⟨hcz25_0, hcz25_1, hcz25_2, hfz25_0, hfz25_1, hfz25_2⟩ := bz3_ BK262))
  go_ret
  exact ⟨by first | rfl | (simp [errW_none, errW_some] <;> rfl) | (simp [*, errW_none, errW_some] <;> rfl), bf_ HB⟩

end Go.Proofs.Ytppmbdfbhahngaa.PFnExactFairLeave
