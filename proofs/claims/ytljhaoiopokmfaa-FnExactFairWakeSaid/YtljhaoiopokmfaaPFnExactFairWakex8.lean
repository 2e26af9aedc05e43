-- printed by a program of this session (wip/printx) out of the translation; Lean checks it
import Derived.Test.YtljhaoiopokmfaaPFnExactFairWakex0
import Derived.Test.YtljhaoiopokmfaaPFnExactFairWakex7
namespace Go.Proofs.Ytljhaoiopokmfaa.PFnExactFairWake
open Go.RowKit Go.Proofs.YtljhaoiopokmfaaW.PrintWords Go.Proofs.YtljhaoiopokmfaaW.PrintLast Go.Proofs.YtljhaoiopokmfaaW.PrintMore
attribute [local go_sem] max2_int min2_int max_two min_two max_three min_three max_four min_four   -- for this text's walks alone
set_option linter.unusedVariables false
set_option linter.unusedSimpArgs false

/-! ### impl_both: function 99 -/
def impl_both.T1 : Bool × List (List Nat × List Nat) := (true, [([], []), ([], []), ([1], [1]), ([], []), ([3], [3]), ([0, 2, 4], [0, 2, 4]), ([], []), ([], []), ([7], [7]), ([], []), ([9], [9]), ([6, 8, 10, 5], [6, 8, 10]), ([], []), ([], []), ([13], [13]), ([], []), ([15], [15]), ([12, 14, 16, 11], [12, 14, 16]), ([5, 11, 17], [5, 11, 17]), ([18, 17, 0, 1, 2, 3, 4, 5, 6, 7, 8, 9, 10, 11, 12, 13, 14, 15, 16, 17, 18], [18])])
def impl_both.B1 : List Nat := [0, 0, 2, 0, 8, 31, 0, 0, 128, 0, 512, 2047, 0, 0, 8192, 0, 32768, 131071, 262143, 524287]
theorem impl_both.tab1 : rtab .any (opsOf Try.f99 1) = impl_both.T1 := by kernel_rfl
theorem impl_both.bits1 : waitsOk impl_both.T1.2 impl_both.B1 = true := by kernel_rfl
set_option maxHeartbeats 8000000 in
set_option maxRecDepth 100000 in
theorem impl_both.calls (a0_0 : Int) (a0_1 : Int) (a0_2 : Int) (a1_0 : Int) (a1_1 : Int) (a1_2 : Int) (t104 t105 t106 : Int) (nc : Nat) (fnc : Func) (lb : Array Value) (hf : Try.prog.funcs[nc]? = some fnc) (hname : (fnc.name == "runtime.NumGoroutine") = false) (hbd : fnc.body.isSome = true) (w : World)
  (h1 : ∀ (W : World), Below w.heap.size w W → Calls Try.prog nc (#[.int .i64 a0_0, .int .i64 a1_0] ++ lb) W fun e w' => e = .returned (.int .i64 t104) ∧ Below W.heap.size W w')
  (h2 : ∀ (W : World), Below w.heap.size w W → Calls Try.prog nc (#[.int .i64 a0_1, .int .i64 a1_1] ++ lb) W fun e w' => e = .returned (.int .i64 t105) ∧ Below W.heap.size W w')
  (h3 : ∀ (W : World), Below w.heap.size w W → Calls Try.prog nc (#[.int .i64 a0_2, .int .i64 a1_2] ++ lb) W fun e w' => e = .returned (.int .i64 t106) ∧ Below W.heap.size W w') :
  Calls Try.prog 99 #[.agg #[.int .i64 a0_0, .int .i64 a0_1, .int .i64 a0_2], .agg #[.int .i64 a1_0, .int .i64 a1_1, .int .i64 a1_2], .func (.func nc) #[] lb] w fun e w' => e = .returned (.agg #[.int .i64 t104, .int .i64 t105, .int .i64 t106]) ∧ Below w.heap.size w w' := by
 have HF := Aside0.mk hf
 have HNM := Aside0.mk hname
 have HBD := Aside0.mk hbd
 have HG1 := Aside0.mk h1
 have HG2 := Aside0.mk h2
 have HG3 := Aside0.mk h3
 clear hf hname hbd h1 h2 h3
 have hu29 := Try.underlying29
 have HB := Aside0.mk (Below.refl w.heap.size w)
 go_enter Try.func99, Try.ntmps99
 try go_wp2_with (first | ((with_reducible refine gate_dst (N := 3) rfl ?_); refine box_event ?hg (N := 3) ?hd (cs := #[.int .i64 a0_0, .int .i64 a0_1, .int .i64 a0_2]) (t := 29) ?hr ?_; (case hd => rfl); (case hg => rfl); (case hr => first | (go_simp; done) | (go_simp; rfl)); intro gb101 hg w6 hbox hb; have n0_ := Aside0.mk (below_step (be_ HB) hb); have n1_ := Aside0.mk (hbox); have n2_ := Aside0.mk ((by rw [hg]; exact (below_size (be_ HB)) : w.heap.size ≤ gb101)); have n3_ := Aside0.mk ((by rw [hg]; exact (below_size (be_ HB)) : w.heap.size ≤ gb101)); clear HB; have HB := n0_; have BK101 := n1_; have GW101 := n2_; have GE101 := n3_; clear n0_ n1_ n2_ n3_; clear hb hbox hg) | ((with_reducible refine gate_dst (N := 4) rfl ?_); refine box_event ?hg (N := 4) ?hd (cs := #[.int .i64 a1_0, .int .i64 a1_1, .int .i64 a1_2]) (t := 29) ?hr ?_; (case hd => rfl); (case hg => rfl); (case hr => first | (go_simp; done) | (go_simp; rfl)); intro gb102 hg w7 hbox hb; have n0_ := Aside0.mk (blk_below (g := gb101) (o := .cells #[.int .i64 a0_0, .int .i64 a0_1, .int .i64 a0_2] 29 (0, 0)) (bk_ BK101) hb); have n1_ := Aside0.mk (below_step (by repeat (first | (with_reducible first | exact HB.out | apply below_alloc | apply pw_below_drewN | apply below_drew1 | refine below_set ?_ GE101.out) | exact HB.out)) hb); have n2_ := Aside0.mk (hbox); have n3_ := Aside0.mk ((by rw [hg]; exact (below_size (by repeat (first | (with_reducible first | exact HB.out | apply below_alloc | apply pw_below_drewN | apply below_drew1 | refine below_set ?_ GE101.out) | exact HB.out))) : w.heap.size ≤ gb102)); have n4_ := Aside0.mk ((by rw [hg]; exact (below_size (by repeat (first | (with_reducible first | exact HB.out | apply below_alloc | apply pw_below_drewN | apply below_drew1 | refine below_set ?_ GE101.out) | exact HB.out))) : w.heap.size ≤ gb102)); have n5_ := Aside0.mk ((by rw [hg]; exact Nat.ne_of_lt (blk_lt (g := gb101) (o := .cells #[.int .i64 a0_0, .int .i64 a0_1, .int .i64 a0_2] 29 (0, 0)) (bk_ BK101)) : gb101 ≠ gb102)); have n6_ := Aside0.mk ((by rw [hg]; exact Nat.ne_of_gt (blk_lt (g := gb101) (o := .cells #[.int .i64 a0_0, .int .i64 a0_1, .int .i64 a0_2] 29 (0, 0)) (bk_ BK101)) : gb102 ≠ gb101)); clear BK101; clear HB; have BK101 := n0_; have HB := n1_; have BK102 := n2_; have GW102 := n3_; have GE102 := n4_; have NB101_102 := n5_; have NB102_101 := n6_; clear n0_ n1_ n2_ n3_ n4_ n5_ n6_; clear hb hbox hg) | ((with_reducible refine gate_dst (N := 6) rfl ?_); refine box_event ?hg (N := 6) ?hd (cs := #[.int .i64 0, .int .i64 0, .int .i64 0]) (t := 29) ?hr ?_; (case hd => rfl); (case hg => rfl); (case hr => first | (go_simp; done) | (go_simp; rfl)); intro gb103 hg w8 hbox hb; have n0_ := Aside0.mk (blk_below (g := gb101) (o := .cells #[.int .i64 a0_0, .int .i64 a0_1, .int .i64 a0_2] 29 (0, 0)) (bk_ BK101) hb); have n1_ := Aside0.mk (blk_below (g := gb102) (o := .cells #[.int .i64 a1_0, .int .i64 a1_1, .int .i64 a1_2] 29 (0, 0)) (bk_ BK102) hb); have n2_ := Aside0.mk (below_step (by repeat (first | (with_reducible first | exact HB.out | apply below_alloc | apply pw_below_drewN | apply below_drew1 | refine below_set ?_ GE101.out | refine below_set ?_ GE102.out) | exact HB.out)) hb); have n3_ := Aside0.mk (hbox); have n4_ := Aside0.mk ((by rw [hg]; exact (below_size (by repeat (first | (with_reducible first | exact HB.out | apply below_alloc | apply pw_below_drewN | apply below_drew1 | refine below_set ?_ GE101.out | refine below_set ?_ GE102.out) | exact HB.out))) : w.heap.size ≤ gb103)); have n5_ := Aside0.mk ((by rw [hg]; exact (below_size (by repeat (first | (with_reducible first | exact HB.out | apply below_alloc | apply pw_below_drewN | apply below_drew1 | refine below_set ?_ GE101.out | refine below_set ?_ GE102.out) | exact HB.out))) : w.heap.size ≤ gb103)); have n6_ := Aside0.mk ((by rw [hg]; exact Nat.ne_of_lt (blk_lt (g := gb101) (o := .cells #[.int .i64 a0_0, .int .i64 a0_1, .int .i64 a0_2] 29 (0, 0)) (bk_ BK101)) : gb101 ≠ gb103)); have n7_ := Aside0.mk ((by rw [hg]; exact Nat.ne_of_gt (blk_lt (g := gb101) (o := .cells #[.int .i64 a0_0, .int .i64 a0_1, .int .i64 a0_2] 29 (0, 0)) (bk_ BK101)) : gb103 ≠ gb101)); have n8_ := Aside0.mk ((by rw [hg]; exact Nat.ne_of_lt (blk_lt (g := gb102) (o := .cells #[.int .i64 a1_0, .int .i64 a1_1, .int .i64 a1_2] 29 (0, 0)) (bk_ BK102)) : gb102 ≠ gb103)); have n9_ := Aside0.mk ((by rw [hg]; exact Nat.ne_of_gt (blk_lt (g := gb102) (o := .cells #[.int .i64 a1_0, .int .i64 a1_1, .int .i64 a1_2] 29 (0, 0)) (bk_ BK102)) : gb103 ≠ gb102)); clear BK101; clear BK102; clear HB; have BK101 := n0_; have BK102 := n1_; have HB := n2_; have BK103 := n3_; have GW103 := n4_; have GE103 := n5_; have NB101_103 := n6_; have NB103_101 := n7_; have NB102_103 := n8_; have NB103_102 := n9_; clear n0_ n1_ n2_ n3_ n4_ n5_ n6_ n7_ n8_ n9_; clear hb hbox hg))
 have n0_ := Aside0.mk (blk_drew BK101.out)
 have n1_ := Aside0.mk (blk_drew BK102.out)
 have n2_ := Aside0.mk (blk_drew BK103.out)
 have n3_ := Aside0.mk (below_drew1 HB.out)
 clear BK101
 clear BK102
 clear BK103
 clear HB
 have BK101 := n0_
 have BK102 := n1_
 have BK103 := n2_
 have HB := n3_
 clear n0_ n1_ n2_ n3_
 refine start_ (n := 20) (S := fun w' => w'.cell? ⟨gb101, 0, none⟩ = some (.int .i64 a0_0) ∧ w'.cell? ⟨gb101, 1, none⟩ = some (.int .i64 a0_1) ∧ w'.cell? ⟨gb101, 2, none⟩ = some (.int .i64 a0_2) ∧ w'.cell? ⟨gb102, 0, none⟩ = some (.int .i64 a1_0) ∧ w'.cell? ⟨gb102, 1, none⟩ = some (.int .i64 a1_1) ∧ w'.cell? ⟨gb102, 2, none⟩ = some (.int .i64 a1_2)) (ds := []) (bs 20 0) (by kernel_rfl) rfl rfl ⟨(blk_cell BK101.out 0).trans rfl, (blk_cell BK101.out 1).trans rfl, (blk_cell BK101.out 2).trans rfl, (blk_cell BK102.out 0).trans rfl, (blk_cell BK102.out 1).trans rfl, (blk_cell BK102.out 2).trans rfl⟩ (fun hHeld => ?_); refine with_tabW impl_both.tab1 impl_both.bits1 (fun HT_ HW_ => ?_)
 generalize w8.drew = w9 at BK101 BK102 BK103 HB hHeld ⊢
 refine pure_s (i := 0) (N := some 7) (bs 20 1) (any_of HT_.out (by kernel_rfl)) (h := ?_)
 refine pure_s (i := 1) (N := some 8) (bs 20 2) (any_of HT_.out (by kernel_rfl)) (h := ?_)
 refine pure_s (i := 3) (N := some 10) #[oT,oT,oF,oT,oF,oF,oF,oF,oF,oF,oF,oF,oF,oF,oF,oF,oF,oF,oF,oF] (any_of HT_.out (by kernel_rfl)) (h := ?_)
 refine pure_s (i := 6) (N := some 13) #[oT,oT,oF,oT,oF,oF,oT,oF,oF,oF,oF,oF,oF,oF,oF,oF,oF,oF,oF,oF] (any_of HT_.out (by kernel_rfl)) (h := ?_)
 refine pure_s (i := 7) (N := some 14) #[oT,oT,oF,oT,oF,oF,oT,oT,oF,oF,oF,oF,oF,oF,oF,oF,oF,oF,oF,oF] (any_of HT_.out (by kernel_rfl)) (h := ?_)
 refine pure_s (i := 9) (N := some 16) #[oT,oT,oF,oT,oF,oF,oT,oT,oF,oT,oF,oF,oF,oF,oF,oF,oF,oF,oF,oF] (any_of HT_.out (by kernel_rfl)) (h := ?_)
 refine pure_s (i := 12) (N := some 19) #[oT,oT,oF,oT,oF,oF,oT,oT,oF,oT,oF,oF,oT,oF,oF,oF,oF,oF,oF,oF] (any_of HT_.out (by kernel_rfl)) (h := ?_)
 refine pure_s (i := 13) (N := some 20) #[oT,oT,oF,oT,oF,oF,oT,oT,oF,oT,oF,oF,oT,oT,oF,oF,oF,oF,oF,oF] (any_of HT_.out (by kernel_rfl)) (h := ?_)
 refine pure_s (i := 15) (N := some 22) #[oT,oT,oF,oT,oF,oF,oT,oT,oF,oT,oF,oF,oT,oT,oF,oT,oF,oF,oF,oF] (any_of HT_.out (by kernel_rfl)) (h := ?_)
 refine take_ (i := 2) (N := some 9) (v := ?_) (a' := ?_) #[oT,oT,oT,oT,oF,oF,oT,oT,oF,oT,oF,oF,oT,oT,oF,oT,oF,oF,oF,oF] rfl rfl (take_ofW HT_.out HW_.out (by kernel_rfl)) (fun _ _ _ h => h) (Or.inl ⟨by rfl, ?_⟩) hHeld ?_ ?_
 rotate_left
 ·rintro w' ⟨s0, s1, s2, s3, s4, s5⟩
  go_simp
  with_reducible rfl
 rotate_left
 ·simp only [Act.put, List.setIfInBounds_toArray, List.set_cons_zero, List.set_cons_succ, i64_w, i32_w]
  rfl
 refine take_ (i := 4) (N := some 11) (v := ?_) (a' := ?_) #[oT,oT,oT,oT,oT,oF,oT,oT,oF,oT,oF,oF,oT,oT,oF,oT,oF,oF,oF,oF] rfl rfl (take_ofW HT_.out HW_.out (by kernel_rfl)) (fun _ _ _ h => h) (Or.inl ⟨by rfl, ?_⟩) hHeld ?_ ?_
 rotate_left
 ·rintro w' ⟨s0, s1, s2, s3, s4, s5⟩
  go_simp
  with_reducible rfl
 rotate_left
 ·simp only [Act.put, List.setIfInBounds_toArray, List.set_cons_zero, List.set_cons_succ, i64_w, i32_w]
  rfl
 refine take_ (i := 8) (N := some 15) (v := ?_) (a' := ?_) #[oT,oT,oT,oT,oT,oF,oT,oT,oT,oT,oF,oF,oT,oT,oF,oT,oF,oF,oF,oF] rfl rfl (take_ofW HT_.out HW_.out (by kernel_rfl)) (fun _ _ _ h => h) (Or.inl ⟨by rfl, ?_⟩) hHeld ?_ ?_
 rotate_left
 ·rintro w' ⟨s0, s1, s2, s3, s4, s5⟩
  go_simp
  with_reducible rfl
 rotate_left
 ·simp only [Act.put, List.setIfInBounds_toArray, List.set_cons_zero, List.set_cons_succ, i64_w, i32_w]
  rfl
 refine take_ (i := 10) (N := some 17) (v := ?_) (a' := ?_) #[oT,oT,oT,oT,oT,oF,oT,oT,oT,oT,oT,oF,oT,oT,oF,oT,oF,oF,oF,oF] rfl rfl (take_ofW HT_.out HW_.out (by kernel_rfl)) (fun _ _ _ h => h) (Or.inl ⟨by rfl, ?_⟩) hHeld ?_ ?_
 rotate_left
 ·rintro w' ⟨s0, s1, s2, s3, s4, s5⟩
  go_simp
  with_reducible rfl
 rotate_left
 ·simp only [Act.put, List.setIfInBounds_toArray, List.set_cons_zero, List.set_cons_succ, i64_w, i32_w]
  rfl
 refine take_ (i := 14) (N := some 21) (v := ?_) (a' := ?_) #[oT,oT,oT,oT,oT,oF,oT,oT,oT,oT,oT,oF,oT,oT,oT,oT,oF,oF,oF,oF] rfl rfl (take_ofW HT_.out HW_.out (by kernel_rfl)) (fun _ _ _ h => h) (Or.inl ⟨by rfl, ?_⟩) hHeld ?_ ?_
 rotate_left
 ·rintro w' ⟨s0, s1, s2, s3, s4, s5⟩
  go_simp
  with_reducible rfl
 rotate_left
 ·simp only [Act.put, List.setIfInBounds_toArray, List.set_cons_zero, List.set_cons_succ, i64_w, i32_w]
  rfl
 refine take_ (i := 16) (N := some 23) (v := ?_) (a' := ?_) #[oT,oT,oT,oT,oT,oF,oT,oT,oT,oT,oT,oF,oT,oT,oT,oT,oT,oF,oF,oF] rfl rfl (take_ofW HT_.out HW_.out (by kernel_rfl)) (fun _ _ _ h => h) (Or.inl ⟨by rfl, ?_⟩) hHeld ?_ ?_
 rotate_left
 ·rintro w' ⟨s0, s1, s2, s3, s4, s5⟩
  go_simp
  with_reducible rfl
 rotate_left
 ·simp only [Act.put, List.setIfInBounds_toArray, List.set_cons_zero, List.set_cons_succ, i64_w, i32_w]
  rfl
 refine one_ (i := 5) (N := some 12) #[oT,oT,oT,oT,oT,oT,oT,oT,oT,oT,oT,oF,oT,oT,oT,oT,oT,oF,oF,oF] rfl rfl (one_of HT_.out (by kernel_rfl)) (by decide) (fun K hK => ?_)
 refine goesV_ (t := 7) HF.out HNM.out HBD.out #[.int .i64 a0_0, .int .i64 a1_0] lb (by rfl) rfl rfl (by rfl) mt_ ?_
 refine (HG1.out _ (by repeat (first | (with_reducible first | exact HB.out | apply below_alloc | apply pw_below_drewN | apply below_drew1 | refine below_set ?_ GE101.out | refine below_set ?_ GE102.out | refine below_set ?_ GE103.out) | exact HB.out))).mono ?_
 rintro e w10 ⟨rfl, hb⟩
 refine ⟨_, rfl, ?_⟩
 have n0_ := Aside0.mk (blk_below (g := gb101) (o := .cells #[.int .i64 a0_0, .int .i64 a0_1, .int .i64 a0_2] 29 (0, 0)) (bk_ BK101) hb)
 have n1_ := Aside0.mk (blk_below (g := gb102) (o := .cells #[.int .i64 a1_0, .int .i64 a1_1, .int .i64 a1_2] 29 (0, 0)) (bk_ BK102) hb)
 have n2_ := Aside0.mk (blk_below (g := gb103) (o := .cells #[.int .i64 0, .int .i64 0, .int .i64 0] 29 (0, 0)) (bk_ BK103) hb)
 have n3_ := Aside0.mk (below_step (by repeat (first | (with_reducible first | exact HB.out | apply below_alloc | apply pw_below_drewN | apply below_drew1 | refine below_set ?_ GE101.out | refine below_set ?_ GE102.out | refine below_set ?_ GE103.out) | exact HB.out)) hb)
 clear BK101
 clear BK102
 clear BK103
 clear HB
 have BK101 := n0_
 have BK102 := n1_
 have BK103 := n2_
 have HB := n3_
 clear n0_ n1_ n2_ n3_
 (try clear hb)
 (try clear hb2)
 (try clear hk)
 (try clear hi)
 refine hK.out _ _ ⟨(blk_cell BK101.out 0).trans rfl, (blk_cell BK101.out 1).trans rfl, (blk_cell BK101.out 2).trans rfl, (blk_cell BK102.out 0).trans rfl, (blk_cell BK102.out 1).trans rfl, (blk_cell BK102.out 2).trans rfl⟩ (fun hHeld => ?_)
 clear hK K
 refine norm_ (a' := ?_) ?_ ?_
 rotate_left
 ·show Act.put _ (some 12) _ = _
  simp only [Act.put, List.setIfInBounds_toArray, List.set_cons_zero, List.set_cons_succ, i64_w, i32_w]
  rfl
 refine one_ (i := 11) (N := some 18) (bs 20 17) rfl rfl (one_of HT_.out (by kernel_rfl)) (by decide) (fun K hK => ?_)
 refine goesV_ (t := 13) HF.out HNM.out HBD.out #[.int .i64 a0_1, .int .i64 a1_1] lb (by rfl) rfl rfl (by rfl) mt_ ?_
 refine (HG2.out _ (by repeat (first | (with_reducible first | exact HB.out | apply below_alloc | apply pw_below_drewN | apply below_drew1 | refine below_set ?_ GE101.out | refine below_set ?_ GE102.out | refine below_set ?_ GE103.out) | exact HB.out))).mono ?_
 rintro e w11 ⟨rfl, hb⟩
 refine ⟨_, rfl, ?_⟩
 have n0_ := Aside0.mk (blk_below (g := gb101) (o := .cells #[.int .i64 a0_0, .int .i64 a0_1, .int .i64 a0_2] 29 (0, 0)) (bk_ BK101) hb)
 have n1_ := Aside0.mk (blk_below (g := gb102) (o := .cells #[.int .i64 a1_0, .int .i64 a1_1, .int .i64 a1_2] 29 (0, 0)) (bk_ BK102) hb)
 have n2_ := Aside0.mk (blk_below (g := gb103) (o := .cells #[.int .i64 0, .int .i64 0, .int .i64 0] 29 (0, 0)) (bk_ BK103) hb)
 have n3_ := Aside0.mk (below_step (by repeat (first | (with_reducible first | exact HB.out | apply below_alloc | apply pw_below_drewN | apply below_drew1 | refine below_set ?_ GE101.out | refine below_set ?_ GE102.out | refine below_set ?_ GE103.out) | exact HB.out)) hb)
 clear BK101
 clear BK102
 clear BK103
 clear HB
 have BK101 := n0_
 have BK102 := n1_
 have BK103 := n2_
 have HB := n3_
 clear n0_ n1_ n2_ n3_
 (try clear hb)
 (try clear hb2)
 (try clear hk)
 (try clear hi)
 refine hK.out _ _ ⟨(blk_cell BK101.out 0).trans rfl, (blk_cell BK101.out 1).trans rfl, (blk_cell BK101.out 2).trans rfl, (blk_cell BK102.out 0).trans rfl, (blk_cell BK102.out 1).trans rfl, (blk_cell BK102.out 2).trans rfl⟩ (fun hHeld => ?_)
 clear hK K
 refine norm_ (a' := ?_) ?_ ?_
 rotate_left
 ·show Act.put _ (some 18) _ = _
  simp only [Act.put, List.setIfInBounds_toArray, List.set_cons_zero, List.set_cons_succ, i64_w, i32_w]
  rfl
 refine one_ (i := 17) (N := some 24) (bs 20 18) rfl rfl (one_of HT_.out (by kernel_rfl)) (by decide) (fun K hK => ?_)
 refine goesV_ (t := 19) HF.out HNM.out HBD.out #[.int .i64 a0_2, .int .i64 a1_2] lb (by rfl) rfl rfl (by rfl) mt_ ?_
 refine (HG3.out _ (by repeat (first | (with_reducible first | exact HB.out | apply below_alloc | apply pw_below_drewN | apply below_drew1 | refine below_set ?_ GE101.out | refine below_set ?_ GE102.out | refine below_set ?_ GE103.out) | exact HB.out))).mono ?_
 rintro e w12 ⟨rfl, hb⟩
 refine ⟨_, rfl, ?_⟩
 have n0_ := Aside0.mk (blk_below (g := gb101) (o := .cells #[.int .i64 a0_0, .int .i64 a0_1, .int .i64 a0_2] 29 (0, 0)) (bk_ BK101) hb)
 have n1_ := Aside0.mk (blk_below (g := gb102) (o := .cells #[.int .i64 a1_0, .int .i64 a1_1, .int .i64 a1_2] 29 (0, 0)) (bk_ BK102) hb)
 have n2_ := Aside0.mk (blk_below (g := gb103) (o := .cells #[.int .i64 0, .int .i64 0, .int .i64 0] 29 (0, 0)) (bk_ BK103) hb)
 have n3_ := Aside0.mk (below_step (by repeat (first | (with_reducible first | exact HB.out | apply below_alloc | apply pw_below_drewN | apply below_drew1 | refine below_set ?_ GE101.out | refine below_set ?_ GE102.out | refine below_set ?_ GE103.out) | exact HB.out)) hb)
 clear BK101
 clear BK102
 clear BK103
 clear HB
 have BK101 := n0_
 have BK102 := n1_
 have BK103 := n2_
 have HB := n3_
 clear n0_ n1_ n2_ n3_
 (try clear hb)
 (try clear hb2)
 (try clear hk)
 (try clear hi)
 refine hK.out _ _ ⟨(blk_cell BK101.out 0).trans rfl, (blk_cell BK101.out 1).trans rfl, (blk_cell BK101.out 2).trans rfl, (blk_cell BK102.out 0).trans rfl, (blk_cell BK102.out 1).trans rfl, (blk_cell BK102.out 2).trans rfl⟩ (fun hHeld => ?_)
 clear hK K
 refine norm_ (a' := ?_) ?_ ?_
 rotate_left
 ·show Act.put _ (some 24) _ = _
  simp only [Act.put, List.setIfInBounds_toArray, List.set_cons_zero, List.set_cons_succ, i64_w, i32_w]
  rfl
 refine pure_s (i := 18) (N := some 25) (bs 20 19) (any_of HT_.out (by kernel_rfl)) (h := ?_)
 refine one_ (i := 19) (N := none) (bs 20 20) rfl rfl (one_of HT_.out (by kernel_rfl)) (by decide) (fun K hK => ?_)
 have hs13 : w12.cell? ⟨gb103, 0, none⟩ = some (.int .i64 0) := (blk_cell BK103.out 0).trans rfl
 have hfs13 := blk_frozen BK103.out 0
 have hns13_0 := NB101_103.out
 have hns13_1 := NB102_103.out
 have hms13_0 := NB103_101.out
 have hms13_1 := NB103_102.out
 have hs14 : w12.cell? ⟨gb103, 1, none⟩ = some (.int .i64 0) := (blk_cell BK103.out 1).trans rfl
 have hfs14 := blk_frozen BK103.out 1
 have hns14_0 := NB101_103.out
 have hns14_1 := NB102_103.out
 have hms14_0 := NB103_101.out
 have hms14_1 := NB103_102.out
 have hs15 : w12.cell? ⟨gb103, 2, none⟩ = some (.int .i64 0) := (blk_cell BK103.out 2).trans rfl
 have hfs15 := blk_frozen BK103.out 2
 have hns15_0 := NB101_103.out
 have hns15_1 := NB102_103.out
 have hms15_0 := NB103_101.out
 have hms15_1 := NB103_102.out
 refine skip_ (w1 := ?_) (by rfl) rfl ?_ ?_
 rotate_left
 ·go_simp
  rfl
 refine hK.out _ _ ⟨((cell_far (p := ⟨gb103, _, none⟩) NB101_103.out _).trans (((cell_far (p := ⟨gb103, _, none⟩) NB101_103.out _).trans (((cell_far (p := ⟨gb103, _, none⟩) NB101_103.out _).trans (hHeld.1)))))), ((cell_far (p := ⟨gb103, _, none⟩) NB101_103.out _).trans (((cell_far (p := ⟨gb103, _, none⟩) NB101_103.out _).trans (((cell_far (p := ⟨gb103, _, none⟩) NB101_103.out _).trans (hHeld.2.1)))))), ((cell_far (p := ⟨gb103, _, none⟩) NB101_103.out _).trans (((cell_far (p := ⟨gb103, _, none⟩) NB101_103.out _).trans (((cell_far (p := ⟨gb103, _, none⟩) NB101_103.out _).trans (hHeld.2.2.1)))))), ((cell_far (p := ⟨gb103, _, none⟩) NB102_103.out _).trans (((cell_far (p := ⟨gb103, _, none⟩) NB102_103.out _).trans (((cell_far (p := ⟨gb103, _, none⟩) NB102_103.out _).trans (hHeld.2.2.2.1)))))), ((cell_far (p := ⟨gb103, _, none⟩) NB102_103.out _).trans (((cell_far (p := ⟨gb103, _, none⟩) NB102_103.out _).trans (((cell_far (p := ⟨gb103, _, none⟩) NB102_103.out _).trans (hHeld.2.2.2.2.1)))))), ((cell_far (p := ⟨gb103, _, none⟩) NB102_103.out _).trans (((cell_far (p := ⟨gb103, _, none⟩) NB102_103.out _).trans (((cell_far (p := ⟨gb103, _, none⟩) NB102_103.out _).trans (hHeld.2.2.2.2.2))))))⟩ (fun hHeld => ?_)
 clear hK K
 refine done_ (done_of HT_.out (by kernel_rfl)) ?_
 try go_wp2
 refine bodyPost_ret (results_cell_row rfl _ _ gb103 29 #[.int .i64 t104, .int .i64 t105, .int .i64 t106] (0, 0) _ rfl (by (with_reducible repeat (first | refine blk_drewN ?_ _ | refine blk_drew ?_ | refine blk_alloc ?_ _)); refine blk_put (cs := #[.int .i64 t104, .int .i64 t105, .int .i64 0]) ?_ 2 _ rfl; (with_reducible repeat (first | refine blk_drewN ?_ _ | refine blk_drew ?_ | refine blk_alloc ?_ _)); refine blk_put (cs := #[.int .i64 t104, .int .i64 0, .int .i64 0]) ?_ 1 _ rfl; (with_reducible repeat (first | refine blk_drewN ?_ _ | refine blk_drew ?_ | refine blk_alloc ?_ _)); refine blk_put (cs := #[.int .i64 0, .int .i64 0, .int .i64 0]) ?_ 0 _ rfl; exact bk_ BK103) Try.underlying29 rfl (by kernel_rfl)) rfl ?_
 exact ⟨by first | rfl | (simp [errW_none, errW_some] <;> rfl) | (simp [*, errW_none, errW_some] <;> rfl), by repeat (first | (with_reducible first | exact HB.out | apply below_alloc | apply pw_below_drewN | apply below_drew1 | refine below_set ?_ GE101.out | refine below_set ?_ GE102.out | refine below_set ?_ GE103.out) | exact HB.out)⟩


def impl_both_100.f (a0_0 : Int) (a0_1 : Int) (a0_2 : Int) (a1_0 : Int) (a1_1 : Int) (a1_2 : Int) : Option (Int × Int × Int) := (impl_VecMost_1.f a0_0 a1_0).bind fun r1 => (impl_VecMost_1.f a0_1 a1_1).bind fun r2 => (impl_VecMost_1.f a0_2 a1_2).bind fun r3 => some (r1, r2, r3)
theorem impl_both_100.calls (a0_0 : Int) (a0_1 : Int) (a0_2 : Int) (a1_0 : Int) (a1_1 : Int) (a1_2 : Int) (r1 r2 r3 : Int) (w : World) (h : impl_both_100.f a0_0 a0_1 a0_2 a1_0 a1_1 a1_2 = some (r1, r2, r3)) :
  Calls Try.prog 99 #[.agg #[.int .i64 a0_0, .int .i64 a0_1, .int .i64 a0_2], .agg #[.int .i64 a1_0, .int .i64 a1_1, .int .i64 a1_2], .func (.func 100) #[] #[]] w fun e w' => e = .returned (.agg #[.int .i64 r1, .int .i64 r2, .int .i64 r3]) ∧ Below w.heap.size w w' := by
 unfold impl_both_100.f at h
 obtain ⟨q1, h1, h⟩ := Option.bind_eq_some_iff.mp h
 obtain ⟨q2, h2, h⟩ := Option.bind_eq_some_iff.mp h
 obtain ⟨q3, h3, h⟩ := Option.bind_eq_some_iff.mp h
 simp only [Option.some.injEq, Prod.mk.injEq] at h
 obtain ⟨e1, e2, e3⟩ := h
 subst e1 e2 e3
 exact impl_both.calls a0_0 a0_1 a0_2 a1_0 a1_1 a1_2 q1 q2 q3 100 Try.f100 #[] Try.func100 (by kernel_rfl) rfl w (fun W _ => impl_VecMost_1.calls a0_0 a1_0 q1 W h1) (fun W _ => impl_VecMost_1.calls a0_1 a1_1 q2 W h2) (fun W _ => impl_VecMost_1.calls a0_2 a1_2 q3 W h3)

/-! ### impl_VecMost: function 69 -/
def impl_VecMost.f (a0_0 : Int) (a0_1 : Int) (a0_2 : Int) (a1_0 : Int) (a1_1 : Int) (a1_2 : Int) : Option (Int × Int × Int) := (impl_both_100.f a0_0 a0_1 a0_2 a1_0 a1_1 a1_2).bind fun bt263 => (some (bt263.1, bt263.2.1, bt263.2.2))
set_option maxHeartbeats 8000000 in
set_option maxRecDepth 100000 in
theorem impl_VecMost.calls (a0_0 : Int) (a0_1 : Int) (a0_2 : Int) (a1_0 : Int) (a1_1 : Int) (a1_2 : Int) (r1 : Int) (r2 : Int) (r3 : Int) (w : World) (h : impl_VecMost.f a0_0 a0_1 a0_2 a1_0 a1_1 a1_2 = some (r1, r2, r3)) :
  Calls Try.prog 69 #[.agg #[.int .i64 a0_0, .int .i64 a0_1, .int .i64 a0_2], .agg #[.int .i64 a1_0, .int .i64 a1_1, .int .i64 a1_2]] w fun e w' => e = .returned (.agg #[.int .i64 r1, .int .i64 r2, .int .i64 r3]) ∧ Below w.heap.size w w' := by
 have hu29 := Try.underlying29; have HB := Aside0.mk (Below.refl w.heap.size w)
 have H : ((impl_both_100.f a0_0 a0_1 a0_2 a1_0 a1_1 a1_2).bind fun bt263 => (some (bt263.1, bt263.2.1, bt263.2.2))) = some (r1, r2, r3) := h
 clear h
 replace H := Option.bind_eq_some_iff.mp H
 obtain ⟨⟨t263, t264, t265⟩, A30, H⟩ := H
 replace H : (some (t263, t264, t265)) = some (r1, r2, r3) := H
 have A3 := Aside0.mk A30
 clear A30
 simp only [Option.some.injEq, Prod.mk.injEq] at H
 obtain ⟨rfl, rfl, rfl⟩ := H
 go_enter Try.func69, Try.ntmps69
 go_wp2_with (first | ((with_reducible refine gate_dst (N := 2) rfl ?_); refine box_event ?hg (N := 2) ?hd (cs := #[.int .i64 a0_0, .int .i64 a0_1, .int .i64 a0_2]) (t := 29) ?hr ?_; (case hd => rfl); (case hg => rfl); (case hr => first | (go_simp; done) | (go_simp; rfl)); intro gb260 hg w4 hbox hb; have n0_ := Aside0.mk (below_step (be_ HB) hb); have n1_ := Aside0.mk (hbox); have n2_ := gw_ HB hg; have n3_ := gw_ HB hg; clear HB; have HB := n0_; have BK260 := n1_; have GW260 := n2_; have GE260 := n3_; clear n0_ n1_ n2_ n3_; clear hb hbox hg) | ((with_reducible refine gate_dst (N := 3) rfl ?_); refine box_event ?hg (N := 3) ?hd (cs := #[.int .i64 a1_0, .int .i64 a1_1, .int .i64 a1_2]) (t := 29) ?hr ?_; (case hd => rfl); (case hg => rfl); (case hr => first | (go_simp; done) | (go_simp; rfl)); intro gb261 hg w5 hbox hb; have n0_ := bb_ BK260 hb; have n1_ := Aside0.mk (below_step (bf_ HB) hb); have n2_ := Aside0.mk (hbox); have n3_ := gw_ HB hg; have n4_ := gw_ HB hg; have n5_ := nl_ BK260 hg; have n6_ := ng_ BK260 hg; clear BK260; clear HB; have BK260 := n0_; have HB := n1_; have BK261 := n2_; have GW261 := n3_; have GE261 := n4_; have NB260_261 := n5_; have NB261_260 := n6_; clear n0_ n1_ n2_ n3_ n4_ n5_ n6_; clear hb hbox hg) | ((with_reducible refine gate_dst (N := 4) rfl ?_); refine box_event ?hg (N := 4) ?hd (cs := #[.int .i64 0, .int .i64 0, .int .i64 0]) (t := 29) ?hr ?_; (case hd => rfl); (case hg => rfl); (case hr => first | (go_simp; done) | (go_simp; rfl)); intro gb262 hg w6 hbox hb; have n0_ := bb_ BK260 hb; have n1_ := bb_ BK261 hb; have n2_ := Aside0.mk (below_step (bf_ HB) hb); have n3_ := Aside0.mk (hbox); have n4_ := gw_ HB hg; have n5_ := gw_ HB hg; have n6_ := nl_ BK260 hg; have n7_ := ng_ BK260 hg; have n8_ := nl_ BK261 hg; have n9_ := ng_ BK261 hg; clear BK260; clear BK261; clear HB; have BK260 := n0_; have BK261 := n1_; have HB := n2_; have BK262 := n3_; have GW262 := n4_; have GE262 := n5_; have NB260_262 := n6_; have NB262_260 := n7_; have NB261_262 := n8_; have NB262_261 := n9_; clear n0_ n1_ n2_ n3_ n4_ n5_ n6_ n7_ n8_ n9_; clear hb hbox hg; have hnb7 := NB260_261.out; have hnc7 := NB261_260.out; have hnb8 := NB260_262.out; have hnc8 := NB262_260.out; have hcz9_0 := bc_ BK260 0 (.int .i64 a0_0) rfl; have hcz9_1 := bc_ BK260 1 (.int .i64 a0_1) rfl; have hcz9_2 := bc_ BK260 2 (.int .i64 a0_2) rfl; have hfz9_0 := blk_frozen BK260.out 0; have hfz9_1 := blk_frozen BK260.out 1; have hfz9_2 := blk_frozen BK260.out 2; have hnb10 := NB261_262.out; have hnc10 := NB262_261.out; have hcz11_0 := bc_ BK261 0 (.int .i64 a1_0) rfl; have hcz11_1 := bc_ BK261 1 (.int .i64 a1_1) rfl; have hcz11_2 := bc_ BK261 2 (.int .i64 a1_2) rfl; have hfz11_0 := blk_frozen BK261.out 0; have hfz11_1 := blk_frozen BK261.out 1; have hfz11_2 := blk_frozen BK261.out 2) | ((with_reducible refine gate_callee (f := 99) rfl ?_); refine goesL_ (some 7) rfl rfl Try.func99 (by kernel_rfl) rfl #[.agg #[.int .i64 a0_0, .int .i64 a0_1, .int .i64 a0_2], .agg #[.int .i64 a1_0, .int .i64 a1_1, .int .i64 a1_2], .func (.func 100) #[] #[]] rfl mt_ ?_; (with_reducible refine (impl_both_100.calls a0_0 a0_1 a0_2 a1_0 a1_1 a1_2 t263 t264 t265 _ A3.out).mono ?_); rintro e w12 ⟨rfl, hb⟩; refine ⟨_, rfl, ?_⟩; have n0_ := bb_ BK260 hb; have n1_ := bb_ BK261 hb; have n2_ := bb_ BK262 hb; have n3_ := Aside0.mk (below_step (bf_ HB) hb); clear BK260; clear BK261; clear BK262; clear HB; have BK260 := n0_; have BK261 := n1_; have BK262 := n2_; have HB := n3_; clear n0_ n1_ n2_ n3_; (try clear hb); (try clear hb2); (try clear hk); (try clear hi); have hcz13_0 := bc_ BK262 0 (.int .i64 0) rfl; have hcz13_1 := bc_ BK262 1 (.int .i64 0) rfl; have hcz13_2 := bc_ BK262 2 (.int .i64 0) rfl; have hfz13_0 := blk_frozen BK262.out 0; have hfz13_1 := blk_frozen BK262.out 1; have hfz13_2 := blk_frozen BK262.out 2))
 refine bodyPost_ret (results_cell_row rfl _ _ gb262 29 #[.int .i64 t263, .int .i64 t264, .int .i64 t265] (0, 0) _ rfl (by (with_reducible repeat (first | refine blk_drewN ?_ _ | refine blk_drew ?_ | refine blk_alloc ?_ _)); refine blk_put (cs := #[.int .i64 t263, .int .i64 t264, .int .i64 0]) ?_ 2 _ rfl; (with_reducible repeat (first | refine blk_drewN ?_ _ | refine blk_drew ?_ | refine blk_alloc ?_ _)); refine blk_put (cs := #[.int .i64 t263, .int .i64 0, .int .i64 0]) ?_ 1 _ rfl; (with_reducible repeat (first | refine blk_drewN ?_ _ | refine blk_drew ?_ | refine blk_alloc ?_ _)); refine blk_put (cs := #[.int .i64 0, .int .i64 0, .int .i64 0]) ?_ 0 _ rfl; exact bk_ BK262) Try.underlying29 rfl (by kernel_rfl)) rfl ?_
 exact ⟨by first | rfl | (simp [errW_none, errW_some] <;> rfl) | (simp [*, errW_none, errW_some] <;> rfl), bf_ HB⟩

/-! ### impl_FairWake: function 34 -/
def impl_FairWake.f (k : Nat) (a0_0 : Int) (a0_1 : Int) (a0_2 : Int) (a0_3 : Int) (l0_4 : List (S38)) (a1 : Int) : Option (Int × Int × Int × Int × (List (S38)) × Int) := (impl_Fair_at.f a0_0 a0_1 a0_2 a0_3 l0_4 a1).bind fun t268 => ((impl_FairOk.f k a0_0 a0_1 a0_2 a0_3 l0_4).bind fun t269 => (if t269 = true then (if t268 < 0 then (some (0, 0, 0, 0, ([] : List (S38)), 4)) else (if 0 ≤ t268 then (if t268 < (l0_4.length : Int) then (if (rd_T38 l0_4 t268).f2 = true then (some (0, 0, 0, 0, ([] : List (S38)), 2)) else ((impl_copyFair.f a0_0 a0_1 a0_2 a0_3 l0_4).bind fun bt271 => (if t268 < (bt271.2.2.2.2.length : Int) then ((impl_VecMost.f ((rd_T38 bt271.2.2.2.2 t268).f3.f0) ((rd_T38 bt271.2.2.2.2 t268).f3.f1) ((rd_T38 bt271.2.2.2.2 t268).f3.f2) a0_1 a0_2 a0_3).bind fun bt280 => ((some (bt271.2.2.2.2.set (t268 : Int).toNat (⟨(rd_T38 bt271.2.2.2.2 t268).f0, (rd_T38 bt271.2.2.2.2 t268).f1, true, (⟨(rd_T38 bt271.2.2.2.2 t268).f3.f0, (rd_T38 bt271.2.2.2.2 t268).f3.f1, (rd_T38 bt271.2.2.2.2 t268).f3.f2⟩ : S29)⟩ : S38) : List (S38))).bind fun y283 => (some (bt271.1, bt271.2.1, bt271.2.2.1, bt271.2.2.2.1, (y283.set (t268 : Int).toNat (⟨(rd_T38 y283 t268).f0, (rd_T38 y283 t268).f1, (rd_T38 y283 t268).f2, (⟨bt280.1, bt280.2.1, bt280.2.2⟩ : S29)⟩ : S38)), 0)))) else (none)))) else (none)) else (none))) else (some (0, 0, 0, 0, ([] : List (S38)), 1))))
theorem impl_FairWake.mono : ∀ a0 a1 a2 a3 a4 a5 k, LeO (impl_FairWake.f k a0 a1 a2 a3 a4 a5) (impl_FairWake.f (k + 1) a0 a1 a2 a3 a4 a5) := by
 intro a0 a1 a2 a3 a4 a5 k
 unfold impl_FairWake.f
 repeat' first
   | (with_reducible exact impl_FairOk.mono _ _ _ _ _ _)
   | (with_reducible exact LeO.refl _)
   | (with_reducible exact LeO.none _)
   | (with_reducible refine LeO.ite ?_ ?_)
   | (with_reducible refine LeO.bind ?_ (fun _ => ?_))
   | exact impl_FairOk.mono _ _ _ _ _ _
   | exact LeO.none _
   | refine LeO.ite ?_ ?_
   | refine LeO.bind ?_ (fun _ => ?_)
def impl_FairWake.T10 : Bool × List (List Nat × List Nat) := (true, [([], []), ([], []), ([], []), ([2], [2]), ([3], [3]), ([4], [4]), ([], []), ([6], [6]), ([5, 7], [5, 7]), ([0, 0, 5, 8], [0]), ([9, 0, 5, 8], [9]), ([10, 8, 0, 5, 8], [10]), ([1, 0, 1, 2, 3, 4, 5, 6, 7, 8, 9, 10, 11], [1]), ([12, 0, 1, 2, 3, 4, 5, 6, 7, 8, 9, 10, 11], [12]), ([13, 8, 11, 0, 1, 2, 3, 4, 5, 6, 7, 8, 9, 10, 11], [8, 13])])
def impl_FairWake.B10 : List Nat := [0, 0, 0, 4, 12, 28, 0, 64, 252, 509, 1021, 2045, 4095, 8191, 16383]
theorem impl_FairWake.tab10 : rtab .any (opsOf Try.f34 10) = impl_FairWake.T10 := by kernel_rfl
theorem impl_FairWake.bits10 : waitsOk impl_FairWake.T10.2 impl_FairWake.B10 = true := by kernel_rfl
set_option maxHeartbeats 8000000 in
set_option maxRecDepth 100000 in
theorem impl_FairWake.calls (k : Nat) (a0_0 : Int) (a0_1 : Int) (a0_2 : Int) (a0_3 : Int) (A0_4 : Option Addr) (c0_4 : Nat) (l0_4 : List (S38)) (a1 : Int) (r1 : Int) (r2 : Int) (r3 : Int) (r4 : Int) (r5 : List (S38)) (r6 : Int) (w : World) (hr0_4 : Kd.C k38 w A0_4 l0_4.length l0_4) (hc0_4 : l0_4.length ≤ c0_4) (h : impl_FairWake.f k a0_0 a0_1 a0_2 a0_3 l0_4 a1 = some (r1, r2, r3, r4, r5, r6)) :
  Calls Try.prog 34 #[.agg #[.int .i64 a0_0, .int .i64 a0_1, .int .i64 a0_2, .int .i64 a0_3, .slice A0_4 l0_4.length c0_4], .int .i64 a1] w fun e w' => ∃ v4_ : Value, e = .returned (.tuple #[.agg #[.int .i64 r1, .int .i64 r2, .int .i64 r3, .int .i64 r4, v4_], .int .i64 r6]) ∧ Kd.R k38 38 w' w.heap.size (fun _ => True) v4_ r5 ∧ Below w.heap.size w w' := by
 have hu32 := Try.underlying32; have hu29 := Try.underlying29
 have HR0_4 := Aside0.mk hr0_4
 have HC0_4 := Aside0.mk hc0_4
 clear hr0_4 hc0_4; have HB := Aside0.mk (Below.refl w.heap.size w)
 have H : ((impl_Fair_at.f a0_0 a0_1 a0_2 a0_3 l0_4 a1).bind fun t268 => ((impl_FairOk.f k a0_0 a0_1 a0_2 a0_3 l0_4).bind fun t269 => (if t269 = true then (if t268 < 0 then (some (0, 0, 0, 0, ([] : List (S38)), 4)) else (if 0 ≤ t268 then (if t268 < (l0_4.length : Int) then (if (rd_T38 l0_4 t268).f2 = true then (some (0, 0, 0, 0, ([] : List (S38)), 2)) else ((impl_copyFair.f a0_0 a0_1 a0_2 a0_3 l0_4).bind fun bt271 => (if t268 < (bt271.2.2.2.2.length : Int) then ((impl_VecMost.f ((rd_T38 bt271.2.2.2.2 t268).f3.f0) ((rd_T38 bt271.2.2.2.2 t268).f3.f1) ((rd_T38 bt271.2.2.2.2 t268).f3.f2) a0_1 a0_2 a0_3).bind fun bt280 => ((some (bt271.2.2.2.2.set (t268 : Int).toNat (⟨(rd_T38 bt271.2.2.2.2 t268).f0, (rd_T38 bt271.2.2.2.2 t268).f1, true, (⟨(rd_T38 bt271.2.2.2.2 t268).f3.f0, (rd_T38 bt271.2.2.2.2 t268).f3.f1, (rd_T38 bt271.2.2.2.2 t268).f3.f2⟩ : S29)⟩ : S38) : List (S38))).bind fun y283 => (some (bt271.1, bt271.2.1, bt271.2.2.1, bt271.2.2.2.1, (y283.set (t268 : Int).toNat (⟨(rd_T38 y283 t268).f0, (rd_T38 y283 t268).f1, (rd_T38 y283 t268).f2, (⟨bt280.1, bt280.2.1, bt280.2.2⟩ : S29)⟩ : S38)), 0)))) else (none)))) else (none)) else (none))) else (some (0, 0, 0, 0, ([] : List (S38)), 1))))) = some (r1, r2, r3, r4, r5, r6) := h
 clear h
 replace H := Option.bind_eq_some_iff.mp H
 obtain ⟨t268, A30, H⟩ := H
 replace H : ((impl_FairOk.f k a0_0 a0_1 a0_2 a0_3 l0_4).bind fun t269 => (if t269 = true then (if t268 < 0 then (some (0, 0, 0, 0, ([] : List (S38)), 4)) else (if 0 ≤ t268 then (if t268 < (l0_4.length : Int) then (if (rd_T38 l0_4 t268).f2 = true then (some (0, 0, 0, 0, ([] : List (S38)), 2)) else ((impl_copyFair.f a0_0 a0_1 a0_2 a0_3 l0_4).bind fun bt271 => (if t268 < (bt271.2.2.2.2.length : Int) then ((impl_VecMost.f ((rd_T38 bt271.2.2.2.2 t268).f3.f0) ((rd_T38 bt271.2.2.2.2 t268).f3.f1) ((rd_T38 bt271.2.2.2.2 t268).f3.f2) a0_1 a0_2 a0_3).bind fun bt280 => ((some (bt271.2.2.2.2.set (t268 : Int).toNat (⟨(rd_T38 bt271.2.2.2.2 t268).f0, (rd_T38 bt271.2.2.2.2 t268).f1, true, (⟨(rd_T38 bt271.2.2.2.2 t268).f3.f0, (rd_T38 bt271.2.2.2.2 t268).f3.f1, (rd_T38 bt271.2.2.2.2 t268).f3.f2⟩ : S29)⟩ : S38) : List (S38))).bind fun y283 => (some (bt271.1, bt271.2.1, bt271.2.2.1, bt271.2.2.2.1, (y283.set (t268 : Int).toNat (⟨(rd_T38 y283 t268).f0, (rd_T38 y283 t268).f1, (rd_T38 y283 t268).f2, (⟨bt280.1, bt280.2.1, bt280.2.2⟩ : S29)⟩ : S38)), 0)))) else (none)))) else (none)) else (none))) else (some (0, 0, 0, 0, ([] : List (S38)), 1)))) = some (r1, r2, r3, r4, r5, r6) := H
 have A3 := Aside0.mk A30
 clear A30
 replace H := Option.bind_eq_some_iff.mp H
 obtain ⟨t269, A40, H⟩ := H
 replace H : (if t269 = true then (if t268 < 0 then (some (0, 0, 0, 0, ([] : List (S38)), 4)) else (if 0 ≤ t268 then (if t268 < (l0_4.length : Int) then (if (rd_T38 l0_4 t268).f2 = true then (some (0, 0, 0, 0, ([] : List (S38)), 2)) else ((impl_copyFair.f a0_0 a0_1 a0_2 a0_3 l0_4).bind fun bt271 => (if t268 < (bt271.2.2.2.2.length : Int) then ((impl_VecMost.f ((rd_T38 bt271.2.2.2.2 t268).f3.f0) ((rd_T38 bt271.2.2.2.2 t268).f3.f1) ((rd_T38 bt271.2.2.2.2 t268).f3.f2) a0_1 a0_2 a0_3).bind fun bt280 => ((some (bt271.2.2.2.2.set (t268 : Int).toNat (⟨(rd_T38 bt271.2.2.2.2 t268).f0, (rd_T38 bt271.2.2.2.2 t268).f1, true, (⟨(rd_T38 bt271.2.2.2.2 t268).f3.f0, (rd_T38 bt271.2.2.2.2 t268).f3.f1, (rd_T38 bt271.2.2.2.2 t268).f3.f2⟩ : S29)⟩ : S38) : List (S38))).bind fun y283 => (some (bt271.1, bt271.2.1, bt271.2.2.1, bt271.2.2.2.1, (y283.set (t268 : Int).toNat (⟨(rd_T38 y283 t268).f0, (rd_T38 y283 t268).f1, (rd_T38 y283 t268).f2, (⟨bt280.1, bt280.2.1, bt280.2.2⟩ : S29)⟩ : S38)), 0)))) else (none)))) else (none)) else (none))) else (some (0, 0, 0, 0, ([] : List (S38)), 1))) = some (r1, r2, r3, r4, r5, r6) := H
 have A4 := Aside0.mk A40
 clear A40
 by_cases c5 : t269 = true
 ·subst c5
  have H1 : (if t268 < 0 then (some (0, 0, 0, 0, ([] : List (S38)), 4)) else (if 0 ≤ t268 then (if t268 < (l0_4.length : Int) then (if (rd_T38 l0_4 t268).f2 = true then (some (0, 0, 0, 0, ([] : List (S38)), 2)) else ((impl_copyFair.f a0_0 a0_1 a0_2 a0_3 l0_4).bind fun bt271 => (if t268 < (bt271.2.2.2.2.length : Int) then ((impl_VecMost.f ((rd_T38 bt271.2.2.2.2 t268).f3.f0) ((rd_T38 bt271.2.2.2.2 t268).f3.f1) ((rd_T38 bt271.2.2.2.2 t268).f3.f2) a0_1 a0_2 a0_3).bind fun bt280 => ((some (bt271.2.2.2.2.set (t268 : Int).toNat (⟨(rd_T38 bt271.2.2.2.2 t268).f0, (rd_T38 bt271.2.2.2.2 t268).f1, true, (⟨(rd_T38 bt271.2.2.2.2 t268).f3.f0, (rd_T38 bt271.2.2.2.2 t268).f3.f1, (rd_T38 bt271.2.2.2.2 t268).f3.f2⟩ : S29)⟩ : S38) : List (S38))).bind fun y283 => (some (bt271.1, bt271.2.1, bt271.2.2.1, bt271.2.2.2.1, (y283.set (t268 : Int).toNat (⟨(rd_T38 y283 t268).f0, (rd_T38 y283 t268).f1, (rd_T38 y283 t268).f2, (⟨bt280.1, bt280.2.1, bt280.2.2⟩ : S29)⟩ : S38)), 0)))) else (none)))) else (none)) else (none))) = some (r1, r2, r3, r4, r5, r6) := by rw [if_pos rfl] at H; exact H
  clear H
  have H := H1
  clear H1
  by_cases c6 : t268 < 0
  ·rw [if_pos c6] at H
   have c6b0 : decide (t268 < 0) = true := decide_eq_true c6
   clear c6
   simp only [Option.some.injEq, Prod.mk.injEq] at H
   obtain ⟨rfl, rfl, rfl, rfl, rfl, rfl⟩ := H
   go_enter Try.func34, Try.ntmps34
   go_wp2_with (first | ((with_reducible refine gate_dst (N := 2) rfl ?_); refine box_event ?hg (N := 2) ?hd (cs := #[.int .i64 a0_0, .int .i64 a0_1, .int .i64 a0_2, .int .i64 a0_3, .slice A0_4 l0_4.length c0_4]) (t := 32) ?hr ?_; (case hd => rfl); (case hg => rfl); (case hr => first | (go_simp; done) | (go_simp; rfl)); intro gb266 hg w7 hbox hb; have n0_ := Aside0.mk (below_step (be_ HB) hb); have n1_ := Aside0.mk (hbox); have n2_ := gw_ HB hg; have n3_ := gw_ HB hg; clear HB; have HB := n0_; have BK266 := n1_; have GW266 := n2_; have GE266 := n3_; clear n0_ n1_ n2_ n3_; clear hb hbox hg) | ((with_reducible refine gate_dst (N := 4) rfl ?_); refine box_event ?hg (N := 4) ?hd (cs := #[.int .i64 0, .int .i64 0, .int .i64 0, .int .i64 0, .slice none 0 0]) (t := 32) ?hr ?_; (case hd => rfl); (case hg => rfl); (case hr => first | (go_simp; done) | (go_simp; rfl)); intro gb267 hg w8 hbox hb; have n0_ := bb_ BK266 hb; have n1_ := Aside0.mk (below_step (bf_ HB) hb); have n2_ := Aside0.mk (hbox); have n3_ := gw_ HB hg; have n4_ := gw_ HB hg; have n5_ := nl_ BK266 hg; have n6_ := ng_ BK266 hg; clear BK266; clear HB; have BK266 := n0_; have HB := n1_; have BK267 := n2_; have GW267 := n3_; have GE267 := n4_; have NB266_267 := n5_; have NB267_266 := n6_; clear n0_ n1_ n2_ n3_ n4_ n5_ n6_; clear hb hbox hg; have hnb9 := NB266_267.out; have hnc9 := NB267_266.out; have hcz10_0 := bc_ BK266 0 (.int .i64 a0_0) rfl; have hcz10_1 := bc_ BK266 1 (.int .i64 a0_1) rfl; have hcz10_2 := bc_ BK266 2 (.int .i64 a0_2) rfl; have hcz10_3 := bc_ BK266 3 (.int .i64 a0_3) rfl; have hcz10_4 := bc_ BK266 4 (.slice A0_4 l0_4.length c0_4) rfl; have hfz10_0 := blk_frozen BK266.out 0; have hfz10_1 := blk_frozen BK266.out 1; have hfz10_2 := blk_frozen BK266.out 2; have hfz10_3 := blk_frozen BK266.out 3; have hfz10_4 := blk_frozen BK266.out 4) | ((with_reducible refine gate_callee (f := 58) rfl ?_); refine goesL_ (some 11) rfl rfl Try.func58 (by kernel_rfl) rfl #[.agg #[.int .i64 a0_0, .int .i64 a0_1, .int .i64 a0_2, .int .i64 a0_3, .slice A0_4 l0_4.length c0_4], .int .i64 a1] rfl mt_ ?_; (with_reducible refine (impl_Fair_at.calls a0_0 a0_1 a0_2 a0_3 _ _ l0_4 a1 t268 _ ?side1 ?side2 A3.out).mono ?_); (case side1 => repeat (first | exact (Kd.C_below HR0_4.out HB.out) | (with_reducible refine Kd.C_alloc ?_ _) | (with_reducible refine Kd.C_drewN ?_ _) | (with_reducible refine Kd.C_drew ?_))); (case side2 => exact HC0_4.out); rintro e w11 ⟨rfl, hb⟩; refine ⟨_, rfl, ?_⟩; have n0_ := bb_ BK266 hb; have n1_ := bb_ BK267 hb; have n2_ := Aside0.mk (below_step (bf_ HB) hb); clear BK266; clear BK267; clear HB; have BK266 := n0_; have BK267 := n1_; have HB := n2_; clear n0_ n1_ n2_; (try clear hb); (try clear hb2); (try clear hk); (try clear hi); have hcz12_0 := bc_ BK266 0 (.int .i64 a0_0) rfl; have hcz12_1 := bc_ BK266 1 (.int .i64 a0_1) rfl; have hcz12_2 := bc_ BK266 2 (.int .i64 a0_2) rfl; have hcz12_3 := bc_ BK266 3 (.int .i64 a0_3) rfl; have hcz12_4 := bc_ BK266 4 (.slice A0_4 l0_4.length c0_4) rfl; have hfz12_0 := blk_frozen BK266.out 0; have hfz12_1 := blk_frozen BK266.out 1; have hfz12_2 := blk_frozen BK266.out 2; have hfz12_3 := blk_frozen BK266.out 3; have hfz12_4 := blk_frozen BK266.out 4) | ((with_reducible refine gate_callee (f := 18) rfl ?_); refine goesL_ (some 14) rfl rfl Try.func18 (by kernel_rfl) rfl #[.agg #[.int .i64 a0_0, .int .i64 a0_1, .int .i64 a0_2, .int .i64 a0_3, .slice A0_4 l0_4.length c0_4]] rfl mt_ ?_; (with_reducible refine (impl_FairOk.calls k a0_0 a0_1 a0_2 a0_3 _ _ l0_4 true _ ?side1 ?side2 A4.out).mono ?_); (case side1 => repeat (first | exact (Kd.C_below HR0_4.out HB.out) | (with_reducible refine Kd.C_alloc ?_ _) | (with_reducible refine Kd.C_drewN ?_ _) | (with_reducible refine Kd.C_drew ?_))); (case side2 => exact HC0_4.out); rintro e w13 ⟨rfl, hb⟩; refine ⟨_, rfl, ?_⟩; have n0_ := bb_ BK266 hb; have n1_ := bb_ BK267 hb; have n2_ := Aside0.mk (below_step (bf_ HB) hb); clear BK266; clear BK267; clear HB; have BK266 := n0_; have BK267 := n1_; have HB := n2_; clear n0_ n1_ n2_; (try clear hb); (try clear hb2); (try clear hk); (try clear hi); have hcz14_0 := bc_ BK267 0 (.int .i64 0) rfl; have hcz14_1 := bc_ BK267 1 (.int .i64 0) rfl; have hcz14_2 := bc_ BK267 2 (.int .i64 0) rfl; have hcz14_3 := bc_ BK267 3 (.int .i64 0) rfl; have hcz14_4 := bc_ BK267 4 (.slice none 0 0) rfl; have hfz14_0 := blk_frozen BK267.out 0; have hfz14_1 := blk_frozen BK267.out 1; have hfz14_2 := blk_frozen BK267.out 2; have hfz14_3 := blk_frozen BK267.out 3; have hfz14_4 := blk_frozen BK267.out 4))
   refine bodyPost_ret (results_ct rfl _ _ gb267 32 #[.int .i64 0, .int .i64 0, .int .i64 0, .int .i64 0, .slice none 0 0] (0, 0) _ rfl (by (with_reducible repeat (first | refine blk_drewN ?_ _ | refine blk_drew ?_ | refine blk_alloc ?_ _)); refine blk_put (cs := #[.int .i64 0, .int .i64 0, .int .i64 0, .int .i64 0, .slice none 0 0]) ?_ 4 _ rfl; (with_reducible repeat (first | refine blk_drewN ?_ _ | refine blk_drew ?_ | refine blk_alloc ?_ _)); refine blk_put (cs := #[.int .i64 0, .int .i64 0, .int .i64 0, .int .i64 0, .slice none 0 0]) ?_ 3 _ rfl; (with_reducible repeat (first | refine blk_drewN ?_ _ | refine blk_drew ?_ | refine blk_alloc ?_ _)); refine blk_put (cs := #[.int .i64 0, .int .i64 0, .int .i64 0, .int .i64 0, .slice none 0 0]) ?_ 2 _ rfl; (with_reducible repeat (first | refine blk_drewN ?_ _ | refine blk_drew ?_ | refine blk_alloc ?_ _)); refine blk_put (cs := #[.int .i64 0, .int .i64 0, .int .i64 0, .int .i64 0, .slice none 0 0]) ?_ 1 _ rfl; (with_reducible repeat (first | refine blk_drewN ?_ _ | refine blk_drew ?_ | refine blk_alloc ?_ _)); refine blk_put (cs := #[.int .i64 0, .int .i64 0, .int .i64 0, .int .i64 0, .slice none 0 0]) ?_ 0 _ rfl; exact bk_ BK267) Try.underlying32 rfl (by kernel_rfl)) rfl ?_
   exact ⟨_, by first | rfl | (simp [errW_none, errW_some] <;> rfl) | (simp [*, errW_none, errW_some] <;> rfl), by first | exact Kd.R_nil _ _ _ _ _ | exact Kd.N_nil _ _ _ _ _ | exact Kd.V_nil _ _ _ _ _ | exact Kd.Q_nil _ _ _ _ _ | exact Kd.S_nil _ _ _ _ _, bf_ HB⟩
  ·rw [if_neg c6] at H
   have c6b0 : decide (t268 < 0) = false := decide_eq_false c6
   clear c6
   by_cases c15 : 0 ≤ t268
   ·rw [if_pos c15] at H
    have c15b0 : decide (0 ≤ t268) = true := decide_eq_true c15
    clear c15
    by_cases c16 : t268 < (l0_4.length : Int)
    ·rw [if_pos c16] at H
     have c16b0 : decide (t268 < (l0_4.length : Int)) = true := decide_eq_true c16
     clear c16
     obtain ⟨bq17, hbq17⟩ : ∃ b_ : Bool, b_ = ((rd_T38 l0_4 t268).f2) := ⟨_, rfl⟩
     replace H : (if bq17 = true then (some (0, 0, 0, 0, ([] : List (S38)), 2)) else ((impl_copyFair.f a0_0 a0_1 a0_2 a0_3 l0_4).bind fun bt271 => (if t268 < (bt271.2.2.2.2.length : Int) then ((impl_VecMost.f ((rd_T38 bt271.2.2.2.2 t268).f3.f0) ((rd_T38 bt271.2.2.2.2 t268).f3.f1) ((rd_T38 bt271.2.2.2.2 t268).f3.f2) a0_1 a0_2 a0_3).bind fun bt280 => ((some (bt271.2.2.2.2.set (t268 : Int).toNat (⟨(rd_T38 bt271.2.2.2.2 t268).f0, (rd_T38 bt271.2.2.2.2 t268).f1, true, (⟨(rd_T38 bt271.2.2.2.2 t268).f3.f0, (rd_T38 bt271.2.2.2.2 t268).f3.f1, (rd_T38 bt271.2.2.2.2 t268).f3.f2⟩ : S29)⟩ : S38) : List (S38))).bind fun y283 => (some (bt271.1, bt271.2.1, bt271.2.2.1, bt271.2.2.2.1, (y283.set (t268 : Int).toNat (⟨(rd_T38 y283 t268).f0, (rd_T38 y283 t268).f1, (rd_T38 y283 t268).f2, (⟨bt280.1, bt280.2.1, bt280.2.2⟩ : S29)⟩ : S38)), 0)))) else (none)))) = some (r1, r2, r3, r4, r5, r6) := by rw [← hbq17] at H; exact H
     have Nbq17 := Aside0.mk hbq17
     clear hbq17
     by_cases c18 : bq17 = true
     ·subst c18
      have H1 : (some (0, 0, 0, 0, ([] : List (S38)), 2)) = some (r1, r2, r3, r4, r5, r6) := by rw [if_pos rfl] at H; exact H
      clear H
      have H := H1
      clear H1
      simp only [Option.some.injEq, Prod.mk.injEq] at H
      obtain ⟨rfl, rfl, rfl, rfl, rfl, rfl⟩ := H
      go_enter Try.func34, Try.ntmps34
      go_wp2_with (first | ((with_reducible refine gate_dst (N := 2) rfl ?_); refine box_event ?hg (N := 2) ?hd (cs := #[.int .i64 a0_0, .int .i64 a0_1, .int .i64 a0_2, .int .i64 a0_3, .slice A0_4 l0_4.length c0_4]) (t := 32) ?hr ?_; (case hd => rfl); (case hg => rfl); (case hr => first | (go_simp; done) | (go_simp; rfl)); intro gb266 hg w19 hbox hb; have n0_ := Aside0.mk (below_step (be_ HB) hb); have n1_ := Aside0.mk (hbox); have n2_ := gw_ HB hg; have n3_ := gw_ HB hg; clear HB; have HB := n0_; have BK266 := n1_; have GW266 := n2_; have GE266 := n3_; clear n0_ n1_ n2_ n3_; clear hb hbox hg) | ((with_reducible refine gate_dst (N := 4) rfl ?_); refine box_event ?hg (N := 4) ?hd (cs := #[.int .i64 0, .int .i64 0, .int .i64 0, .int .i64 0, .slice none 0 0]) (t := 32) ?hr ?_; (case hd => rfl); (case hg => rfl); (case hr => first | (go_simp; done) | (go_simp; rfl)); intro gb267 hg w20 hbox hb; have n0_ := bb_ BK266 hb; have n1_ := Aside0.mk (below_step (bf_ HB) hb); have n2_ := Aside0.mk (hbox); have n3_ := gw_ HB hg; have n4_ := gw_ HB hg; have n5_ := nl_ BK266 hg; have n6_ := ng_ BK266 hg; clear BK266; clear HB; have BK266 := n0_; have HB := n1_; have BK267 := n2_; have GW267 := n3_; have GE267 := n4_; have NB266_267 := n5_; have NB267_266 := n6_; clear n0_ n1_ n2_ n3_ n4_ n5_ n6_; clear hb hbox hg; have hnb21 := NB266_267.out; have hnc21 := NB267_266.out; have hcz22_0 := bc_ BK266 0 (.int .i64 a0_0) rfl; have hcz22_1 := bc_ BK266 1 (.int .i64 a0_1) rfl; have hcz22_2 := bc_ BK266 2 (.int .i64 a0_2) rfl; have hcz22_3 := bc_ BK266 3 (.int .i64 a0_3) rfl; have hcz22_4 := bc_ BK266 4 (.slice A0_4 l0_4.length c0_4) rfl; have hfz22_0 := blk_frozen BK266.out 0; have hfz22_1 := blk_frozen BK266.out 1; have hfz22_2 := blk_frozen BK266.out 2; have hfz22_3 := blk_frozen BK266.out 3; have hfz22_4 := blk_frozen BK266.out 4) | ((with_reducible refine gate_callee (f := 58) rfl ?_); refine goesL_ (some 11) rfl rfl Try.func58 (by kernel_rfl) rfl #[.agg #[.int .i64 a0_0, .int .i64 a0_1, .int .i64 a0_2, .int .i64 a0_3, .slice A0_4 l0_4.length c0_4], .int .i64 a1] rfl mt_ ?_; (with_reducible refine (impl_Fair_at.calls a0_0 a0_1 a0_2 a0_3 _ _ l0_4 a1 t268 _ ?side1 ?side2 A3.out).mono ?_); (case side1 => repeat (first | exact (Kd.C_below HR0_4.out HB.out) | (with_reducible refine Kd.C_alloc ?_ _) | (with_reducible refine Kd.C_drewN ?_ _) | (with_reducible refine Kd.C_drew ?_))); (case side2 => exact HC0_4.out); rintro e w23 ⟨rfl, hb⟩; refine ⟨_, rfl, ?_⟩; have n0_ := bb_ BK266 hb; have n1_ := bb_ BK267 hb; have n2_ := Aside0.mk (below_step (bf_ HB) hb); clear BK266; clear BK267; clear HB; have BK266 := n0_; have BK267 := n1_; have HB := n2_; clear n0_ n1_ n2_; (try clear hb); (try clear hb2); (try clear hk); (try clear hi); have hcz24_0 := bc_ BK266 0 (.int .i64 a0_0) rfl; have hcz24_1 := bc_ BK266 1 (.int .i64 a0_1) rfl; have hcz24_2 := bc_ BK266 2 (.int .i64 a0_2) rfl; have hcz24_3 := bc_ BK266 3 (.int .i64 a0_3) rfl; have hcz24_4 := bc_ BK266 4 (.slice A0_4 l0_4.length c0_4) rfl; have hfz24_0 := blk_frozen BK266.out 0; have hfz24_1 := blk_frozen BK266.out 1; have hfz24_2 := blk_frozen BK266.out 2; have hfz24_3 := blk_frozen BK266.out 3; have hfz24_4 := blk_frozen BK266.out 4) | ((with_reducible refine gate_callee (f := 18) rfl ?_); refine goesL_ (some 14) rfl rfl Try.func18 (by kernel_rfl) rfl #[.agg #[.int .i64 a0_0, .int .i64 a0_1, .int .i64 a0_2, .int .i64 a0_3, .slice A0_4 l0_4.length c0_4]] rfl mt_ ?_; (with_reducible refine (impl_FairOk.calls k a0_0 a0_1 a0_2 a0_3 _ _ l0_4 true _ ?side1 ?side2 A4.out).mono ?_); (case side1 => repeat (first | exact (Kd.C_below HR0_4.out HB.out) | (with_reducible refine Kd.C_alloc ?_ _) | (with_reducible refine Kd.C_drewN ?_ _) | (with_reducible refine Kd.C_drew ?_))); (case side2 => exact HC0_4.out); rintro e w25 ⟨rfl, hb⟩; refine ⟨_, rfl, ?_⟩; have n0_ := bb_ BK266 hb; have n1_ := bb_ BK267 hb; have n2_ := Aside0.mk (below_step (bf_ HB) hb); clear BK266; clear BK267; clear HB; have BK266 := n0_; have BK267 := n1_; have HB := n2_; clear n0_ n1_ n2_; (try clear hb); (try clear hb2); (try clear hk); (try clear hi); have hcz26_0 := bc_ BK266 0 (.int .i64 a0_0) rfl; have hcz26_1 := bc_ BK266 1 (.int .i64 a0_1) rfl; have hcz26_2 := bc_ BK266 2 (.int .i64 a0_2) rfl; have hcz26_3 := bc_ BK266 3 (.int .i64 a0_3) rfl; have hcz26_4 := bc_ BK266 4 (.slice A0_4 l0_4.length c0_4) rfl; have hfz26_0 := blk_frozen BK266.out 0; have hfz26_1 := blk_frozen BK266.out 1; have hfz26_2 := blk_frozen BK266.out 2; have hfz26_3 := blk_frozen BK266.out 3; have hfz26_4 := blk_frozen BK266.out 4; have p270 : 0 ≤ (t268 : Int) := of_decide_eq_true (by first | (with_reducible assumption) | assumption); have q270 : t268 < (l0_4.length : Int) := of_decide_eq_true (by first | (with_reducible assumption) | assumption); obtain ⟨ad270, e270, hx270_0, hx270_1, hx270_2, hx270_3, hx270_4, hx270_5⟩ := at_T38 HR0_4.out t268 p270 q270; (try rw [← Nbq17.out] at hx270_2); cases e270; replace hx270_0 := (HB.out.cell (World.block_lt_of_cell? w _ hx270_0)).trans hx270_0; replace hx270_1 := (HB.out.cell (World.block_lt_of_cell? w _ hx270_1)).trans hx270_1; replace hx270_2 := (HB.out.cell (World.block_lt_of_cell? w _ hx270_2)).trans hx270_2; replace hx270_3 := (HB.out.cell (World.block_lt_of_cell? w _ hx270_3)).trans hx270_3; replace hx270_4 := (HB.out.cell (World.block_lt_of_cell? w _ hx270_4)).trans hx270_4; replace hx270_5 := (HB.out.cell (World.block_lt_of_cell? w _ hx270_5)).trans hx270_5; replace p270 := eq_true p270; replace q270 := eq_true q270; have hcz27_0 := bc_ BK267 0 (.int .i64 0) rfl; have hcz27_1 := bc_ BK267 1 (.int .i64 0) rfl; have hcz27_2 := bc_ BK267 2 (.int .i64 0) rfl; have hcz27_3 := bc_ BK267 3 (.int .i64 0) rfl; have hcz27_4 := bc_ BK267 4 (.slice none 0 0) rfl; have hfz27_0 := blk_frozen BK267.out 0; have hfz27_1 := blk_frozen BK267.out 1; have hfz27_2 := blk_frozen BK267.out 2; have hfz27_3 := blk_frozen BK267.out 3; have hfz27_4 := blk_frozen BK267.out 4))
      refine bodyPost_ret (results_ct rfl _ _ gb267 32 #[.int .i64 0, .int .i64 0, .int .i64 0, .int .i64 0, .slice none 0 0] (0, 0) _ rfl (by (with_reducible repeat (first | refine blk_drewN ?_ _ | refine blk_drew ?_ | refine blk_alloc ?_ _)); refine blk_put (cs := #[.int .i64 0, .int .i64 0, .int .i64 0, .int .i64 0, .slice none 0 0]) ?_ 4 _ rfl; (with_reducible repeat (first | refine blk_drewN ?_ _ | refine blk_drew ?_ | refine blk_alloc ?_ _)); refine blk_put (cs := #[.int .i64 0, .int .i64 0, .int .i64 0, .int .i64 0, .slice none 0 0]) ?_ 3 _ rfl; (with_reducible repeat (first | refine blk_drewN ?_ _ | refine blk_drew ?_ | refine blk_alloc ?_ _)); refine blk_put (cs := #[.int .i64 0, .int .i64 0, .int .i64 0, .int .i64 0, .slice none 0 0]) ?_ 2 _ rfl; (with_reducible repeat (first | refine blk_drewN ?_ _ | refine blk_drew ?_ | refine blk_alloc ?_ _)); refine blk_put (cs := #[.int .i64 0, .int .i64 0, .int .i64 0, .int .i64 0, .slice none 0 0]) ?_ 1 _ rfl; (with_reducible repeat (first | refine blk_drewN ?_ _ | refine blk_drew ?_ | refine blk_alloc ?_ _)); refine blk_put (cs := #[.int .i64 0, .int .i64 0, .int .i64 0, .int .i64 0, .slice none 0 0]) ?_ 0 _ rfl; exact bk_ BK267) Try.underlying32 rfl (by kernel_rfl)) rfl ?_
      exact ⟨_, by first | rfl | (simp [errW_none, errW_some] <;> rfl) | (simp [*, errW_none, errW_some] <;> rfl), by first | exact Kd.R_nil _ _ _ _ _ | exact Kd.N_nil _ _ _ _ _ | exact Kd.V_nil _ _ _ _ _ | exact Kd.Q_nil _ _ _ _ _ | exact Kd.S_nil _ _ _ _ _, bf_ HB⟩
     ·replace c18 := Bool.eq_false_iff.mpr c18
      subst c18
      have H1 : ((impl_copyFair.f a0_0 a0_1 a0_2 a0_3 l0_4).bind fun bt271 => (if t268 < (bt271.2.2.2.2.length : Int) then ((impl_VecMost.f ((rd_T38 bt271.2.2.2.2 t268).f3.f0) ((rd_T38 bt271.2.2.2.2 t268).f3.f1) ((rd_T38 bt271.2.2.2.2 t268).f3.f2) a0_1 a0_2 a0_3).bind fun bt280 => ((some (bt271.2.2.2.2.set (t268 : Int).toNat (⟨(rd_T38 bt271.2.2.2.2 t268).f0, (rd_T38 bt271.2.2.2.2 t268).f1, true, (⟨(rd_T38 bt271.2.2.2.2 t268).f3.f0, (rd_T38 bt271.2.2.2.2 t268).f3.f1, (rd_T38 bt271.2.2.2.2 t268).f3.f2⟩ : S29)⟩ : S38) : List (S38))).bind fun y283 => (some (bt271.1, bt271.2.1, bt271.2.2.1, bt271.2.2.2.1, (y283.set (t268 : Int).toNat (⟨(rd_T38 y283 t268).f0, (rd_T38 y283 t268).f1, (rd_T38 y283 t268).f2, (⟨bt280.1, bt280.2.1, bt280.2.2⟩ : S29)⟩ : S38)), 0)))) else (none))) = some (r1, r2, r3, r4, r5, r6) := by rw [if_neg (show ¬ (false = true) by decide)] at H; exact H
      clear H
      have H := H1
      clear H1
      replace H := Option.bind_eq_some_iff.mp H
      obtain ⟨⟨t271, t272, t273, t274, t275⟩, A280, H⟩ := H
      replace H : (if t268 < (t275.length : Int) then ((impl_VecMost.f ((rd_T38 t275 t268).f3.f0) ((rd_T38 t275 t268).f3.f1) ((rd_T38 t275 t268).f3.f2) a0_1 a0_2 a0_3).bind fun bt280 => ((some (t275.set (t268 : Int).toNat (⟨(rd_T38 t275 t268).f0, (rd_T38 t275 t268).f1, true, (⟨(rd_T38 t275 t268).f3.f0, (rd_T38 t275 t268).f3.f1, (rd_T38 t275 t268).f3.f2⟩ : S29)⟩ : S38) : List (S38))).bind fun y283 => (some (t271, t272, t273, t274, (y283.set (t268 : Int).toNat (⟨(rd_T38 y283 t268).f0, (rd_T38 y283 t268).f1, (rd_T38 y283 t268).f2, (⟨bt280.1, bt280.2.1, bt280.2.2⟩ : S29)⟩ : S38)), 0)))) else (none)) = some (r1, r2, r3, r4, r5, r6) := H
      have A28 := Aside0.mk A280
      clear A280
      by_cases c29 : t268 < (t275.length : Int)
      ·rw [if_pos c29] at H
       have c29b0 : decide (t268 < (t275.length : Int)) = true := decide_eq_true c29
       clear c29
       replace H := Option.bind_eq_some_iff.mp H
       obtain ⟨⟨t280, t281, t282⟩, A310, H⟩ := H
       replace H : ((some (t275.set (t268 : Int).toNat (⟨(rd_T38 t275 t268).f0, (rd_T38 t275 t268).f1, true, (⟨(rd_T38 t275 t268).f3.f0, (rd_T38 t275 t268).f3.f1, (rd_T38 t275 t268).f3.f2⟩ : S29)⟩ : S38) : List (S38))).bind fun y283 => (some (t271, t272, t273, t274, (y283.set (t268 : Int).toNat (⟨(rd_T38 y283 t268).f0, (rd_T38 y283 t268).f1, (rd_T38 y283 t268).f2, (⟨t280, t281, t282⟩ : S29)⟩ : S38)), 0))) = some (r1, r2, r3, r4, r5, r6) := H
       have A31 := Aside0.mk A310
       clear A310
       obtain ⟨y283, hy283⟩ : ∃ y_ : List (S38), y_ = (t275.set (t268 : Int).toNat (⟨(rd_T38 t275 t268).f0, (rd_T38 t275 t268).f1, true, (⟨(rd_T38 t275 t268).f3.f0, (rd_T38 t275 t268).f3.f1, (rd_T38 t275 t268).f3.f2⟩ : S29)⟩ : S38)) := ⟨_, rfl⟩
       replace H : (some (t271, t272, t273, t274, (y283.set (t268 : Int).toNat (⟨(rd_T38 y283 t268).f0, (rd_T38 y283 t268).f1, (rd_T38 y283 t268).f2, (⟨t280, t281, t282⟩ : S29)⟩ : S38)), 0)) = some (r1, r2, r3, r4, r5, r6) := by first | (rw [hy283]; with_reducible exact H) | (have H2_ := (Option.bind_some _ _).symm.trans H; rw [hy283]; with_reducible exact H2_) | (have H2_ := (Option.bind_some _ _).symm.trans H; with_reducible exact H2_) | with_reducible exact H | (rw [hy283]; exact H) | exact H
       have Ny283 := Aside0.mk hy283
       clear hy283
       obtain ⟨y284, hy284⟩ : ∃ y_ : List (S38), y_ = (y283.set (t268 : Int).toNat (⟨(rd_T38 y283 t268).f0, (rd_T38 y283 t268).f1, (rd_T38 y283 t268).f2, (⟨t280, t281, t282⟩ : S29)⟩ : S38)) := ⟨_, rfl⟩
       replace H : (some (t271, t272, t273, t274, y284, 0)) = some (r1, r2, r3, r4, r5, r6) := by first | (rw [hy284]; with_reducible exact H) | (have H2_ := (Option.bind_some _ _).symm.trans H; rw [hy284]; with_reducible exact H2_) | (have H2_ := (Option.bind_some _ _).symm.trans H; with_reducible exact H2_) | with_reducible exact H | (rw [hy284]; exact H) | exact H
       have Ny284 := Aside0.mk hy284
       clear hy284
       simp only [Option.some.injEq, Prod.mk.injEq] at H
       obtain ⟨rfl, rfl, rfl, rfl, rfl, rfl⟩ := H
       go_enter Try.func34, Try.ntmps34
       try go_wp2_with (first | ((with_reducible refine gate_dst (N := 2) rfl ?_); refine box_event ?hg (N := 2) ?hd (cs := #[.int .i64 a0_0, .int .i64 a0_1, .int .i64 a0_2, .int .i64 a0_3, .slice A0_4 l0_4.length c0_4]) (t := 32) ?hr ?_; (case hd => rfl); (case hg => rfl); (case hr => first | (go_simp; done) | (go_simp; rfl)); intro gb266 hg w32 hbox hb; have n0_ := Aside0.mk (below_step (be_ HB) hb); have n1_ := Aside0.mk (hbox); have n2_ := gw_ HB hg; have n3_ := gw_ HB hg; clear HB; have HB := n0_; have BK266 := n1_; have GW266 := n2_; have GE266 := n3_; clear n0_ n1_ n2_ n3_; clear hb hbox hg) | ((with_reducible refine gate_dst (N := 4) rfl ?_); refine box_event ?hg (N := 4) ?hd (cs := #[.int .i64 0, .int .i64 0, .int .i64 0, .int .i64 0, .slice none 0 0]) (t := 32) ?hr ?_; (case hd => rfl); (case hg => rfl); (case hr => first | (go_simp; done) | (go_simp; rfl)); intro gb267 hg w33 hbox hb; have n0_ := bb_ BK266 hb; have n1_ := Aside0.mk (below_step (bf_ HB) hb); have n2_ := Aside0.mk (hbox); have n3_ := gw_ HB hg; have n4_ := gw_ HB hg; have n5_ := nl_ BK266 hg; have n6_ := ng_ BK266 hg; clear BK266; clear HB; have BK266 := n0_; have HB := n1_; have BK267 := n2_; have GW267 := n3_; have GE267 := n4_; have NB266_267 := n5_; have NB267_266 := n6_; clear n0_ n1_ n2_ n3_ n4_ n5_ n6_; clear hb hbox hg; have hnb34 := NB266_267.out; have hnc34 := NB267_266.out; have hcz35_0 := bc_ BK266 0 (.int .i64 a0_0) rfl; have hcz35_1 := bc_ BK266 1 (.int .i64 a0_1) rfl; have hcz35_2 := bc_ BK266 2 (.int .i64 a0_2) rfl; have hcz35_3 := bc_ BK266 3 (.int .i64 a0_3) rfl; have hcz35_4 := bc_ BK266 4 (.slice A0_4 l0_4.length c0_4) rfl; have hfz35_0 := blk_frozen BK266.out 0; have hfz35_1 := blk_frozen BK266.out 1; have hfz35_2 := blk_frozen BK266.out 2; have hfz35_3 := blk_frozen BK266.out 3; have hfz35_4 := blk_frozen BK266.out 4) | ((with_reducible refine gate_callee (f := 58) rfl ?_); refine goesL_ (some 11) rfl rfl Try.func58 (by kernel_rfl) rfl #[.agg #[.int .i64 a0_0, .int .i64 a0_1, .int .i64 a0_2, .int .i64 a0_3, .slice A0_4 l0_4.length c0_4], .int .i64 a1] rfl mt_ ?_; (with_reducible refine (impl_Fair_at.calls a0_0 a0_1 a0_2 a0_3 _ _ l0_4 a1 t268 _ ?side1 ?side2 A3.out).mono ?_); (case side1 => repeat (first | exact (Kd.C_below HR0_4.out HB.out) | (with_reducible refine Kd.C_alloc ?_ _) | (with_reducible refine Kd.C_drewN ?_ _) | (with_reducible refine Kd.C_drew ?_))); (case side2 => exact HC0_4.out); rintro e w36 ⟨rfl, hb⟩; refine ⟨_, rfl, ?_⟩; have n0_ := bb_ BK266 hb; have n1_ := bb_ BK267 hb; have n2_ := Aside0.mk (below_step (bf_ HB) hb); clear BK266; clear BK267; clear HB; have BK266 := n0_; have BK267 := n1_; have HB := n2_; clear n0_ n1_ n2_; (try clear hb); (try clear hb2); (try clear hk); (try clear hi); have hcz37_0 := bc_ BK266 0 (.int .i64 a0_0) rfl; have hcz37_1 := bc_ BK266 1 (.int .i64 a0_1) rfl; have hcz37_2 := bc_ BK266 2 (.int .i64 a0_2) rfl; have hcz37_3 := bc_ BK266 3 (.int .i64 a0_3) rfl; have hcz37_4 := bc_ BK266 4 (.slice A0_4 l0_4.length c0_4) rfl; have hfz37_0 := blk_frozen BK266.out 0; have hfz37_1 := blk_frozen BK266.out 1; have hfz37_2 := blk_frozen BK266.out 2; have hfz37_3 := blk_frozen BK266.out 3; have hfz37_4 := blk_frozen BK266.out 4) | ((with_reducible refine gate_callee (f := 18) rfl ?_); refine goesL_ (some 14) rfl rfl Try.func18 (by kernel_rfl) rfl #[.agg #[.int .i64 a0_0, .int .i64 a0_1, .int .i64 a0_2, .int .i64 a0_3, .slice A0_4 l0_4.length c0_4]] rfl mt_ ?_; (with_reducible refine (impl_FairOk.calls k a0_0 a0_1 a0_2 a0_3 _ _ l0_4 true _ ?side1 ?side2 A4.out).mono ?_); (case side1 => repeat (first | exact (Kd.C_below HR0_4.out HB.out) | (with_reducible refine Kd.C_alloc ?_ _) | (with_reducible refine Kd.C_drewN ?_ _) | (with_reducible refine Kd.C_drew ?_))); (case side2 => exact HC0_4.out); rintro e w38 ⟨rfl, hb⟩; refine ⟨_, rfl, ?_⟩; have n0_ := bb_ BK266 hb; have n1_ := bb_ BK267 hb; have n2_ := Aside0.mk (below_step (bf_ HB) hb); clear BK266; clear BK267; clear HB; have BK266 := n0_; have BK267 := n1_; have HB := n2_; clear n0_ n1_ n2_; (try clear hb); (try clear hb2); (try clear hk); (try clear hi); have hcz39_0 := bc_ BK266 0 (.int .i64 a0_0) rfl; have hcz39_1 := bc_ BK266 1 (.int .i64 a0_1) rfl; have hcz39_2 := bc_ BK266 2 (.int .i64 a0_2) rfl; have hcz39_3 := bc_ BK266 3 (.int .i64 a0_3) rfl; have hcz39_4 := bc_ BK266 4 (.slice A0_4 l0_4.length c0_4) rfl; have hfz39_0 := blk_frozen BK266.out 0; have hfz39_1 := blk_frozen BK266.out 1; have hfz39_2 := blk_frozen BK266.out 2; have hfz39_3 := blk_frozen BK266.out 3; have hfz39_4 := blk_frozen BK266.out 4; have p270 : 0 ≤ (t268 : Int) := of_decide_eq_true (by first | (with_reducible assumption) | assumption); have q270 : t268 < (l0_4.length : Int) := of_decide_eq_true (by first | (with_reducible assumption) | assumption); obtain ⟨ad270, e270, hx270_0, hx270_1, hx270_2, hx270_3, hx270_4, hx270_5⟩ := at_T38 HR0_4.out t268 p270 q270; (try rw [← Nbq17.out] at hx270_2); cases e270; replace hx270_0 := (HB.out.cell (World.block_lt_of_cell? w _ hx270_0)).trans hx270_0; replace hx270_1 := (HB.out.cell (World.block_lt_of_cell? w _ hx270_1)).trans hx270_1; replace hx270_2 := (HB.out.cell (World.block_lt_of_cell? w _ hx270_2)).trans hx270_2; replace hx270_3 := (HB.out.cell (World.block_lt_of_cell? w _ hx270_3)).trans hx270_3; replace hx270_4 := (HB.out.cell (World.block_lt_of_cell? w _ hx270_4)).trans hx270_4; replace hx270_5 := (HB.out.cell (World.block_lt_of_cell? w _ hx270_5)).trans hx270_5; replace p270 := eq_true p270; replace q270 := eq_true q270) | ((with_reducible refine gate_callee (f := 62) rfl ?_); refine goesL_ (some 30) rfl rfl Try.func62 (by kernel_rfl) rfl #[.agg #[.int .i64 a0_0, .int .i64 a0_1, .int .i64 a0_2, .int .i64 a0_3, .slice (some ad270) l0_4.length c0_4]] rfl mt_ ?_; (with_reducible refine (impl_copyFair.calls a0_0 a0_1 a0_2 a0_3 _ _ l0_4 t271 t272 t273 t274 t275 _ ?side1 ?side2 A28.out).mono ?_); (case side1 => repeat (first | exact (Kd.C_below HR0_4.out HB.out) | (with_reducible refine Kd.C_alloc ?_ _) | (with_reducible refine Kd.C_drewN ?_ _) | (with_reducible refine Kd.C_drew ?_))); (case side2 => exact HC0_4.out); rintro e w40 ⟨v276, rfl, ho0, hb⟩; refine ⟨_, rfl, ?_⟩; have n0_ := Aside0.mk (Kd.R_lower ho0 (below_size (bf_ HB))); have n1_ := bb_ BK266 hb; have n2_ := bb_ BK267 hb; have n3_ := Aside0.mk (below_step (bf_ HB) hb); clear BK266; clear BK267; clear HB; have HO277 := n0_; have BK266 := n1_; have BK267 := n2_; have HB := n3_; clear n0_ n1_ n2_ n3_; (try clear hb); (try clear hb2); (try clear hk); (try clear hi); (try clear ho0)) | ((with_reducible refine gate_dst (N := 7) rfl ?_); refine box_event ?hg (N := 7) ?hd (cs := #[.int .i64 0, .int .i64 0, .int .i64 0, .int .i64 0, .slice none 0 0]) (t := 32) ?hr ?_; (case hd => rfl); (case hg => rfl); (case hr => first | (go_simp; done) | (go_simp; rfl)); intro gb278 hg w41 hbox hb; have n0_ := Aside0.mk (Kd.R_below (kr_ HO277) hb); have n1_ := bb_ BK266 hb; have n2_ := bb_ BK267 hb; have n3_ := Aside0.mk (below_step (bf_ HB) hb); have n4_ := Aside0.mk (hbox); have n5_ := gw_ HB hg; have n6_ := gw_ HB hg; have n7_ := nl_ BK266 hg; have n8_ := ng_ BK266 hg; have n9_ := nl_ BK267 hg; have n10_ := ng_ BK267 hg; clear HO277; clear BK266; clear BK267; clear HB; have HO277 := n0_; have BK266 := n1_; have BK267 := n2_; have HB := n3_; have BK278 := n4_; have GW278 := n5_; have GE278 := n6_; have NB266_278 := n7_; have NB278_266 := n8_; have NB267_278 := n9_; have NB278_267 := n10_; clear n0_ n1_ n2_ n3_ n4_ n5_ n6_ n7_ n8_ n9_ n10_; clear hb hbox hg; have hnb42 := NB278_266.out; have hnc42 := NB266_278.out; have hnb43 := NB278_267.out; have hnc43 := NB267_278.out; have hcz44_0 := bc_ BK278 0 (.int .i64 0) rfl; have hcz44_1 := bc_ BK278 1 (.int .i64 0) rfl; have hcz44_2 := bc_ BK278 2 (.int .i64 0) rfl; have hcz44_3 := bc_ BK278 3 (.int .i64 0) rfl; have hcz44_4 := bc_ BK278 4 (.slice none 0 0) rfl; have hfz44_0 := blk_frozen BK278.out 0; have hfz44_1 := blk_frozen BK278.out 1; have hfz44_2 := blk_frozen BK278.out 2; have hfz44_3 := blk_frozen BK278.out 3; have hfz44_4 := blk_frozen BK278.out 4; obtain ⟨Ao45, co45, eo45⟩ := Kd.R_slice HO277.out; subst eo45) | ((with_reducible refine gate_store (t := 32) (p := 7) rfl ?_); refine store_event (t := 32) (p := 7) (v := ?vo_w46) (w1 := (((((w41.setCell ⟨gb278, 0, none⟩ (.int .i64 t271)).setCell ⟨gb278, 1, none⟩ (.int .i64 t272)).setCell ⟨gb278, 2, none⟩ (.int .i64 t273)).setCell ⟨gb278, 3, none⟩ (.int .i64 t274)).setCell ⟨gb278, 4, none⟩ (.slice Ao45 t275.length co45))) ?hg ?ho ?hn ?hr ?_; (case ho => rfl); (case hg => rfl); (case hn => rfl); (case hr => first | (go_simp; done) | (go_simp; rfl)); intro w46 hw; have n0_ : Aside0 (Kd.R k38 38 w46 w.heap.size (fun _ => True) (.slice Ao45 t275.length co45) t275) := ⟨(by rw [hw]; exact (by (with_reducible repeat (first | apply Kd.R_alloc | apply Kd.R_drewN | apply Kd.R_drew)); exact Kd.R_mono (Kd.R_far (p := ⟨gb278, 4, none⟩) (Kd.R_far (p := ⟨gb278, 3, none⟩) (Kd.R_far (p := ⟨gb278, 2, none⟩) (Kd.R_far (p := ⟨gb278, 1, none⟩) (Kd.R_far (p := ⟨gb278, 0, none⟩) (Kd.R_types HO277.out BK278.out (by decide)) (fun _ hk => by first | exact hk.2 | grind) (.int .i64 t271)) (fun _ hk => by first | exact hk.2 | grind) (.int .i64 t272)) (fun _ hk => by first | exact hk.2 | grind) (.int .i64 t273)) (fun _ hk => by first | exact hk.2 | grind) (.int .i64 t274)) (fun _ hk => by first | exact hk.2 | grind) (.slice Ao45 t275.length co45)) (fun _ hk => by first | exact trivial | grind)))⟩; have n1_ : Aside0 (w46.heap[gb266]? = some (.cells #[.int .i64 a0_0, .int .i64 a0_1, .int .i64 a0_2, .int .i64 a0_3, .slice (some ad270) l0_4.length c0_4] 32 (0, 0))) := ⟨(by rw [hw]; exact (bl_ BK266))⟩; have n2_ : Aside0 (w46.heap[gb267]? = some (.cells #[.int .i64 0, .int .i64 0, .int .i64 0, .int .i64 0, .slice none 0 0] 32 (0, 0))) := ⟨(by rw [hw]; exact (bl_ BK267))⟩; have n3_ : Aside0 (w46.heap[gb278]? = some (.cells #[.int .i64 t271, .int .i64 t272, .int .i64 t273, .int .i64 t274, .slice Ao45 t275.length co45] 32 (0, 0))) := ⟨(by rw [hw]; exact (by (with_reducible repeat (first | refine blk_drewN ?_ _ | refine blk_drew ?_ | refine blk_alloc ?_ _)); refine blk_put (cs := #[.int .i64 t271, .int .i64 t272, .int .i64 t273, .int .i64 t274, .slice none 0 0]) ?_ 4 _ rfl; (with_reducible repeat (first | refine blk_drewN ?_ _ | refine blk_drew ?_ | refine blk_alloc ?_ _)); refine blk_put (cs := #[.int .i64 t271, .int .i64 t272, .int .i64 t273, .int .i64 0, .slice none 0 0]) ?_ 3 _ rfl; (with_reducible repeat (first | refine blk_drewN ?_ _ | refine blk_drew ?_ | refine blk_alloc ?_ _)); refine blk_put (cs := #[.int .i64 t271, .int .i64 t272, .int .i64 0, .int .i64 0, .slice none 0 0]) ?_ 2 _ rfl; (with_reducible repeat (first | refine blk_drewN ?_ _ | refine blk_drew ?_ | refine blk_alloc ?_ _)); refine blk_put (cs := #[.int .i64 t271, .int .i64 0, .int .i64 0, .int .i64 0, .slice none 0 0]) ?_ 1 _ rfl; (with_reducible repeat (first | refine blk_drewN ?_ _ | refine blk_drew ?_ | refine blk_alloc ?_ _)); refine blk_put (cs := #[.int .i64 0, .int .i64 0, .int .i64 0, .int .i64 0, .slice none 0 0]) ?_ 0 _ rfl; exact bk_ BK278))⟩; have n4_ : Aside0 (Below w.heap.size w w46) := ⟨(by rw [hw]; exact (bf_ HB))⟩; clear hw; clear HO277; clear BK266; clear BK267; clear BK278; clear HB; have HO277 := n0_; have BK266 := n1_; have BK267 := n2_; have BK278 := n3_; have HB := n4_; clear n0_ n1_ n2_ n3_ n4_; have hcz47_0 := bc_ BK278 0 (.int .i64 t271) rfl; have hcz47_1 := bc_ BK278 1 (.int .i64 t272) rfl; have hcz47_2 := bc_ BK278 2 (.int .i64 t273) rfl; have hcz47_3 := bc_ BK278 3 (.int .i64 t274) rfl; have hcz47_4 := bc_ BK278 4 (.slice Ao45 t275.length co45) rfl; have hfz47_0 := blk_frozen BK278.out 0; have hfz47_1 := blk_frozen BK278.out 1; have hfz47_2 := blk_frozen BK278.out 2; have hfz47_3 := blk_frozen BK278.out 3; have hfz47_4 := blk_frozen BK278.out 4; have p30 : 0 ≤ (t268 : Int) := of_decide_eq_true (by first | (with_reducible assumption) | assumption); have q30 : (t268 : Int) < ((t275.length : Int) : Int) := of_decide_eq_true (by first | (with_reducible assumption) | assumption); obtain ⟨go30, co30, eo30, gb30, gl30, cl30, HG30⟩ := Kd.R_form HO277.out (by omega); (first | cases eo30 | (injection eo30 with ea_ en_ ec_; (first | subst ea_ | (injection ea_ with ea_; subst ea_)); subst ec_; clear en_)); have GB30 := Aside0.mk gb30; have GG30 := Aside0.mk HG30; clear gb30 gl30 HG30; obtain ⟨ce30, hcl30, hM30, hcc30, hfr30⟩ := Kd.R_elem HO277.out z38 (t268 : Int) p30 q30; obtain rfl := k38_openM hM30; have hx30_0 : w46.cell? ⟨go30, (t268 : Int).toNat * 6, none⟩ = some (.int .i64 ((rd_T38 t275 t268).f0)) := hcc30 0 _ rfl; have hx30_1 : w46.cell? ⟨go30, (t268 : Int).toNat * 6 + 1, none⟩ = some (.int .i64 ((rd_T38 t275 t268).f1)) := hcc30 1 _ rfl; have hx30_2 : w46.cell? ⟨go30, (t268 : Int).toNat * 6 + 2, none⟩ = some (.bool ((rd_T38 t275 t268).f2)) := hcc30 2 _ rfl; have hx30_3 : w46.cell? ⟨go30, (t268 : Int).toNat * 6 + 3, none⟩ = some (.int .i64 ((rd_T38 t275 t268).f3.f0)) := hcc30 3 _ rfl; have hx30_4 : w46.cell? ⟨go30, (t268 : Int).toNat * 6 + 4, none⟩ = some (.int .i64 ((rd_T38 t275 t268).f3.f1)) := hcc30 4 _ rfl; have hx30_5 : w46.cell? ⟨go30, (t268 : Int).toNat * 6 + 5, none⟩ = some (.int .i64 ((rd_T38 t275 t268).f3.f2)) := hcc30 5 _ rfl; have hf30_0 : w46.frozen? ⟨go30, (t268 : Int).toNat * 6, none⟩ = false := hfr30 0; have hf30_1 : w46.frozen? ⟨go30, (t268 : Int).toNat * 6 + 1, none⟩ = false := hfr30 1; have hf30_2 : w46.frozen? ⟨go30, (t268 : Int).toNat * 6 + 2, none⟩ = false := hfr30 2; have hf30_3 : w46.frozen? ⟨go30, (t268 : Int).toNat * 6 + 3, none⟩ = false := hfr30 3; have hf30_4 : w46.frozen? ⟨go30, (t268 : Int).toNat * 6 + 4, none⟩ = false := hfr30 4; have hf30_5 : w46.frozen? ⟨go30, (t268 : Int).toNat * 6 + 5, none⟩ = false := hfr30 5; clear hcl30 hcc30 hfr30 hM30; replace p30 := eq_true p30; replace q30 := eq_true q30))
       have n0_ := Aside0.mk (Kd.R_drew HO277.out); have n1_ := Aside0.mk (blk_drew BK266.out); have n2_ := Aside0.mk (blk_drew BK267.out); have n3_ := Aside0.mk (blk_drew BK278.out); have n4_ := Aside0.mk (below_drew1 HB.out); clear HO277; clear BK266; clear BK267; clear BK278; clear HB; have HO277 := n0_; have BK266 := n1_; have BK267 := n2_; have BK278 := n3_; have HB := n4_; clear n0_ n1_ n2_ n3_ n4_
       have p279 : 0 ≤ (t268 : Int) := of_decide_eq_true (by first | (with_reducible assumption) | assumption)
       have q279 : t268 < (t275.length : Int) := of_decide_eq_true (by first | (with_reducible assumption) | assumption)
       obtain ⟨ad279, e279, hx279_0, hx279_1, hx279_2, hx279_3, hx279_4, hx279_5⟩ := at_T38 (Kd.R_reads' HO277.out).2.2 t268 p279 q279
       (try rw [← Nbq17.out] at hx279_2)
       obtain rfl : (⟨go30, 0, none⟩ : Addr) = ad279 := (by injection e279)
       (first | simp only [add_plain] at hx279_0 | simp only [add_at] at hx279_0 | simp only [Addr.add, Nat.zero_add] at hx279_0 | skip)
       (first | simp only [add_plain] at hx279_1 | simp only [add_at] at hx279_1 | simp only [Addr.add, Nat.zero_add] at hx279_1 | skip)
       (first | simp only [add_plain] at hx279_2 | simp only [add_at] at hx279_2 | simp only [Addr.add, Nat.zero_add] at hx279_2 | skip)
       (first | simp only [add_plain] at hx279_3 | simp only [add_at] at hx279_3 | simp only [Addr.add, Nat.zero_add] at hx279_3 | skip)
       (first | simp only [add_plain] at hx279_4 | simp only [add_at] at hx279_4 | simp only [Addr.add, Nat.zero_add] at hx279_4 | skip)
       (first | simp only [add_plain] at hx279_5 | simp only [add_at] at hx279_5 | simp only [Addr.add, Nat.zero_add] at hx279_5 | skip)
       replace p279 := eq_true p279
       replace q279 := eq_true q279
       refine start_ (n := 15) (S := fun w' => w'.cell? ⟨gb266, 0, none⟩ = some (.int .i64 a0_0) ∧ w'.cell? ⟨gb266, 1, none⟩ = some (.int .i64 a0_1) ∧ w'.cell? ⟨gb266, 2, none⟩ = some (.int .i64 a0_2) ∧ w'.cell? ⟨gb266, 3, none⟩ = some (.int .i64 a0_3) ∧ w'.cell? ⟨gb266, 4, none⟩ = some (.slice (some ad270) l0_4.length c0_4) ∧ w'.cell? ⟨go30, (t268).toNat * 6, none⟩ = some (.int .i64 ((rd_T38 t275 t268).f0)) ∧ w'.cell? ⟨go30, (t268).toNat * 6 + 1, none⟩ = some (.int .i64 ((rd_T38 t275 t268).f1)) ∧ w'.cell? ⟨go30, (t268).toNat * 6 + 2, none⟩ = some (.bool ((rd_T38 t275 t268).f2)) ∧ w'.cell? ⟨go30, (t268).toNat * 6 + 3, none⟩ = some (.int .i64 ((rd_T38 t275 t268).f3.f0)) ∧ w'.cell? ⟨go30, (t268).toNat * 6 + 4, none⟩ = some (.int .i64 ((rd_T38 t275 t268).f3.f1)) ∧ w'.cell? ⟨go30, (t268).toNat * 6 + 5, none⟩ = some (.int .i64 ((rd_T38 t275 t268).f3.f2))) (ds := [11, 14]) (bs 15 0) (by kernel_rfl) rfl rfl ⟨bt_ BK266 0, bt_ BK266 1, bt_ BK266 2, bt_ BK266 3, bt_ BK266 4, hx279_0, hx279_1, hx279_2, hx279_3, hx279_4, hx279_5⟩ (fun hHeld => ?_); refine with_tabW impl_FairWake.tab10 impl_FairWake.bits10 (fun HT_ HW_ => ?_)
       generalize w46.drew = w48 at HO277 BK266 BK267 BK278 HB hx279_0 hx279_1 hx279_2 hx279_3 hx279_4 hx279_5 hHeld ⊢
       refine pure_s (i := 0) (N := some 35) (bs 15 1) (any_of HT_.out (by kernel_rfl)) (h := ?_)
       refine pure_s (i := 1) (N := some 36) (bs 15 2) (any_of HT_.out (by kernel_rfl)) (h := ?_)
       refine pure_s (i := 2) (N := some 37) (bs 15 3) (any_of HT_.out (by kernel_rfl)) (h := ?_)
       refine pure_s (i := 3) (N := some 38) (bs 15 4) (any_of HT_.out (by kernel_rfl)) (h := ?_)
       refine pure_s (i := 4) (N := some 39) (bs 15 5) (any_of HT_.out (by kernel_rfl)) (h := ?_)
       refine pure_s (i := 6) (N := some 41) #[oT,oT,oT,oT,oT,oF,oT,oF,oF,oF,oF,oF,oF,oF,oF] (any_of HT_.out (by kernel_rfl)) (h := ?_)
       refine take_ (i := 5) (N := some 40) (v := ?_) (a' := ?_) (bs 15 7) rfl rfl (take_ofW HT_.out HW_.out (by kernel_rfl)) (fun _ _ _ h => h) (Or.inl ⟨by rfl, ?_⟩) hHeld ?_ ?_
       rotate_left
       ·rintro w' ⟨s0, s1, s2, s3, s4, s5, s6, s7, s8, s9, s10⟩
        go_simp
        with_reducible rfl
       rotate_left
       ·simp only [Act.put, List.setIfInBounds_toArray, List.set_cons_zero, List.set_cons_succ, i64_w, i32_w]
        rfl
       refine take_ (i := 7) (N := some 42) (v := ?_) (a' := ?_) (bs 15 8) rfl rfl (take_ofW HT_.out HW_.out (by kernel_rfl)) (fun _ _ _ h => h) (Or.inl ⟨by rfl, ?_⟩) hHeld ?_ ?_
       rotate_left
       ·rintro w' ⟨s0, s1, s2, s3, s4, s5, s6, s7, s8, s9, s10⟩
        go_simp
        with_reducible rfl
       rotate_left
       ·simp only [Act.put, List.setIfInBounds_toArray, List.set_cons_zero, List.set_cons_succ, i64_w, i32_w]
        rfl
       refine one_ (i := 8) (N := some 43) (bs 15 9) rfl rfl (one_of HT_.out (by kernel_rfl)) (by decide) (fun K hK => ?_)
       refine goes_ Try.func69 (by kernel_rfl) rfl #[.agg #[.int .i64 ((rd_T38 t275 t268).f3.f0), .int .i64 ((rd_T38 t275 t268).f3.f1), .int .i64 ((rd_T38 t275 t268).f3.f2)], .agg #[.int .i64 a0_1, .int .i64 a0_2, .int .i64 a0_3]] (by rfl) rfl rfl mt_ ?_
       with_reducible refine (impl_VecMost.calls ((rd_T38 t275 t268).f3.f0) ((rd_T38 t275 t268).f3.f1) ((rd_T38 t275 t268).f3.f2) a0_1 a0_2 a0_3 t280 t281 t282 _ A31.out).mono ?_
       rintro e w49 ⟨rfl, hb⟩
       have HS5_ := (hb.cell (World.block_lt_of_cell? _ _ (hHeld.2.2.2.2.2.1))).trans (hHeld.2.2.2.2.2.1)
       have HS6_ := (hb.cell (World.block_lt_of_cell? _ _ (hHeld.2.2.2.2.2.2.1))).trans (hHeld.2.2.2.2.2.2.1)
       have HS7_ := (hb.cell (World.block_lt_of_cell? _ _ (hHeld.2.2.2.2.2.2.2.1))).trans (hHeld.2.2.2.2.2.2.2.1)
       have HS8_ := (hb.cell (World.block_lt_of_cell? _ _ (hHeld.2.2.2.2.2.2.2.2.1))).trans (hHeld.2.2.2.2.2.2.2.2.1)
       have HS9_ := (hb.cell (World.block_lt_of_cell? _ _ (hHeld.2.2.2.2.2.2.2.2.2.1))).trans (hHeld.2.2.2.2.2.2.2.2.2.1)
       have HS10_ := (hb.cell (World.block_lt_of_cell? _ _ (hHeld.2.2.2.2.2.2.2.2.2.2))).trans (hHeld.2.2.2.2.2.2.2.2.2.2)
       refine ⟨_, rfl, ?_⟩
       have n0_ := Aside0.mk (Kd.R_below (kr_ HO277) hb); have n1_ := bb_ BK266 hb; have n2_ := bb_ BK267 hb; have n3_ := bb_ BK278 hb; have n4_ := Aside0.mk (below_step (bf_ HB) hb); clear HO277; clear BK266; clear BK267; clear BK278; clear HB; have HO277 := n0_; have BK266 := n1_; have BK267 := n2_; have BK278 := n3_; have HB := n4_; clear n0_ n1_ n2_ n3_ n4_; (try clear hb); (try clear hb2); (try clear hk); (try clear hi)
       obtain ⟨ce50, hcl50, hM50, hcc50, hfr50⟩ := Kd.R_elem HO277.out z38 (t268 : Int) (of_decide_eq_true (by first | (with_reducible assumption) | assumption)) (by have h_ : (t268 : Int) < ((t275.length : Int) : Int) := of_decide_eq_true (by first | (with_reducible assumption) | assumption); first | exact h_ | (have e_ := (Kd.R_reads' HO277.out).1; omega) | simpa using h_)
       obtain rfl := k38_openM hM50
       have HP50 := (Kd.R_seg HO277.out (t268 : Int) (of_decide_eq_true (by first | (with_reducible assumption) | assumption)) (by have h_ : (t268 : Int) < ((t275.length : Int) : Int) := of_decide_eq_true (by first | (with_reducible assumption) | assumption); first | exact h_ | (have e_ := (Kd.R_reads' HO277.out).1; omega) | simpa using h_) (seg := [.bool true]) (j := 2) hcl50 hcc50 (show 3 ≤ 6 from by decide) (x' := (⟨(rd_T38 t275 t268).f0, (rd_T38 t275 t268).f1, true, (⟨(rd_T38 t275 t268).f3.f0, (rd_T38 t275 t268).f3.f1, (rd_T38 t275 t268).f3.f2⟩ : S29)⟩ : S38)) (k38_mkM _ _ _ (⟨(rd_T38 t275 t268).f0, (rd_T38 t275 t268).f1, true, (⟨(rd_T38 t275 t268).f3.f0, (rd_T38 t275 t268).f3.f1, (rd_T38 t275 t268).f3.f2⟩ : S29)⟩ : S38) ) (fun _ hk => by first | exact hk | grind)).1
       rw [← Ny283.out] at HP50
       have HQ50 := Aside0.mk HP50
       have hfw50_0 : w49.frozen? ⟨go30, (t268 : Int).toNat * 6, none⟩ = false := hfr50 0
       have hfw50_1 : w49.frozen? ⟨go30, (t268 : Int).toNat * 6 + 1, none⟩ = false := hfr50 1
       have hfw50_2 : w49.frozen? ⟨go30, (t268 : Int).toNat * 6 + 2, none⟩ = false := hfr50 2
       have hfw50_3 : w49.frozen? ⟨go30, (t268 : Int).toNat * 6 + 3, none⟩ = false := hfr50 3
       have hfw50_4 : w49.frozen? ⟨go30, (t268 : Int).toNat * 6 + 4, none⟩ = false := hfr50 4
       have hfw50_5 : w49.frozen? ⟨go30, (t268 : Int).toNat * 6 + 5, none⟩ = false := hfr50 5
       clear hcl50 hcc50 hfr50 hM50 HP50
       obtain ⟨ce51, hcl51, hM51, hcc51, hfr51⟩ := Kd.R_elem HQ50.out z38 (t268 : Int) (of_decide_eq_true (by first | (with_reducible assumption) | assumption)) (by have h_ : (t268 : Int) < ((t275.length : Int) : Int) := of_decide_eq_true (by first | (with_reducible assumption) | assumption); first | exact h_ | (have e_ := (Kd.R_reads' HO277.out).1; omega) | simpa using h_)
       obtain rfl := k38_openM hM51
       have HP51 := (Kd.R_seg HQ50.out (t268 : Int) (of_decide_eq_true (by first | (with_reducible assumption) | assumption)) (by have h_ : (t268 : Int) < ((t275.length : Int) : Int) := of_decide_eq_true (by first | (with_reducible assumption) | assumption); first | exact h_ | (have e_ := (Kd.R_reads' HO277.out).1; omega) | simpa using h_) (seg := [.int .i64 t280, .int .i64 t281, .int .i64 t282]) (j := 3) hcl51 hcc51 (show 6 ≤ 6 from by decide) (x' := (⟨(rd_T38 y283 t268).f0, (rd_T38 y283 t268).f1, (rd_T38 y283 t268).f2, (⟨t280, t281, t282⟩ : S29)⟩ : S38)) (k38_mkM _ _ _ (⟨(rd_T38 y283 t268).f0, (rd_T38 y283 t268).f1, (rd_T38 y283 t268).f2, (⟨t280, t281, t282⟩ : S29)⟩ : S38) ) (fun _ hk => by first | exact hk | grind)).1
       rw [← Ny284.out] at HP51
       have HQ51 := Aside0.mk HP51
       clear hcl51 hcc51 hfr51 hM51 HP51
       refine hK.out _ _ ⟨bt_ BK266 0, bt_ BK266 1, bt_ BK266 2, bt_ BK266 3, bt_ BK266 4, HS5_, HS6_, HS7_, HS8_, HS9_, HS10_⟩ (fun hHeld => ?_)
       clear hK K
       refine norm_ (a' := ?_) ?_ ?_
       rotate_left
       ·show Act.put _ (some 43) _ = _
        simp only [Act.put, List.setIfInBounds_toArray, List.set_cons_zero, List.set_cons_succ, i64_w, i32_w]
        rfl
       refine pure_s (i := 9) (N := some 44) (bs 15 10) (any_of HT_.out (by kernel_rfl)) (h := ?_)
       refine pure_s (i := 10) (N := some 45) (bs 15 11) (any_of HT_.out (by kernel_rfl)) (h := ?_)
       refine last_ (i := 11) (N := none) (bs 15 12) rfl rfl (one_of HT_.out (by kernel_rfl)) (by decide) (fun K hK => ?_)
       refine skip_ (w1 := ?_) (by rfl) rfl ?_ ?_
       rotate_left
       ·go_simp
        rfl
       refine hK.out _ _ ?_
       clear hK K
       refine pure_s (i := 12) (N := some 46) (bs 15 13) (any_of HT_.out (by kernel_rfl)) (h := ?_)
       refine pure_s (i := 13) (N := some 47) (bs 15 14) (any_of HT_.out (by kernel_rfl)) (h := ?_)
       refine last_ (i := 14) (N := none) (bs 15 15) rfl rfl (one_of HT_.out (by kernel_rfl)) (by decide) (fun K hK => ?_)
       refine skip_ (w1 := ?_) (by rfl) rfl ?_ ?_
       rotate_left
       ·go_simp
        rfl
       refine hK.out _ _ ?_
       clear hK K
       refine done_ (done_of HT_.out (by kernel_rfl)) ?_
       have n0_ : Aside0 (Kd.R k38 38 ((((w49.setCell ⟨go30, (t268 : Int).toNat * 6 + 2, none⟩ (.bool true)).setCell ⟨go30, (t268 : Int).toNat * 6 + 3, none⟩ (.int .i64 t280)).setCell ⟨go30, (t268 : Int).toNat * 6 + 4, none⟩ (.int .i64 t281)).setCell ⟨go30, (t268 : Int).toNat * 6 + 5, none⟩ (.int .i64 t282)) w.heap.size (fun _ => True) (.slice (some ⟨go30, 0, none⟩) t275.length co45) y284) := ⟨kr_ HQ51⟩
       have n1_ : Aside0 (((((w49.setCell ⟨go30, (t268 : Int).toNat * 6 + 2, none⟩ (.bool true)).setCell ⟨go30, (t268 : Int).toNat * 6 + 3, none⟩ (.int .i64 t280)).setCell ⟨go30, (t268 : Int).toNat * 6 + 4, none⟩ (.int .i64 t281)).setCell ⟨go30, (t268 : Int).toNat * 6 + 5, none⟩ (.int .i64 t282)).heap[gb266]? = some (.cells #[.int .i64 a0_0, .int .i64 a0_1, .int .i64 a0_2, .int .i64 a0_3, .slice (some ad270) l0_4.length c0_4] 32 (0, 0))) := ⟨by (with_reducible repeat (first | refine blk_drewN ?_ _ | refine blk_drew ?_ | refine blk_alloc ?_ _)); refine blk_far ?_ (by have h_ := Kd.R_ne HO277.out BK266.out (by decide); intro e_; exact h_ (by rw [e_]; rfl)) _; (with_reducible repeat (first | refine blk_drewN ?_ _ | refine blk_drew ?_ | refine blk_alloc ?_ _)); refine blk_far ?_ (by have h_ := Kd.R_ne HO277.out BK266.out (by decide); intro e_; exact h_ (by rw [e_]; rfl)) _; (with_reducible repeat (first | refine blk_drewN ?_ _ | refine blk_drew ?_ | refine blk_alloc ?_ _)); refine blk_far ?_ (by have h_ := Kd.R_ne HO277.out BK266.out (by decide); intro e_; exact h_ (by rw [e_]; rfl)) _; (with_reducible repeat (first | refine blk_drewN ?_ _ | refine blk_drew ?_ | refine blk_alloc ?_ _)); refine blk_far ?_ (by have h_ := Kd.R_ne HO277.out BK266.out (by decide); intro e_; exact h_ (by rw [e_]; rfl)) _; exact bk_ BK266⟩
       have n2_ : Aside0 (((((w49.setCell ⟨go30, (t268 : Int).toNat * 6 + 2, none⟩ (.bool true)).setCell ⟨go30, (t268 : Int).toNat * 6 + 3, none⟩ (.int .i64 t280)).setCell ⟨go30, (t268 : Int).toNat * 6 + 4, none⟩ (.int .i64 t281)).setCell ⟨go30, (t268 : Int).toNat * 6 + 5, none⟩ (.int .i64 t282)).heap[gb267]? = some (.cells #[.int .i64 0, .int .i64 0, .int .i64 0, .int .i64 0, .slice none 0 0] 32 (0, 0))) := ⟨by (with_reducible repeat (first | refine blk_drewN ?_ _ | refine blk_drew ?_ | refine blk_alloc ?_ _)); refine blk_far ?_ (by have h_ := Kd.R_ne HO277.out BK267.out (by decide); intro e_; exact h_ (by rw [e_]; rfl)) _; (with_reducible repeat (first | refine blk_drewN ?_ _ | refine blk_drew ?_ | refine blk_alloc ?_ _)); refine blk_far ?_ (by have h_ := Kd.R_ne HO277.out BK267.out (by decide); intro e_; exact h_ (by rw [e_]; rfl)) _; (with_reducible repeat (first | refine blk_drewN ?_ _ | refine blk_drew ?_ | refine blk_alloc ?_ _)); refine blk_far ?_ (by have h_ := Kd.R_ne HO277.out BK267.out (by decide); intro e_; exact h_ (by rw [e_]; rfl)) _; (with_reducible repeat (first | refine blk_drewN ?_ _ | refine blk_drew ?_ | refine blk_alloc ?_ _)); refine blk_far ?_ (by have h_ := Kd.R_ne HO277.out BK267.out (by decide); intro e_; exact h_ (by rw [e_]; rfl)) _; exact bk_ BK267⟩
       have n3_ : Aside0 (((((w49.setCell ⟨go30, (t268 : Int).toNat * 6 + 2, none⟩ (.bool true)).setCell ⟨go30, (t268 : Int).toNat * 6 + 3, none⟩ (.int .i64 t280)).setCell ⟨go30, (t268 : Int).toNat * 6 + 4, none⟩ (.int .i64 t281)).setCell ⟨go30, (t268 : Int).toNat * 6 + 5, none⟩ (.int .i64 t282)).heap[gb278]? = some (.cells #[.int .i64 t271, .int .i64 t272, .int .i64 t273, .int .i64 t274, .slice (some ⟨go30, 0, none⟩) t275.length co45] 32 (0, 0))) := ⟨by (with_reducible repeat (first | refine blk_drewN ?_ _ | refine blk_drew ?_ | refine blk_alloc ?_ _)); refine blk_far ?_ (by have h_ := Kd.R_ne HO277.out BK278.out (by decide); intro e_; exact h_ (by rw [e_]; rfl)) _; (with_reducible repeat (first | refine blk_drewN ?_ _ | refine blk_drew ?_ | refine blk_alloc ?_ _)); refine blk_far ?_ (by have h_ := Kd.R_ne HO277.out BK278.out (by decide); intro e_; exact h_ (by rw [e_]; rfl)) _; (with_reducible repeat (first | refine blk_drewN ?_ _ | refine blk_drew ?_ | refine blk_alloc ?_ _)); refine blk_far ?_ (by have h_ := Kd.R_ne HO277.out BK278.out (by decide); intro e_; exact h_ (by rw [e_]; rfl)) _; (with_reducible repeat (first | refine blk_drewN ?_ _ | refine blk_drew ?_ | refine blk_alloc ?_ _)); refine blk_far ?_ (by have h_ := Kd.R_ne HO277.out BK278.out (by decide); intro e_; exact h_ (by rw [e_]; rfl)) _; exact bk_ BK278⟩
       have n4_ : Aside0 (Below w.heap.size w ((((w49.setCell ⟨go30, (t268 : Int).toNat * 6 + 2, none⟩ (.bool true)).setCell ⟨go30, (t268 : Int).toNat * 6 + 3, none⟩ (.int .i64 t280)).setCell ⟨go30, (t268 : Int).toNat * 6 + 4, none⟩ (.int .i64 t281)).setCell ⟨go30, (t268 : Int).toNat * 6 + 5, none⟩ (.int .i64 t282))) := ⟨by repeat (first | (with_reducible first | exact HB.out | apply below_alloc | apply pw_below_drewN | apply below_drew1 | refine below_set ?_ GB30.out | refine below_set ?_ GB30.out | refine below_set ?_ GB30.out | refine below_set ?_ GB30.out | refine below_set ?_ GE266.out | refine below_set ?_ GE267.out | refine below_set ?_ GE278.out) | exact HB.out)⟩
       (try clear HO277); (try clear BK266); (try clear BK267); (try clear BK278); (try clear HB)
       generalize ((((w49.setCell ⟨go30, (t268 : Int).toNat * 6 + 2, none⟩ (.bool true)).setCell ⟨go30, (t268 : Int).toNat * 6 + 3, none⟩ (.int .i64 t280)).setCell ⟨go30, (t268 : Int).toNat * 6 + 4, none⟩ (.int .i64 t281)).setCell ⟨go30, (t268 : Int).toNat * 6 + 5, none⟩ (.int .i64 t282)) = w52 at n0_ n1_ n2_ n3_ n4_ ⊢
       have HO277 := n0_; have BK266 := n1_; have BK267 := n2_; have BK278 := n3_; have HB := n4_; clear n0_ n1_ n2_ n3_ n4_; have hcz53_0 := bc_ BK278 0 (.int .i64 t271) rfl; have hcz53_1 := bc_ BK278 1 (.int .i64 t272) rfl; have hcz53_2 := bc_ BK278 2 (.int .i64 t273) rfl; have hcz53_3 := bc_ BK278 3 (.int .i64 t274) rfl
       have hcz53_4 := bc_ BK278 4 (.slice (some ⟨go30, 0, none⟩) t275.length co45) rfl
       have hfz53_0 := blk_frozen BK278.out 0; have hfz53_1 := blk_frozen BK278.out 1; have hfz53_2 := blk_frozen BK278.out 2; have hfz53_3 := blk_frozen BK278.out 3; have hfz53_4 := blk_frozen BK278.out 4; have hcz54_0 := bc_ BK267 0 (.int .i64 0) rfl; have hcz54_1 := bc_ BK267 1 (.int .i64 0) rfl; have hcz54_2 := bc_ BK267 2 (.int .i64 0) rfl; have hcz54_3 := bc_ BK267 3 (.int .i64 0) rfl; have hcz54_4 := bc_ BK267 4 (.slice none 0 0) rfl; have hfz54_0 := blk_frozen BK267.out 0; have hfz54_1 := blk_frozen BK267.out 1; have hfz54_2 := blk_frozen BK267.out 2; have hfz54_3 := blk_frozen BK267.out 3; have hfz54_4 := blk_frozen BK267.out 4
       try go_wp2
       refine bodyPost_ret (results_ct rfl _ _ gb267 32 #[.int .i64 t271, .int .i64 t272, .int .i64 t273, .int .i64 t274, .slice (some ⟨go30, 0, none⟩) t275.length co45] (0, 0) _ rfl (by (with_reducible repeat (first | refine blk_drewN ?_ _ | refine blk_drew ?_ | refine blk_alloc ?_ _)); refine blk_put (cs := #[.int .i64 t271, .int .i64 t272, .int .i64 t273, .int .i64 t274, .slice none 0 0]) ?_ 4 _ rfl; (with_reducible repeat (first | refine blk_drewN ?_ _ | refine blk_drew ?_ | refine blk_alloc ?_ _)); refine blk_put (cs := #[.int .i64 t271, .int .i64 t272, .int .i64 t273, .int .i64 0, .slice none 0 0]) ?_ 3 _ rfl; (with_reducible repeat (first | refine blk_drewN ?_ _ | refine blk_drew ?_ | refine blk_alloc ?_ _)); refine blk_put (cs := #[.int .i64 t271, .int .i64 t272, .int .i64 0, .int .i64 0, .slice none 0 0]) ?_ 2 _ rfl; (with_reducible repeat (first | refine blk_drewN ?_ _ | refine blk_drew ?_ | refine blk_alloc ?_ _)); refine blk_put (cs := #[.int .i64 t271, .int .i64 0, .int .i64 0, .int .i64 0, .slice none 0 0]) ?_ 1 _ rfl; (with_reducible repeat (first | refine blk_drewN ?_ _ | refine blk_drew ?_ | refine blk_alloc ?_ _)); refine blk_put (cs := #[.int .i64 0, .int .i64 0, .int .i64 0, .int .i64 0, .slice none 0 0]) ?_ 0 _ rfl; exact bk_ BK267) Try.underlying32 rfl (by kernel_rfl)) rfl ?_
       exact ⟨_, by first | rfl | (simp [errW_none, errW_some] <;> rfl) | (simp [*, errW_none, errW_some] <;> rfl), by (with_reducible repeat (first | apply Kd.R_alloc | apply Kd.R_drewN | apply Kd.R_drew)); exact Kd.R_mono (Kd.R_far (p := ⟨gb267, 4, none⟩) (Kd.R_far (p := ⟨gb267, 3, none⟩) (Kd.R_far (p := ⟨gb267, 2, none⟩) (Kd.R_far (p := ⟨gb267, 1, none⟩) (Kd.R_far (p := ⟨gb267, 0, none⟩) (Kd.R_types HO277.out BK267.out (by decide)) (fun _ hk => by first | exact hk.2 | grind) (.int .i64 t271)) (fun _ hk => by first | exact hk.2 | grind) (.int .i64 t272)) (fun _ hk => by first | exact hk.2 | grind) (.int .i64 t273)) (fun _ hk => by first | exact hk.2 | grind) (.int .i64 t274)) (fun _ hk => by first | exact hk.2 | grind) (.slice (some ⟨go30, 0, none⟩) t275.length co45)) (fun _ hk => by first | exact trivial | grind), bf_ HB⟩
      ·rw [if_neg c29] at H
       exact absurd H (by simp)
    ·rw [if_neg c16] at H
     exact absurd H (by simp)
   ·rw [if_neg c15] at H
    exact absurd H (by simp)
 ·replace c5 := Bool.eq_false_iff.mpr c5
  subst c5
  have H1 : (some (0, 0, 0, 0, ([] : List (S38)), 1)) = some (r1, r2, r3, r4, r5, r6) := by rw [if_neg (show ¬ (false = true) by decide)] at H; exact H
  clear H
  have H := H1
  clear H1
  simp only [Option.some.injEq, Prod.mk.injEq] at H
  obtain ⟨rfl, rfl, rfl, rfl, rfl, rfl⟩ := H
  go_enter Try.func34, Try.ntmps34
  go_wp2_with (first | ((with_reducible refine gate_dst (N := 2) rfl ?_); refine box_event ?hg (N := 2) ?hd (cs := #[.int .i64 a0_0, .int .i64 a0_1, .int .i64 a0_2, .int .i64 a0_3, .slice A0_4 l0_4.length c0_4]) (t := 32) ?hr ?_; (case hd => rfl); (case hg => rfl); (case hr => first | (go_simp; done) | (go_simp; rfl)); intro gb266 hg w55 hbox hb; have n0_ := Aside0.mk (below_step (be_ HB) hb); have n1_ := Aside0.mk (hbox); have n2_ := gw_ HB hg; have n3_ := gw_ HB hg; clear HB; have HB := n0_; have BK266 := n1_; have GW266 := n2_; have GE266 := n3_; clear n0_ n1_ n2_ n3_; clear hb hbox hg) | ((with_reducible refine gate_dst (N := 4) rfl ?_); refine box_event ?hg (N := 4) ?hd (cs := #[.int .i64 0, .int .i64 0, .int .i64 0, .int .i64 0, .slice none 0 0]) (t := 32) ?hr ?_; (case hd => rfl); (case hg => rfl); (case hr => first | (go_simp; done) | (go_simp; rfl)); intro gb267 hg w56 hbox hb; have n0_ := bb_ BK266 hb; have n1_ := Aside0.mk (below_step (bf_ HB) hb); have n2_ := Aside0.mk (hbox); have n3_ := gw_ HB hg; have n4_ := gw_ HB hg; have n5_ := nl_ BK266 hg; have n6_ := ng_ BK266 hg; clear BK266; clear HB; have BK266 := n0_; have HB := n1_; have BK267 := n2_; have GW267 := n3_; have GE267 := n4_; have NB266_267 := n5_; have NB267_266 := n6_; clear n0_ n1_ n2_ n3_ n4_ n5_ n6_; clear hb hbox hg; have hnb57 := NB266_267.out; have hnc57 := NB267_266.out; have hcz58_0 := bc_ BK266 0 (.int .i64 a0_0) rfl; have hcz58_1 := bc_ BK266 1 (.int .i64 a0_1) rfl; have hcz58_2 := bc_ BK266 2 (.int .i64 a0_2) rfl; have hcz58_3 := bc_ BK266 3 (.int .i64 a0_3) rfl; have hcz58_4 := bc_ BK266 4 (.slice A0_4 l0_4.length c0_4) rfl; have hfz58_0 := blk_frozen BK266.out 0; have hfz58_1 := blk_frozen BK266.out 1; have hfz58_2 := blk_frozen BK266.out 2; have hfz58_3 := blk_frozen BK266.out 3; have hfz58_4 := blk_frozen BK266.out 4) | ((with_reducible refine gate_callee (f := 58) rfl ?_); refine goesL_ (some 11) rfl rfl Try.func58 (by kernel_rfl) rfl #[.agg #[.int .i64 a0_0, .int .i64 a0_1, .int .i64 a0_2, .int .i64 a0_3, .slice A0_4 l0_4.length c0_4], .int .i64 a1] rfl mt_ ?_; (with_reducible refine (impl_Fair_at.calls a0_0 a0_1 a0_2 a0_3 _ _ l0_4 a1 t268 _ ?side1 ?side2 A3.out).mono ?_); (case side1 => repeat (first | exact (Kd.C_below HR0_4.out HB.out) | (with_reducible refine Kd.C_alloc ?_ _) | (with_reducible refine Kd.C_drewN ?_ _) | (with_reducible refine Kd.C_drew ?_))); (case side2 => exact HC0_4.out); rintro e w59 ⟨rfl, hb⟩; refine ⟨_, rfl, ?_⟩; have n0_ := bb_ BK266 hb; have n1_ := bb_ BK267 hb; have n2_ := Aside0.mk (below_step (bf_ HB) hb); clear BK266; clear BK267; clear HB; have BK266 := n0_; have BK267 := n1_; have HB := n2_; clear n0_ n1_ n2_; (try clear hb); (try clear hb2); (try clear hk); (try clear hi); have hcz60_0 := bc_ BK266 0 (.int .i64 a0_0) rfl; have hcz60_1 := bc_ BK266 1 (.int .i64 a0_1) rfl; have hcz60_2 := bc_ BK266 2 (.int .i64 a0_2) rfl; have hcz60_3 := bc_ BK266 3 (.int .i64 a0_3) rfl; have hcz60_4 := bc_ BK266 4 (.slice A0_4 l0_4.length c0_4) rfl; have hfz60_0 := blk_frozen BK266.out 0; have hfz60_1 := blk_frozen BK266.out 1; have hfz60_2 := blk_frozen BK266.out 2; have hfz60_3 := blk_frozen BK266.out 3; have hfz60_4 := blk_frozen BK266.out 4) | ((with_reducible refine gate_callee (f := 18) rfl ?_); refine goesL_ (some 14) rfl rfl Try.func18 (by kernel_rfl) rfl #[.agg #[.int .i64 a0_0, .int .i64 a0_1, .int .i64 a0_2, .int .i64 a0_3, .slice A0_4 l0_4.length c0_4]] rfl mt_ ?_; (with_reducible refine (impl_FairOk.calls k a0_0 a0_1 a0_2 a0_3 _ _ l0_4 false _ ?side1 ?side2 A4.out).mono ?_); (case side1 => repeat (first | exact (Kd.C_below HR0_4.out HB.out) | (with_reducible refine Kd.C_alloc ?_ _) | (with_reducible refine Kd.C_drewN ?_ _) | (with_reducible refine Kd.C_drew ?_))); (case side2 => exact HC0_4.out); rintro e w61 ⟨rfl, hb⟩; refine ⟨_, rfl, ?_⟩; have n0_ := bb_ BK266 hb; have n1_ := bb_ BK267 hb; have n2_ := Aside0.mk (below_step (bf_ HB) hb); clear BK266; clear BK267; clear HB; have BK266 := n0_; have BK267 := n1_; have HB := n2_; clear n0_ n1_ n2_; (try clear hb); (try clear hb2); (try clear hk); (try clear hi); have hcz62_0 := bc_ BK267 0 (.int .i64 0) rfl; have hcz62_1 := bc_ BK267 1 (.int .i64 0) rfl; have hcz62_2 := bc_ BK267 2 (.int .i64 0) rfl; have hcz62_3 := bc_ BK267 3 (.int .i64 0) rfl; have hcz62_4 := bc_ BK267 4 (.slice none 0 0) rfl; have hfz62_0 := blk_frozen BK267.out 0; have hfz62_1 := blk_frozen BK267.out 1; have hfz62_2 := blk_frozen BK267.out 2; have hfz62_3 := blk_frozen BK267.out 3; have hfz62_4 := blk_frozen BK267.out 4))
  refine bodyPost_ret (results_ct rfl _ _ gb267 32 #[.int .i64 0, .int .i64 0, .int .i64 0, .int .i64 0, .slice none 0 0] (0, 0) _ rfl (by (with_reducible repeat (first | refine blk_drewN ?_ _ | refine blk_drew ?_ | refine blk_alloc ?_ _)); refine blk_put (cs := #[.int .i64 0, .int .i64 0, .int .i64 0, .int .i64 0, .slice none 0 0]) ?_ 4 _ rfl; (with_reducible repeat (first | refine blk_drewN ?_ _ | refine blk_drew ?_ | refine blk_alloc ?_ _)); refine blk_put (cs := #[.int .i64 0, .int .i64 0, .int .i64 0, .int .i64 0, .slice none 0 0]) ?_ 3 _ rfl; (with_reducible repeat (first | refine blk_drewN ?_ _ | refine blk_drew ?_ | refine blk_alloc ?_ _)); refine blk_put (cs := #[.int .i64 0, .int .i64 0, .int .i64 0, .int .i64 0, .slice none 0 0]) ?_ 2 _ rfl; (with_reducible repeat (first | refine blk_drewN ?_ _ | refine blk_drew ?_ | refine blk_alloc ?_ _)); refine blk_put (cs := #[.int .i64 0, .int .i64 0, .int .i64 0, .int .i64 0, .slice none 0 0]) ?_ 1 _ rfl; (with_reducible repeat (first | refine blk_drewN ?_ _ | refine blk_drew ?_ | refine blk_alloc ?_ _)); refine blk_put (cs := #[.int .i64 0, .int .i64 0, .int .i64 0, .int .i64 0, .slice none 0 0]) ?_ 0 _ rfl; exact bk_ BK267) Try.underlying32 rfl (by kernel_rfl)) rfl ?_
  exact ⟨_, by first | rfl | (simp [errW_none, errW_some] <;> rfl) | (simp [*, errW_none, errW_some] <;> rfl), by first | exact Kd.R_nil _ _ _ _ _ | exact Kd.N_nil _ _ _ _ _ | exact Kd.V_nil _ _ _ _ _ | exact Kd.Q_nil _ _ _ _ _ | exact Kd.S_nil _ _ _ _ _, bf_ HB⟩

end Go.Proofs.Ytljhaoiopokmfaa.PFnExactFairWake
