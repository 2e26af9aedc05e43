-- printed by a program of this session (wip/printx) out of the translation; Lean checks it
import Derived.Test.YtljhaoiopokmfaaPFnExactFairRebasex0
import Derived.Test.YtljhaoiopokmfaaPFnExactFairRebasex5
namespace Go.Proofs.Ytljhaoiopokmfaa.PFnExactFairRebase
open Go.RowKit Go.Proofs.YtljhaoiopokmfaaW.PrintWords Go.Proofs.YtljhaoiopokmfaaW.PrintLast Go.Proofs.YtljhaoiopokmfaaW.PrintMore
attribute [local go_sem] max2_int min2_int max_two min_two max_three min_three max_four min_four   -- for this text's walks alone
set_option linter.unusedVariables false
set_option linter.unusedSimpArgs false

/-! ### impl_Narrow: function 51 -/
def impl_Narrow.f (a0_0 : Int) (a0_1 : Int) (a0_2 : Int) (a1 : Int) : Option (Bool) := (impl_TagOk.f a0_0 a0_1 a0_2).bind fun t228 => (if t228 = true then ((impl_isDelta.f a1).bind fun t229 => (if t229 = true then ((impl_VecTop.f a0_0 a0_1 a0_2).bind fun t230 => ((impl_Vec_isFrom.f a0_0 a0_1 a0_2 (wrap64 (t230 - a1)) 1000000000000).bind fun t231 => (some t231))) else (some false))) else (some false))
def impl_Narrow.T1 : Bool × List (List Nat × List Nat) := (true, [([], []), ([0], [0]), ([1, 1], [1]), ([2], [2]), ([3, 2, 2], [2, 3]), ([2, 4], [2, 4]), ([5, 4], [5]), ([6], [6]), ([6], [6]), ([8, 6, 6], [6, 8]), ([6], [6]), ([9, 10, 6], [6, 9, 10]), ([7, 11, 9, 6], [6, 7, 11]), ([6, 12], [6, 12]), ([13, 12, 0, 1, 2, 3, 4, 5, 6, 7, 8, 9, 10, 11, 12, 13], [13])])
def impl_Narrow.B1 : List Nat := [0, 1, 3, 7, 15, 31, 63, 127, 127, 383, 127, 1919, 4095, 8191, 16383]
theorem impl_Narrow.tab1 : rtab .any (opsOf Try.f51 1) = impl_Narrow.T1 := by kernel_rfl
theorem impl_Narrow.bits1 : waitsOk impl_Narrow.T1.2 impl_Narrow.B1 = true := by kernel_rfl
set_option maxHeartbeats 8000000 in
set_option maxRecDepth 100000 in
theorem impl_Narrow.calls (a0_0 : Int) (a0_1 : Int) (a0_2 : Int) (a1 : Int) (r : Bool) (w : World) (h : impl_Narrow.f a0_0 a0_1 a0_2 a1 = some r) :
  Calls Try.prog 51 #[.agg #[.int .i64 a0_0, .int .i64 a0_1, .int .i64 a0_2], .int .i64 a1] w fun e w' => e = .returned (.bool r) ∧ Below w.heap.size w w' := by
 have hu29 := Try.underlying29
 have HB := Aside0.mk (Below.refl w.heap.size w)
 have H : ((impl_TagOk.f a0_0 a0_1 a0_2).bind fun t228 => (if t228 = true then ((impl_isDelta.f a1).bind fun t229 => (if t229 = true then ((impl_VecTop.f a0_0 a0_1 a0_2).bind fun t230 => ((impl_Vec_isFrom.f a0_0 a0_1 a0_2 (wrap64 (t230 - a1)) 1000000000000).bind fun t231 => (some t231))) else (some false))) else (some false))) = some r := h
 clear h
 replace H := Option.bind_eq_some_iff.mp H
 obtain ⟨t228, A30, H⟩ := H
 replace H : (if t228 = true then ((impl_isDelta.f a1).bind fun t229 => (if t229 = true then ((impl_VecTop.f a0_0 a0_1 a0_2).bind fun t230 => ((impl_Vec_isFrom.f a0_0 a0_1 a0_2 (wrap64 (t230 - a1)) 1000000000000).bind fun t231 => (some t231))) else (some false))) else (some false)) = some r := H
 have A3 := Aside0.mk A30
 clear A30
 by_cases c4 : t228 = true
 ·subst c4
  have H1 : ((impl_isDelta.f a1).bind fun t229 => (if t229 = true then ((impl_VecTop.f a0_0 a0_1 a0_2).bind fun t230 => ((impl_Vec_isFrom.f a0_0 a0_1 a0_2 (wrap64 (t230 - a1)) 1000000000000).bind fun t231 => (some t231))) else (some false))) = some r := by rw [if_pos rfl] at H; exact H
  clear H
  have H := H1
  clear H1
  replace H := Option.bind_eq_some_iff.mp H
  obtain ⟨t229, A50, H⟩ := H
  replace H : (if t229 = true then ((impl_VecTop.f a0_0 a0_1 a0_2).bind fun t230 => ((impl_Vec_isFrom.f a0_0 a0_1 a0_2 (wrap64 (t230 - a1)) 1000000000000).bind fun t231 => (some t231))) else (some false)) = some r := H
  have A5 := Aside0.mk A50
  clear A50
  by_cases c6 : t229 = true
  ·subst c6
   have H1 : ((impl_VecTop.f a0_0 a0_1 a0_2).bind fun t230 => ((impl_Vec_isFrom.f a0_0 a0_1 a0_2 (wrap64 (t230 - a1)) 1000000000000).bind fun t231 => (some t231))) = some r := by rw [if_pos rfl] at H; exact H
   clear H
   have H := H1
   clear H1
   replace H := Option.bind_eq_some_iff.mp H
   obtain ⟨t230, A70, H⟩ := H
   replace H : ((impl_Vec_isFrom.f a0_0 a0_1 a0_2 (wrap64 (t230 - a1)) 1000000000000).bind fun t231 => (some t231)) = some r := H
   have A7 := Aside0.mk A70
   clear A70
   replace H := Option.bind_eq_some_iff.mp H
   obtain ⟨t231, A80, H⟩ := H
   replace H : (some t231) = some r := H
   have A8 := Aside0.mk A80
   clear A80
   obtain rfl := Option.some.inj H
   go_enter Try.func51, Try.ntmps51
   try go_wp2_with (first | ((with_reducible refine gate_dst (N := 2) rfl ?_); refine box_event ?hg (N := 2) ?hd (cs := #[.int .i64 a0_0, .int .i64 a0_1, .int .i64 a0_2]) (t := 29) ?hr ?_; (case hd => rfl); (case hg => rfl); (case hr => first | (go_simp; done) | (go_simp; rfl)); intro gb227 hg w9 hbox hb; have n0_ := Aside0.mk (below_step (be_ HB) hb); have n1_ := Aside0.mk (hbox); have n2_ := Aside0.mk ((by rw [hg]; exact (below_size (be_ HB)) : w.heap.size ≤ gb227)); have n3_ := Aside0.mk ((by rw [hg]; exact (below_size (be_ HB)) : w.heap.size ≤ gb227)); clear HB; have HB := n0_; have BK227 := n1_; have GW227 := n2_; have GE227 := n3_; clear n0_ n1_ n2_ n3_; clear hb hbox hg))
   have n0_ := Aside0.mk (blk_drew BK227.out)
   have n1_ := Aside0.mk (below_drew1 HB.out)
   clear BK227
   clear HB
   have BK227 := n0_
   have HB := n1_
   clear n0_ n1_
   refine start_ (n := 15) (S := fun w' => w'.cell? ⟨gb227, 0, none⟩ = some (.int .i64 a0_0) ∧ w'.cell? ⟨gb227, 1, none⟩ = some (.int .i64 a0_1) ∧ w'.cell? ⟨gb227, 2, none⟩ = some (.int .i64 a0_2)) (ds := []) (bs 15 0) (by kernel_rfl) rfl rfl ⟨(blk_cell BK227.out 0).trans rfl, (blk_cell BK227.out 1).trans rfl, (blk_cell BK227.out 2).trans rfl⟩ (fun hHeld => ?_); refine with_tabW impl_Narrow.tab1 impl_Narrow.bits1 (fun HT_ HW_ => ?_)
   generalize w9.drew = w10 at BK227 HB hHeld ⊢
   refine take_ (i := 0) (N := some 5) (v := ?_) (a' := ?_) (bs 15 1) rfl rfl (take_ofW HT_.out HW_.out (by kernel_rfl)) (fun _ _ _ h => h) (Or.inl ⟨by rfl, ?_⟩) hHeld ?_ ?_
   rotate_left
   ·rintro w' ⟨s0, s1, s2⟩
    go_simp
    with_reducible rfl
   rotate_left
   ·simp only [Act.put, List.setIfInBounds_toArray, List.set_cons_zero, List.set_cons_succ, i64_w, i32_w]
    rfl
   refine one_ (i := 1) (N := some 6) (bs 15 2) rfl rfl (one_of HT_.out (by kernel_rfl)) (by decide) (fun K hK => ?_)
   refine goes_ Try.func89 (by kernel_rfl) rfl #[.agg #[.int .i64 a0_0, .int .i64 a0_1, .int .i64 a0_2]] (by rfl) rfl rfl mt_ ?_
   with_reducible refine (impl_TagOk.calls a0_0 a0_1 a0_2 true _ A3.out).mono ?_
   rintro e w11 ⟨rfl, hb⟩
   refine ⟨_, rfl, ?_⟩
   have n0_ := bb_ BK227 hb
   have n1_ := Aside0.mk (below_step (bf_ HB) hb)
   clear BK227
   clear HB
   have BK227 := n0_
   have HB := n1_
   clear n0_ n1_
   try clear hb
   try clear hb2
   try clear hk
   try clear hi
   refine hK.out _ _ ⟨(blk_cell BK227.out 0).trans rfl, (blk_cell BK227.out 1).trans rfl, (blk_cell BK227.out 2).trans rfl⟩ (fun hHeld => ?_)
   clear hK K
   refine norm_ (a' := ?_) ?_ ?_
   rotate_left
   ·show Act.put _ (some 6) _ = _
    simp only [Act.put, List.setIfInBounds_toArray, List.set_cons_zero, List.set_cons_succ, i64_w, i32_w]
    rfl
   refine pure_s (i := 2) (N := some 7) (bs 15 3) (any_of HT_.out (by kernel_rfl)) (h := ?_)
   refine pure_s (i := 3) (N := some 8) (bs 15 4) (any_of HT_.out (by kernel_rfl)) (h := ?_)
   refine one_ (i := 4) (N := some 9) (bs 15 5) rfl rfl (one_of HT_.out (by kernel_rfl)) (by decide) (fun K hK => ?_)
   refine goes_ Try.func90 (by kernel_rfl) rfl #[.int .i64 a1] (by rfl) rfl rfl mt_ ?_
   with_reducible refine (impl_isDelta.calls a1 true _ A5.out).mono ?_
   rintro e w' ⟨rfl, ⟨nd, rfl⟩⟩
   refine ⟨_, rfl, ?_⟩
   refine hK.out _ _ ⟨(blk_cell BK227.out 0).trans rfl, (blk_cell BK227.out 1).trans rfl, (blk_cell BK227.out 2).trans rfl⟩ (fun hHeld => ?_)
   clear hK K
   refine norm_ (a' := ?_) ?_ ?_
   rotate_left
   ·show Act.put _ (some 9) _ = _
    simp only [Act.put, List.setIfInBounds_toArray, List.set_cons_zero, List.set_cons_succ, i64_w, i32_w]
    rfl
   refine pure_s (i := 5) (N := some 10) (bs 15 6) (any_of HT_.out (by kernel_rfl)) (h := ?_)
   refine pure_s (i := 6) (N := some 11) (bs 15 7) (any_of HT_.out (by kernel_rfl)) (h := ?_)
   refine pure_s (i := 10) (N := some 15) #[oT,oT,oT,oT,oT,oT,oT,oF,oF,oF,oT,oF,oF,oF,oF] (any_of HT_.out (by kernel_rfl)) (h := ?_)
   refine take_ (i := 7) (N := some 12) (v := ?_) (a' := ?_) #[oT,oT,oT,oT,oT,oT,oT,oT,oF,oF,oT,oF,oF,oF,oF] rfl rfl (take_ofW HT_.out HW_.out (by kernel_rfl)) (fun _ _ _ h => h) (Or.inl ⟨by rfl, ?_⟩) hHeld ?_ ?_
   rotate_left
   ·rintro w' ⟨s0, s1, s2⟩
    go_simp
    with_reducible rfl
   rotate_left
   ·simp only [Act.put, List.setIfInBounds_toArray, List.set_cons_zero, List.set_cons_succ, i64_w, i32_w]
    rfl
   refine take_ (i := 8) (N := some 13) (v := ?_) (a' := ?_) #[oT,oT,oT,oT,oT,oT,oT,oT,oT,oF,oT,oF,oF,oF,oF] rfl rfl (take_ofW HT_.out HW_.out (by kernel_rfl)) (fun _ _ _ h => h) (Or.inl ⟨by rfl, ?_⟩) hHeld ?_ ?_
   rotate_left
   ·rintro w' ⟨s0, s1, s2⟩
    go_simp
    with_reducible rfl
   rotate_left
   ·simp only [Act.put, List.setIfInBounds_toArray, List.set_cons_zero, List.set_cons_succ, i64_w, i32_w]
    rfl
   refine one_ (i := 9) (N := some 14) (bs 15 11) rfl rfl (one_of HT_.out (by kernel_rfl)) (by decide) (fun K hK => ?_)
   refine goes_ Try.func52 (by kernel_rfl) rfl #[.agg #[.int .i64 a0_0, .int .i64 a0_1, .int .i64 a0_2]] (by rfl) rfl rfl mt_ ?_
   with_reducible refine (impl_VecTop.calls a0_0 a0_1 a0_2 t230 _ A7.out).mono ?_
   rintro e w12 ⟨rfl, hb⟩
   refine ⟨_, rfl, ?_⟩
   have n0_ := bb_ BK227 hb
   have n1_ := Aside0.mk (below_step (bf_ HB) hb)
   clear BK227
   clear HB
   have BK227 := n0_
   have HB := n1_
   clear n0_ n1_
   try clear hb
   try clear hb2
   try clear hk
   try clear hi
   refine hK.out _ _ ⟨(blk_cell BK227.out 0).trans rfl, (blk_cell BK227.out 1).trans rfl, (blk_cell BK227.out 2).trans rfl⟩ (fun hHeld => ?_)
   clear hK K
   refine norm_ (a' := ?_) ?_ ?_
   rotate_left
   ·show Act.put _ (some 14) _ = _
    simp only [Act.put, List.setIfInBounds_toArray, List.set_cons_zero, List.set_cons_succ, i64_w, i32_w]
    rfl
   refine pure_s (i := 11) (N := some 16) (bs 15 12) (any_of HT_.out (by kernel_rfl)) (h := ?_)
   refine one_ (i := 12) (N := some 17) (bs 15 13) rfl rfl (one_of HT_.out (by kernel_rfl)) (by decide) (fun K hK => ?_)
   refine goes_ Try.func91 (by kernel_rfl) rfl #[.agg #[.int .i64 a0_0, .int .i64 a0_1, .int .i64 a0_2], .int .i64 (wrap64 (t230 - a1)), .int .i64 1000000000000] (by rfl) rfl rfl mt_ ?_
   with_reducible refine (impl_Vec_isFrom.calls a0_0 a0_1 a0_2 (wrap64 (t230 - a1)) 1000000000000 t231 _ A8.out).mono ?_
   rintro e w13 ⟨rfl, hb⟩
   refine ⟨_, rfl, ?_⟩
   have n0_ := bb_ BK227 hb
   have n1_ := Aside0.mk (below_step (bf_ HB) hb)
   clear BK227
   clear HB
   have BK227 := n0_
   have HB := n1_
   clear n0_ n1_
   try clear hb
   try clear hb2
   try clear hk
   try clear hi
   refine hK.out _ _ ⟨(blk_cell BK227.out 0).trans rfl, (blk_cell BK227.out 1).trans rfl, (blk_cell BK227.out 2).trans rfl⟩ (fun hHeld => ?_)
   clear hK K
   refine norm_ (a' := ?_) ?_ ?_
   rotate_left
   ·show Act.put _ (some 17) _ = _
    simp only [Act.put, List.setIfInBounds_toArray, List.set_cons_zero, List.set_cons_succ, i64_w, i32_w]
    rfl
   refine pure_s (i := 13) (N := some 18) (bs 15 14) (any_of HT_.out (by kernel_rfl)) (h := ?_)
   refine pure_s (i := 14) (N := some 4) (bs 15 15) (any_of HT_.out (by kernel_rfl)) (h := ?_)
   refine done_ (done_of HT_.out (by kernel_rfl)) ?_
   try go_wp2
   go_ret
   exact ⟨by first | rfl | (simp [errW_none, errW_some] <;> rfl) | (simp [*, errW_none, errW_some] <;> rfl), bf_ HB⟩
  ·replace c6 := Bool.eq_false_iff.mpr c6
   subst c6
   have H1 : (some false) = some r := by rw [if_neg (show ¬ (false = true) by decide)] at H; exact H
   clear H
   have H := H1
   clear H1
   obtain rfl := Option.some.inj H
   go_enter Try.func51, Try.ntmps51
   try go_wp2_with (first | ((with_reducible refine gate_dst (N := 2) rfl ?_); refine box_event ?hg (N := 2) ?hd (cs := #[.int .i64 a0_0, .int .i64 a0_1, .int .i64 a0_2]) (t := 29) ?hr ?_; (case hd => rfl); (case hg => rfl); (case hr => first | (go_simp; done) | (go_simp; rfl)); intro gb227 hg w14 hbox hb; have n0_ := Aside0.mk (below_step (be_ HB) hb); have n1_ := Aside0.mk (hbox); have n2_ := Aside0.mk ((by rw [hg]; exact (below_size (be_ HB)) : w.heap.size ≤ gb227)); have n3_ := Aside0.mk ((by rw [hg]; exact (below_size (be_ HB)) : w.heap.size ≤ gb227)); clear HB; have HB := n0_; have BK227 := n1_; have GW227 := n2_; have GE227 := n3_; clear n0_ n1_ n2_ n3_; clear hb hbox hg))
   have n0_ := Aside0.mk (blk_drew BK227.out)
   have n1_ := Aside0.mk (below_drew1 HB.out)
   clear BK227
   clear HB
   have BK227 := n0_
   have HB := n1_
   clear n0_ n1_
   refine start_ (n := 15) (S := fun w' => w'.cell? ⟨gb227, 0, none⟩ = some (.int .i64 a0_0) ∧ w'.cell? ⟨gb227, 1, none⟩ = some (.int .i64 a0_1) ∧ w'.cell? ⟨gb227, 2, none⟩ = some (.int .i64 a0_2)) (ds := []) (bs 15 0) (by kernel_rfl) rfl rfl ⟨(blk_cell BK227.out 0).trans rfl, (blk_cell BK227.out 1).trans rfl, (blk_cell BK227.out 2).trans rfl⟩ (fun hHeld => ?_); refine with_tabW impl_Narrow.tab1 impl_Narrow.bits1 (fun HT_ HW_ => ?_)
   generalize w14.drew = w15 at BK227 HB hHeld ⊢
   refine take_ (i := 0) (N := some 5) (v := ?_) (a' := ?_) (bs 15 1) rfl rfl (take_ofW HT_.out HW_.out (by kernel_rfl)) (fun _ _ _ h => h) (Or.inl ⟨by rfl, ?_⟩) hHeld ?_ ?_
   rotate_left
   ·rintro w' ⟨s0, s1, s2⟩
    go_simp
    with_reducible rfl
   rotate_left
   ·simp only [Act.put, List.setIfInBounds_toArray, List.set_cons_zero, List.set_cons_succ, i64_w, i32_w]
    rfl
   refine one_ (i := 1) (N := some 6) (bs 15 2) rfl rfl (one_of HT_.out (by kernel_rfl)) (by decide) (fun K hK => ?_)
   refine goes_ Try.func89 (by kernel_rfl) rfl #[.agg #[.int .i64 a0_0, .int .i64 a0_1, .int .i64 a0_2]] (by rfl) rfl rfl mt_ ?_
   with_reducible refine (impl_TagOk.calls a0_0 a0_1 a0_2 true _ A3.out).mono ?_
   rintro e w16 ⟨rfl, hb⟩
   refine ⟨_, rfl, ?_⟩
   have n0_ := bb_ BK227 hb
   have n1_ := Aside0.mk (below_step (bf_ HB) hb)
   clear BK227
   clear HB
   have BK227 := n0_
   have HB := n1_
   clear n0_ n1_
   try clear hb
   try clear hb2
   try clear hk
   try clear hi
   refine hK.out _ _ ⟨(blk_cell BK227.out 0).trans rfl, (blk_cell BK227.out 1).trans rfl, (blk_cell BK227.out 2).trans rfl⟩ (fun hHeld => ?_)
   clear hK K
   refine norm_ (a' := ?_) ?_ ?_
   rotate_left
   ·show Act.put _ (some 6) _ = _
    simp only [Act.put, List.setIfInBounds_toArray, List.set_cons_zero, List.set_cons_succ, i64_w, i32_w]
    rfl
   refine pure_s (i := 2) (N := some 7) (bs 15 3) (any_of HT_.out (by kernel_rfl)) (h := ?_)
   refine pure_s (i := 3) (N := some 8) (bs 15 4) (any_of HT_.out (by kernel_rfl)) (h := ?_)
   refine one_ (i := 4) (N := some 9) (bs 15 5) rfl rfl (one_of HT_.out (by kernel_rfl)) (by decide) (fun K hK => ?_)
   refine goes_ Try.func90 (by kernel_rfl) rfl #[.int .i64 a1] (by rfl) rfl rfl mt_ ?_
   with_reducible refine (impl_isDelta.calls a1 false _ A5.out).mono ?_
   rintro e w' ⟨rfl, ⟨nd, rfl⟩⟩
   refine ⟨_, rfl, ?_⟩
   refine hK.out _ _ ⟨(blk_cell BK227.out 0).trans rfl, (blk_cell BK227.out 1).trans rfl, (blk_cell BK227.out 2).trans rfl⟩ (fun hHeld => ?_)
   clear hK K
   refine norm_ (a' := ?_) ?_ ?_
   rotate_left
   ·show Act.put _ (some 9) _ = _
    simp only [Act.put, List.setIfInBounds_toArray, List.set_cons_zero, List.set_cons_succ, i64_w, i32_w]
    rfl
   refine pure_s (i := 5) (N := some 10) (bs 15 6) (any_of HT_.out (by kernel_rfl)) (h := ?_)
   refine pure_s (i := 6) (N := some 11) (bs 15 7) (any_of HT_.out (by kernel_rfl)) (h := ?_)
   refine pure_u (i := 7) (N := some 12) (bs 15 8) (any_of HT_.out (by kernel_rfl)) (h := ?_)
   refine pure_u (i := 8) (N := some 13) (bs 15 9) (any_of HT_.out (by kernel_rfl)) (h := ?_)
   refine pure_u (i := 9) (N := some 14) (bs 15 10) (any_of HT_.out (by kernel_rfl)) (h := ?_)
   refine pure_u (i := 10) (N := some 15) (bs 15 11) (any_of HT_.out (by kernel_rfl)) (h := ?_)
   refine pure_u (i := 11) (N := some 16) (bs 15 12) (any_of HT_.out (by kernel_rfl)) (h := ?_)
   refine pure_u (i := 12) (N := some 17) (bs 15 13) (any_of HT_.out (by kernel_rfl)) (h := ?_)
   refine pure_s (i := 13) (N := some 18) (bs 15 14) (any_of HT_.out (by kernel_rfl)) (h := ?_)
   refine pure_s (i := 14) (N := some 4) (bs 15 15) (any_of HT_.out (by kernel_rfl)) (h := ?_)
   refine done_ (done_of HT_.out (by kernel_rfl)) ?_
   try go_wp2
   go_ret
   exact ⟨by first | rfl | (simp [errW_none, errW_some] <;> rfl) | (simp [*, errW_none, errW_some] <;> rfl), bf_ HB⟩
 ·replace c4 := Bool.eq_false_iff.mpr c4
  subst c4
  have H1 : (some false) = some r := by rw [if_neg (show ¬ (false = true) by decide)] at H; exact H
  clear H
  have H := H1
  clear H1
  obtain rfl := Option.some.inj H
  go_enter Try.func51, Try.ntmps51
  try go_wp2_with (first | ((with_reducible refine gate_dst (N := 2) rfl ?_); refine box_event ?hg (N := 2) ?hd (cs := #[.int .i64 a0_0, .int .i64 a0_1, .int .i64 a0_2]) (t := 29) ?hr ?_; (case hd => rfl); (case hg => rfl); (case hr => first | (go_simp; done) | (go_simp; rfl)); intro gb227 hg w17 hbox hb; have n0_ := Aside0.mk (below_step (be_ HB) hb); have n1_ := Aside0.mk (hbox); have n2_ := Aside0.mk ((by rw [hg]; exact (below_size (be_ HB)) : w.heap.size ≤ gb227)); have n3_ := Aside0.mk ((by rw [hg]; exact (below_size (be_ HB)) : w.heap.size ≤ gb227)); clear HB; have HB := n0_; have BK227 := n1_; have GW227 := n2_; have GE227 := n3_; clear n0_ n1_ n2_ n3_; clear hb hbox hg))
  have n0_ := Aside0.mk (blk_drew BK227.out)
  have n1_ := Aside0.mk (below_drew1 HB.out)
  clear BK227
  clear HB
  have BK227 := n0_
  have HB := n1_
  clear n0_ n1_
  refine start_ (n := 15) (S := fun w' => w'.cell? ⟨gb227, 0, none⟩ = some (.int .i64 a0_0) ∧ w'.cell? ⟨gb227, 1, none⟩ = some (.int .i64 a0_1) ∧ w'.cell? ⟨gb227, 2, none⟩ = some (.int .i64 a0_2)) (ds := []) (bs 15 0) (by kernel_rfl) rfl rfl ⟨(blk_cell BK227.out 0).trans rfl, (blk_cell BK227.out 1).trans rfl, (blk_cell BK227.out 2).trans rfl⟩ (fun hHeld => ?_); refine with_tabW impl_Narrow.tab1 impl_Narrow.bits1 (fun HT_ HW_ => ?_)
  generalize w17.drew = w18 at BK227 HB hHeld ⊢
  refine take_ (i := 0) (N := some 5) (v := ?_) (a' := ?_) (bs 15 1) rfl rfl (take_ofW HT_.out HW_.out (by kernel_rfl)) (fun _ _ _ h => h) (Or.inl ⟨by rfl, ?_⟩) hHeld ?_ ?_
  rotate_left
  ·rintro w' ⟨s0, s1, s2⟩
   go_simp
   with_reducible rfl
  rotate_left
  ·simp only [Act.put, List.setIfInBounds_toArray, List.set_cons_zero, List.set_cons_succ, i64_w, i32_w]
   rfl
  refine one_ (i := 1) (N := some 6) (bs 15 2) rfl rfl (one_of HT_.out (by kernel_rfl)) (by decide) (fun K hK => ?_)
  refine goes_ Try.func89 (by kernel_rfl) rfl #[.agg #[.int .i64 a0_0, .int .i64 a0_1, .int .i64 a0_2]] (by rfl) rfl rfl mt_ ?_
  with_reducible refine (impl_TagOk.calls a0_0 a0_1 a0_2 false _ A3.out).mono ?_
  rintro e w19 ⟨rfl, hb⟩
  refine ⟨_, rfl, ?_⟩
  have n0_ := bb_ BK227 hb
  have n1_ := Aside0.mk (below_step (bf_ HB) hb)
  clear BK227
  clear HB
  have BK227 := n0_
  have HB := n1_
  clear n0_ n1_
  try clear hb
  try clear hb2
  try clear hk
  try clear hi
  refine hK.out _ _ ⟨(blk_cell BK227.out 0).trans rfl, (blk_cell BK227.out 1).trans rfl, (blk_cell BK227.out 2).trans rfl⟩ (fun hHeld => ?_)
  clear hK K
  refine norm_ (a' := ?_) ?_ ?_
  rotate_left
  ·show Act.put _ (some 6) _ = _
   simp only [Act.put, List.setIfInBounds_toArray, List.set_cons_zero, List.set_cons_succ, i64_w, i32_w]
   rfl
  refine pure_s (i := 2) (N := some 7) (bs 15 3) (any_of HT_.out (by kernel_rfl)) (h := ?_)
  refine pure_u (i := 3) (N := some 8) (bs 15 4) (any_of HT_.out (by kernel_rfl)) (h := ?_)
  refine pure_u (i := 4) (N := some 9) (bs 15 5) (any_of HT_.out (by kernel_rfl)) (h := ?_)
  refine pure_s (i := 5) (N := some 10) (bs 15 6) (any_of HT_.out (by kernel_rfl)) (h := ?_)
  refine pure_s (i := 6) (N := some 11) (bs 15 7) (any_of HT_.out (by kernel_rfl)) (h := ?_)
  refine pure_u (i := 7) (N := some 12) (bs 15 8) (any_of HT_.out (by kernel_rfl)) (h := ?_)
  refine pure_u (i := 8) (N := some 13) (bs 15 9) (any_of HT_.out (by kernel_rfl)) (h := ?_)
  refine pure_u (i := 9) (N := some 14) (bs 15 10) (any_of HT_.out (by kernel_rfl)) (h := ?_)
  refine pure_u (i := 10) (N := some 15) (bs 15 11) (any_of HT_.out (by kernel_rfl)) (h := ?_)
  refine pure_u (i := 11) (N := some 16) (bs 15 12) (any_of HT_.out (by kernel_rfl)) (h := ?_)
  refine pure_u (i := 12) (N := some 17) (bs 15 13) (any_of HT_.out (by kernel_rfl)) (h := ?_)
  refine pure_s (i := 13) (N := some 18) (bs 15 14) (any_of HT_.out (by kernel_rfl)) (h := ?_)
  refine pure_s (i := 14) (N := some 4) (bs 15 15) (any_of HT_.out (by kernel_rfl)) (h := ?_)
  refine done_ (done_of HT_.out (by kernel_rfl)) ?_
  try go_wp2
  go_ret
  exact ⟨by first | rfl | (simp [errW_none, errW_some] <;> rfl) | (simp [*, errW_none, errW_some] <;> rfl), bf_ HB⟩

/-! ### impl_isFlow: function 83 -/
def impl_isFlow.f (a0 : Int) : Option (Bool) := (impl_within.f a0 0 9999).bind fun t232 => (some t232)
set_option maxHeartbeats 8000000 in
set_option maxRecDepth 100000 in
theorem impl_isFlow.calls (a0 : Int) (r : Bool) (w : World) (h : impl_isFlow.f a0 = some r) :
  Calls Try.prog 83 #[.int .i64 a0] w fun e w' => e = .returned (.bool r) ∧ Drawn0 w w' := by
 have H : ((impl_within.f a0 0 9999).bind fun t232 => (some t232)) = some r := h
 clear h
 replace H := Option.bind_eq_some_iff.mp H
 obtain ⟨t232, A20, H⟩ := H
 replace H : (some t232) = some r := H
 have A2 := Aside0.mk A20
 clear A20
 obtain rfl := Option.some.inj H
 go_enter Try.func83, Try.ntmps83
 go_wp2_with (first | ((with_reducible refine gate_callee (f := 96) rfl ?_); refine goesL_ (some 4) rfl rfl Try.func96 (by kernel_rfl) rfl #[.int .i64 a0, .int .i64 0, .int .i64 9999] rfl mt_ ?_; (with_reducible refine (impl_within.calls a0 0 9999 t232 _ A2.out).mono ?_); rintro e w' ⟨rfl, ⟨nd, rfl⟩⟩; refine ⟨_, rfl, ?_⟩))
 go_ret
 exact ⟨by first | rfl | (simp; done) | (simp [*]; done), by repeat (first | exact Drawn0.refl _ | apply Drawn0.step)⟩

/-! ### impl_isWeight: function 84 -/
def impl_isWeight.f (a0 : Int) : Option (Bool) := (impl_within.f a0 1 10).bind fun t233 => (some t233)
set_option maxHeartbeats 8000000 in
set_option maxRecDepth 100000 in
theorem impl_isWeight.calls (a0 : Int) (r : Bool) (w : World) (h : impl_isWeight.f a0 = some r) :
  Calls Try.prog 84 #[.int .i64 a0] w fun e w' => e = .returned (.bool r) ∧ Drawn0 w w' := by
 have H : ((impl_within.f a0 1 10).bind fun t233 => (some t233)) = some r := h
 clear h
 replace H := Option.bind_eq_some_iff.mp H
 obtain ⟨t233, A20, H⟩ := H
 replace H : (some t233) = some r := H
 have A2 := Aside0.mk A20
 clear A20
 obtain rfl := Option.some.inj H
 go_enter Try.func84, Try.ntmps84
 go_wp2_with (first | ((with_reducible refine gate_callee (f := 96) rfl ?_); refine goesL_ (some 4) rfl rfl Try.func96 (by kernel_rfl) rfl #[.int .i64 a0, .int .i64 1, .int .i64 10] rfl mt_ ?_; (with_reducible refine (impl_within.calls a0 1 10 t233 _ A2.out).mono ?_); rintro e w' ⟨rfl, ⟨nd, rfl⟩⟩; refine ⟨_, rfl, ?_⟩))
 go_ret
 exact ⟨by first | rfl | (simp; done) | (simp [*]; done), by repeat (first | exact Drawn0.refl _ | apply Drawn0.step)⟩

/-! ### impl_Stride: function 92 -/
def impl_Stride.f (a0 : Int) : Option (Int) := (impl_isWeight.f a0).bind fun t234 => (if t234 = true then (if a0 = 0 then (none) else (some (wrap64 ((2520 : Int) / a0)))) else (some 0))
set_option maxHeartbeats 8000000 in
set_option maxRecDepth 100000 in
theorem impl_Stride.calls (a0 : Int) (r : Int) (w : World) (h : impl_Stride.f a0 = some r) :
  Calls Try.prog 92 #[.int .i64 a0] w fun e w' => e = .returned (.int .i64 r) ∧ Drawn0 w w' := by
 have H : ((impl_isWeight.f a0).bind fun t234 => (if t234 = true then (if a0 = 0 then (none) else (some (wrap64 ((2520 : Int) / a0)))) else (some 0))) = some r := h
 clear h
 replace H := Option.bind_eq_some_iff.mp H
 obtain ⟨t234, A20, H⟩ := H
 replace H : (if t234 = true then (if a0 = 0 then (none) else (some (wrap64 ((2520 : Int) / a0)))) else (some 0)) = some r := H
 have A2 := Aside0.mk A20
 clear A20
 by_cases c3 : t234 = true
 ·subst c3
  have H1 : (if a0 = 0 then (none) else (some (wrap64 ((2520 : Int) / a0)))) = some r := by rw [if_pos rfl] at H; exact H
  clear H
  have H := H1
  clear H1
  by_cases c4 : a0 = 0
  ·rw [if_pos c4] at H
   exact absurd H (by simp)
  ·rw [if_neg c4] at H
   have c4b0 : (a0 == 0) = false := beq_eq_false_iff_ne.mpr c4
   have c4b1 : (a0 != 0) = true := bne_iff_ne.mpr c4
   obtain rfl := Option.some.inj H
   go_enter Try.func92, Try.ntmps92
   go_wp2_with (first | ((with_reducible refine gate_callee (f := 84) rfl ?_); refine goesL_ (some 4) rfl rfl Try.func84 (by kernel_rfl) rfl #[.int .i64 a0] rfl mt_ ?_; (with_reducible refine (impl_isWeight.calls a0 true _ A2.out).mono ?_); rintro e w' ⟨rfl, ⟨nd, rfl⟩⟩; refine ⟨_, rfl, ?_⟩))
   go_ret
   exact ⟨by first | rfl | (simp; rw [Int.tdiv_eq_ediv_of_nonneg] <;> first | decide | omega) | (simp; done) | (simp [*]; done), by repeat (first | exact Drawn0.refl _ | apply Drawn0.step)⟩
 ·replace c3 := Bool.eq_false_iff.mpr c3
  subst c3
  have H1 : (some 0) = some r := by rw [if_neg (show ¬ (false = true) by decide)] at H; exact H
  clear H
  have H := H1
  clear H1
  obtain rfl := Option.some.inj H
  go_enter Try.func92, Try.ntmps92
  go_wp2_with (first | ((with_reducible refine gate_callee (f := 84) rfl ?_); refine goesL_ (some 4) rfl rfl Try.func84 (by kernel_rfl) rfl #[.int .i64 a0] rfl mt_ ?_; (with_reducible refine (impl_isWeight.calls a0 false _ A2.out).mono ?_); rintro e w' ⟨rfl, ⟨nd, rfl⟩⟩; refine ⟨_, rfl, ?_⟩))
  go_ret
  exact ⟨by first | rfl | (simp; rw [Int.tdiv_eq_ediv_of_nonneg] <;> first | decide | omega) | (simp; done) | (simp [*]; done), by repeat (first | exact Drawn0.refl _ | apply Drawn0.step)⟩

end Go.Proofs.Ytljhaoiopokmfaa.PFnExactFairRebase
