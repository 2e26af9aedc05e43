-- printed by a program of this session (wip/printx) out of the translation; Lean checks it
import Derived.Test.YtljhaoiopokmfaaPFnExactFairWakex0
import Derived.Test.YtljhaoiopokmfaaPFnExactFairWakex5
namespace Go.Proofs.Ytljhaoiopokmfaa.PFnExactFairWake
open Go.RowKit Go.Proofs.YtljhaoiopokmfaaW.PrintWords Go.Proofs.YtljhaoiopokmfaaW.PrintLast Go.Proofs.YtljhaoiopokmfaaW.PrintMore
attribute [local go_sem] max2_int min2_int max_two min_two max_three min_three max_four min_four   -- for this text's walks alone
set_option linter.unusedVariables false
set_option linter.unusedSimpArgs false

/-! ### impl_Narrow: function 51 -/
def impl_Narrow.f (a0_0 : Int) (a0_1 : Int) (a0_2 : Int) (a1 : Int) : Option (Bool) := (impl_TagOk.f a0_0 a0_1 a0_2).bind fun t225 => (if t225 = true then ((impl_isDelta.f a1).bind fun t226 => (if t226 = true then ((impl_VecTop.f a0_0 a0_1 a0_2).bind fun t227 => ((impl_Vec_isFrom.f a0_0 a0_1 a0_2 (wrap64 (t227 - a1)) 1000000000000).bind fun t228 => (some t228))) else (some false))) else (some false))
def impl_Narrow.T1 : Bool × List (List Nat × List Nat) := (true, [([], []), ([0], [0]), ([1, 1], [1]), ([2], [2]), ([3, 2, 2], [2, 3]), ([2, 4], [2, 4]), ([5, 4], [5]), ([6], [6]), ([6], [6]), ([8, 6, 6], [6, 8]), ([6], [6]), ([9, 10, 6], [6, 9, 10]), ([7, 11, 9, 6], [6, 7, 11]), ([6, 12], [6, 12]), ([13, 12, 0, 1, 2, 3, 4, 5, 6, 7, 8, 9, 10, 11, 12, 13], [13])])
def impl_Narrow.B1 : List Nat := [0, 1, 3, 7, 15, 31, 63, 127, 127, 383, 127, 1919, 4095, 8191, 16383]
theorem impl_Narrow.tab1 : rtab .any (opsOf Try.f51 1) = impl_Narrow.T1 := by kernel_rfl
theorem impl_Narrow.bits1 : waitsOk impl_Narrow.T1.2 impl_Narrow.B1 = true := by kernel_rfl
set_option maxHeartbeats 8000000 in
set_option maxRecDepth 100000 in
theorem impl_Narrow.calls (a0_0 : Int) (a0_1 : Int) (a0_2 : Int) (a1 : Int) (r : Bool) (w : World) (h : impl_Narrow.f a0_0 a0_1 a0_2 a1 = some r) :
  Calls Try.prog 51 #[.agg #[.int .i64 a0_0, .int .i64 a0_1, .int .i64 a0_2], .int .i64 a1] w fun e w' => e = .returned (.bool r) ∧ Below w.heap.size w w' := by
 have hu29 := Try.underlying29; have HB := Aside0.mk (Below.refl w.heap.size w)
 have H : ((impl_TagOk.f a0_0 a0_1 a0_2).bind fun t225 => (if t225 = true then ((impl_isDelta.f a1).bind fun t226 => (if t226 = true then ((impl_VecTop.f a0_0 a0_1 a0_2).bind fun t227 => ((impl_Vec_isFrom.f a0_0 a0_1 a0_2 (wrap64 (t227 - a1)) 1000000000000).bind fun t228 => (some t228))) else (some false))) else (some false))) = some r := h
 clear h
 replace H := Option.bind_eq_some_iff.mp H
 obtain ⟨t225, A30, H⟩ := H
 replace H : (if t225 = true then ((impl_isDelta.f a1).bind fun t226 => (if t226 = true then ((impl_VecTop.f a0_0 a0_1 a0_2).bind fun t227 => ((impl_Vec_isFrom.f a0_0 a0_1 a0_2 (wrap64 (t227 - a1)) 1000000000000).bind fun t228 => (some t228))) else (some false))) else (some false)) = some r := H
 have A3 := Aside0.mk A30
 clear A30
 by_cases c4 : t225 = true
 ·subst c4
  have H1 : ((impl_isDelta.f a1).bind fun t226 => (if t226 = true then ((impl_VecTop.f a0_0 a0_1 a0_2).bind fun t227 => ((impl_Vec_isFrom.f a0_0 a0_1 a0_2 (wrap64 (t227 - a1)) 1000000000000).bind fun t228 => (some t228))) else (some false))) = some r := by rw [if_pos rfl] at H; exact H
  clear H
  have H := H1
  clear H1
  replace H := Option.bind_eq_some_iff.mp H
  obtain ⟨t226, A50, H⟩ := H
  replace H : (if t226 = true then ((impl_VecTop.f a0_0 a0_1 a0_2).bind fun t227 => ((impl_Vec_isFrom.f a0_0 a0_1 a0_2 (wrap64 (t227 - a1)) 1000000000000).bind fun t228 => (some t228))) else (some false)) = some r := H
  have A5 := Aside0.mk A50
  clear A50
  by_cases c6 : t226 = true
  ·subst c6
   have H1 : ((impl_VecTop.f a0_0 a0_1 a0_2).bind fun t227 => ((impl_Vec_isFrom.f a0_0 a0_1 a0_2 (wrap64 (t227 - a1)) 1000000000000).bind fun t228 => (some t228))) = some r := by rw [if_pos rfl] at H; exact H
   clear H
   have H := H1
   clear H1
   replace H := Option.bind_eq_some_iff.mp H
   obtain ⟨t227, A70, H⟩ := H
   replace H : ((impl_Vec_isFrom.f a0_0 a0_1 a0_2 (wrap64 (t227 - a1)) 1000000000000).bind fun t228 => (some t228)) = some r := H
   have A7 := Aside0.mk A70
   clear A70
   replace H := Option.bind_eq_some_iff.mp H
   obtain ⟨t228, A80, H⟩ := H
   replace H : (some t228) = some r := H
   have A8 := Aside0.mk A80
   clear A80
   obtain rfl := Option.some.inj H
   go_enter Try.func51, Try.ntmps51
   try go_wp2_with (first | ((with_reducible refine gate_dst (N := 2) rfl ?_); refine box_event ?hg (N := 2) ?hd (cs := #[.int .i64 a0_0, .int .i64 a0_1, .int .i64 a0_2]) (t := 29) ?hr ?_; (case hd => rfl); (case hg => rfl); (case hr => first | (go_simp; done) | (go_simp; rfl)); intro gb224 hg w9 hbox hb; have n0_ := Aside0.mk (below_step (be_ HB) hb); have n1_ := Aside0.mk (hbox); have n2_ := gw_ HB hg; have n3_ := gw_ HB hg; clear HB; have HB := n0_; have BK224 := n1_; have GW224 := n2_; have GE224 := n3_; clear n0_ n1_ n2_ n3_; clear hb hbox hg))
   have n0_ := Aside0.mk (blk_drew BK224.out); have n1_ := Aside0.mk (below_drew1 HB.out); clear BK224; clear HB; have BK224 := n0_; have HB := n1_; clear n0_ n1_
   refine start_ (n := 15) (S := fun w' => w'.cell? ⟨gb224, 0, none⟩ = some (.int .i64 a0_0) ∧ w'.cell? ⟨gb224, 1, none⟩ = some (.int .i64 a0_1) ∧ w'.cell? ⟨gb224, 2, none⟩ = some (.int .i64 a0_2)) (ds := []) (bs 15 0) (by kernel_rfl) rfl rfl ⟨bt_ BK224 0, bt_ BK224 1, bt_ BK224 2⟩ (fun hHeld => ?_); refine with_tabW impl_Narrow.tab1 impl_Narrow.bits1 (fun HT_ HW_ => ?_)
   generalize w9.drew = w10 at BK224 HB hHeld ⊢
   refine take_ (i := 0) (N := some 5) (v := ?_) (a' := ?_) (bs 15 1) rfl rfl (take_ofW HT_.out HW_.out (by kernel_rfl)) (fun _ _ _ h => h) (Or.inl ⟨by rfl, ?_⟩) hHeld ?_ ?_
   rotate_left
   ·rintro w' ⟨s0, s1, s2⟩
    go_simp
    with_reducible rfl
   rotate_left
   ·simp only [Act.put, List.setIfInBounds_toArray, List.set_cons_zero, List.set_cons_succ, i64_w, i32_w]
    rfl
   refine one_ (i := 1) (N := some 6) (bs 15 2) rfl rfl (one_of HT_.out (by kernel_rfl)) (by decide) (fun K hK => ?_)
   refine goes_ Try.func89 (by kernel_rfl) rfl #[.agg #[.int .i64 a0_0, .int .i64 a0_1, .int .i64 a0_2]] (by rfl) rfl rfl mt_ ?_
   with_reducible refine (impl_TagOk.calls a0_0 a0_1 a0_2 true _ A3.out).mono ?_
   rintro e w11 ⟨rfl, hb⟩
   refine ⟨_, rfl, ?_⟩
   have n0_ := bb_ BK224 hb; have n1_ := Aside0.mk (below_step (bf_ HB) hb); clear BK224; clear HB; have BK224 := n0_; have HB := n1_; clear n0_ n1_; (try clear hb); (try clear hb2); (try clear hk); (try clear hi)
   refine hK.out _ _ ⟨bt_ BK224 0, bt_ BK224 1, bt_ BK224 2⟩ (fun hHeld => ?_)
   clear hK K
   refine norm_ (a' := ?_) ?_ ?_
   rotate_left
   ·show Act.put _ (some 6) _ = _
    simp only [Act.put, List.setIfInBounds_toArray, List.set_cons_zero, List.set_cons_succ, i64_w, i32_w]
    rfl
   refine pure_s (i := 2) (N := some 7) (bs 15 3) (any_of HT_.out (by kernel_rfl)) (h := ?_)
   refine pure_s (i := 3) (N := some 8) (bs 15 4) (any_of HT_.out (by kernel_rfl)) (h := ?_)
   refine one_ (i := 4) (N := some 9) (bs 15 5) rfl rfl (one_of HT_.out (by kernel_rfl)) (by decide) (fun K hK => ?_)
   refine goes_ Try.func90 (by kernel_rfl) rfl #[.int .i64 a1] (by rfl) rfl rfl mt_ ?_
   with_reducible refine (impl_isDelta.calls a1 true _ A5.out).mono ?_
   rintro e w' ⟨rfl, ⟨nd, rfl⟩⟩
   refine ⟨_, rfl, ?_⟩
   refine hK.out _ _ ⟨bt_ BK224 0, bt_ BK224 1, bt_ BK224 2⟩ (fun hHeld => ?_)
   clear hK K
   refine norm_ (a' := ?_) ?_ ?_
   rotate_left
   ·show Act.put _ (some 9) _ = _
    simp only [Act.put, List.setIfInBounds_toArray, List.set_cons_zero, List.set_cons_succ, i64_w, i32_w]
    rfl
   refine pure_s (i := 5) (N := some 10) (bs 15 6) (any_of HT_.out (by kernel_rfl)) (h := ?_)
   refine pure_s (i := 6) (N := some 11) (bs 15 7) (any_of HT_.out (by kernel_rfl)) (h := ?_)
   refine pure_s (i := 10) (N := some 15) #[oT,oT,oT,oT,oT,oT,oT,oF,oF,oF,oT,oF,oF,oF,oF] (any_of HT_.out (by kernel_rfl)) (h := ?_)
   refine take_ (i := 7) (N := some 12) (v := ?_) (a' := ?_) #[oT,oT,oT,oT,oT,oT,oT,oT,oF,oF,oT,oF,oF,oF,oF] rfl rfl (take_ofW HT_.out HW_.out (by kernel_rfl)) (fun _ _ _ h => h) (Or.inl ⟨by rfl, ?_⟩) hHeld ?_ ?_
   rotate_left
   ·rintro w' ⟨s0, s1, s2⟩
    go_simp
    with_reducible rfl
   rotate_left
   ·simp only [Act.put, List.setIfInBounds_toArray, List.set_cons_zero, List.set_cons_succ, i64_w, i32_w]
    rfl
   refine take_ (i := 8) (N := some 13) (v := ?_) (a' := ?_) #[oT,oT,oT,oT,oT,oT,oT,oT,oT,oF,oT,oF,oF,oF,oF] rfl rfl (take_ofW HT_.out HW_.out (by kernel_rfl)) (fun _ _ _ h => h) (Or.inl ⟨by rfl, ?_⟩) hHeld ?_ ?_
   rotate_left
   ·rintro w' ⟨s0, s1, s2⟩
    go_simp
    with_reducible rfl
   rotate_left
   ·simp only [Act.put, List.setIfInBounds_toArray, List.set_cons_zero, List.set_cons_succ, i64_w, i32_w]
    rfl
   refine one_ (i := 9) (N := some 14) (bs 15 11) rfl rfl (one_of HT_.out (by kernel_rfl)) (by decide) (fun K hK => ?_)
   refine goes_ Try.func52 (by kernel_rfl) rfl #[.agg #[.int .i64 a0_0, .int .i64 a0_1, .int .i64 a0_2]] (by rfl) rfl rfl mt_ ?_
   with_reducible refine (impl_VecTop.calls a0_0 a0_1 a0_2 t227 _ A7.out).mono ?_
   rintro e w12 ⟨rfl, hb⟩
   refine ⟨_, rfl, ?_⟩
   have n0_ := bb_ BK224 hb; have n1_ := Aside0.mk (below_step (bf_ HB) hb); clear BK224; clear HB; have BK224 := n0_; have HB := n1_; clear n0_ n1_; (try clear hb); (try clear hb2); (try clear hk); (try clear hi)
   refine hK.out _ _ ⟨bt_ BK224 0, bt_ BK224 1, bt_ BK224 2⟩ (fun hHeld => ?_)
   clear hK K
   refine norm_ (a' := ?_) ?_ ?_
   rotate_left
   ·show Act.put _ (some 14) _ = _
    simp only [Act.put, List.setIfInBounds_toArray, List.set_cons_zero, List.set_cons_succ, i64_w, i32_w]
    rfl
   refine pure_s (i := 11) (N := some 16) (bs 15 12) (any_of HT_.out (by kernel_rfl)) (h := ?_)
   refine one_ (i := 12) (N := some 17) (bs 15 13) rfl rfl (one_of HT_.out (by kernel_rfl)) (by decide) (fun K hK => ?_)
   refine goes_ Try.func91 (by kernel_rfl) rfl #[.agg #[.int .i64 a0_0, .int .i64 a0_1, .int .i64 a0_2], .int .i64 (wrap64 (t227 - a1)), .int .i64 1000000000000] (by rfl) rfl rfl mt_ ?_
   with_reducible refine (impl_Vec_isFrom.calls a0_0 a0_1 a0_2 (wrap64 (t227 - a1)) 1000000000000 t228 _ A8.out).mono ?_
   rintro e w13 ⟨rfl, hb⟩
   refine ⟨_, rfl, ?_⟩
   have n0_ := bb_ BK224 hb; have n1_ := Aside0.mk (below_step (bf_ HB) hb); clear BK224; clear HB; have BK224 := n0_; have HB := n1_; clear n0_ n1_; (try clear hb); (try clear hb2); (try clear hk); (try clear hi)
   refine hK.out _ _ ⟨bt_ BK224 0, bt_ BK224 1, bt_ BK224 2⟩ (fun hHeld => ?_)
   clear hK K
   refine norm_ (a' := ?_) ?_ ?_
   rotate_left
   ·show Act.put _ (some 17) _ = _
    simp only [Act.put, List.setIfInBounds_toArray, List.set_cons_zero, List.set_cons_succ, i64_w, i32_w]
    rfl
   refine pure_s (i := 13) (N := some 18) (bs 15 14) (any_of HT_.out (by kernel_rfl)) (h := ?_)
   refine pure_s (i := 14) (N := some 4) (bs 15 15) (any_of HT_.out (by kernel_rfl)) (h := ?_)
   refine done_ (done_of HT_.out (by kernel_rfl)) ?_
   try go_wp2
   go_ret
   exact ⟨by first | rfl | (simp [errW_none, errW_some] <;> rfl) | (simp [*, errW_none, errW_some] <;> rfl), bf_ HB⟩
  ·replace c6 := Bool.eq_false_iff.mpr c6
   subst c6
   have H1 : (some false) = some r := by rw [if_neg (show ¬ (false = true) by decide)] at H; exact H
   clear H
   have H := H1
   clear H1
   obtain rfl := Option.some.inj H
   go_enter Try.func51, Try.ntmps51
   try go_wp2_with (first | ((with_reducible refine gate_dst (N := 2) rfl ?_); refine box_event ?hg (N := 2) ?hd (cs := #[.int .i64 a0_0, .int .i64 a0_1, .int .i64 a0_2]) (t := 29) ?hr ?_; (case hd => rfl); (case hg => rfl); (case hr => first | (go_simp; done) | (go_simp; rfl)); intro gb224 hg w14 hbox hb; have n0_ := Aside0.mk (below_step (be_ HB) hb); have n1_ := Aside0.mk (hbox); have n2_ := gw_ HB hg; have n3_ := gw_ HB hg; clear HB; have HB := n0_; have BK224 := n1_; have GW224 := n2_; have GE224 := n3_; clear n0_ n1_ n2_ n3_; clear hb hbox hg))
   have n0_ := Aside0.mk (blk_drew BK224.out); have n1_ := Aside0.mk (below_drew1 HB.out); clear BK224; clear HB; have BK224 := n0_; have HB := n1_; clear n0_ n1_
   refine start_ (n := 15) (S := fun w' => w'.cell? ⟨gb224, 0, none⟩ = some (.int .i64 a0_0) ∧ w'.cell? ⟨gb224, 1, none⟩ = some (.int .i64 a0_1) ∧ w'.cell? ⟨gb224, 2, none⟩ = some (.int .i64 a0_2)) (ds := []) (bs 15 0) (by kernel_rfl) rfl rfl ⟨bt_ BK224 0, bt_ BK224 1, bt_ BK224 2⟩ (fun hHeld => ?_); refine with_tabW impl_Narrow.tab1 impl_Narrow.bits1 (fun HT_ HW_ => ?_)
   generalize w14.drew = w15 at BK224 HB hHeld ⊢
   refine take_ (i := 0) (N := some 5) (v := ?_) (a' := ?_) (bs 15 1) rfl rfl (take_ofW HT_.out HW_.out (by kernel_rfl)) (fun _ _ _ h => h) (Or.inl ⟨by rfl, ?_⟩) hHeld ?_ ?_
   rotate_left
   ·rintro w' ⟨s0, s1, s2⟩
    go_simp
    with_reducible rfl
   rotate_left
   ·simp only [Act.put, List.setIfInBounds_toArray, List.set_cons_zero, List.set_cons_succ, i64_w, i32_w]
    rfl
   refine one_ (i := 1) (N := some 6) (bs 15 2) rfl rfl (one_of HT_.out (by kernel_rfl)) (by decide) (fun K hK => ?_)
   refine goes_ Try.func89 (by kernel_rfl) rfl #[.agg #[.int .i64 a0_0, .int .i64 a0_1, .int .i64 a0_2]] (by rfl) rfl rfl mt_ ?_
   with_reducible refine (impl_TagOk.calls a0_0 a0_1 a0_2 true _ A3.out).mono ?_
   rintro e w16 ⟨rfl, hb⟩
   refine ⟨_, rfl, ?_⟩
   have n0_ := bb_ BK224 hb; have n1_ := Aside0.mk (below_step (bf_ HB) hb); clear BK224; clear HB; have BK224 := n0_; have HB := n1_; clear n0_ n1_; (try clear hb); (try clear hb2); (try clear hk); (try clear hi)
   refine hK.out _ _ ⟨bt_ BK224 0, bt_ BK224 1, bt_ BK224 2⟩ (fun hHeld => ?_)
   clear hK K
   refine norm_ (a' := ?_) ?_ ?_
   rotate_left
   ·show Act.put _ (some 6) _ = _
    simp only [Act.put, List.setIfInBounds_toArray, List.set_cons_zero, List.set_cons_succ, i64_w, i32_w]
    rfl
   refine pure_s (i := 2) (N := some 7) (bs 15 3) (any_of HT_.out (by kernel_rfl)) (h := ?_)
   refine pure_s (i := 3) (N := some 8) (bs 15 4) (any_of HT_.out (by kernel_rfl)) (h := ?_)
   refine one_ (i := 4) (N := some 9) (bs 15 5) rfl rfl (one_of HT_.out (by kernel_rfl)) (by decide) (fun K hK => ?_)
   refine goes_ Try.func90 (by kernel_rfl) rfl #[.int .i64 a1] (by rfl) rfl rfl mt_ ?_
   with_reducible refine (impl_isDelta.calls a1 false _ A5.out).mono ?_
   rintro e w' ⟨rfl, ⟨nd, rfl⟩⟩
   refine ⟨_, rfl, ?_⟩
   refine hK.out _ _ ⟨bt_ BK224 0, bt_ BK224 1, bt_ BK224 2⟩ (fun hHeld => ?_)
   clear hK K
   refine norm_ (a' := ?_) ?_ ?_
   rotate_left
   ·show Act.put _ (some 9) _ = _
    simp only [Act.put, List.setIfInBounds_toArray, List.set_cons_zero, List.set_cons_succ, i64_w, i32_w]
    rfl
   refine pure_s (i := 5) (N := some 10) (bs 15 6) (any_of HT_.out (by kernel_rfl)) (h := ?_)
   refine pure_s (i := 6) (N := some 11) (bs 15 7) (any_of HT_.out (by kernel_rfl)) (h := ?_)
   refine pure_u (i := 7) (N := some 12) (bs 15 8) (any_of HT_.out (by kernel_rfl)) (h := ?_)
   refine pure_u (i := 8) (N := some 13) (bs 15 9) (any_of HT_.out (by kernel_rfl)) (h := ?_)
   refine pure_u (i := 9) (N := some 14) (bs 15 10) (any_of HT_.out (by kernel_rfl)) (h := ?_)
   refine pure_u (i := 10) (N := some 15) (bs 15 11) (any_of HT_.out (by kernel_rfl)) (h := ?_)
   refine pure_u (i := 11) (N := some 16) (bs 15 12) (any_of HT_.out (by kernel_rfl)) (h := ?_)
   refine pure_u (i := 12) (N := some 17) (bs 15 13) (any_of HT_.out (by kernel_rfl)) (h := ?_)
   refine pure_s (i := 13) (N := some 18) (bs 15 14) (any_of HT_.out (by kernel_rfl)) (h := ?_)
   refine pure_s (i := 14) (N := some 4) (bs 15 15) (any_of HT_.out (by kernel_rfl)) (h := ?_)
   refine done_ (done_of HT_.out (by kernel_rfl)) ?_
   try go_wp2
   go_ret
   exact ⟨by first | rfl | (simp [errW_none, errW_some] <;> rfl) | (simp [*, errW_none, errW_some] <;> rfl), bf_ HB⟩
 ·replace c4 := Bool.eq_false_iff.mpr c4
  subst c4
  have H1 : (some false) = some r := by rw [if_neg (show ¬ (false = true) by decide)] at H; exact H
  clear H
  have H := H1
  clear H1
  obtain rfl := Option.some.inj H
  go_enter Try.func51, Try.ntmps51
  try go_wp2_with (first | ((with_reducible refine gate_dst (N := 2) rfl ?_); refine box_event ?hg (N := 2) ?hd (cs := #[.int .i64 a0_0, .int .i64 a0_1, .int .i64 a0_2]) (t := 29) ?hr ?_; (case hd => rfl); (case hg => rfl); (case hr => first | (go_simp; done) | (go_simp; rfl)); intro gb224 hg w17 hbox hb; have n0_ := Aside0.mk (below_step (be_ HB) hb); have n1_ := Aside0.mk (hbox); have n2_ := gw_ HB hg; have n3_ := gw_ HB hg; clear HB; have HB := n0_; have BK224 := n1_; have GW224 := n2_; have GE224 := n3_; clear n0_ n1_ n2_ n3_; clear hb hbox hg))
  have n0_ := Aside0.mk (blk_drew BK224.out); have n1_ := Aside0.mk (below_drew1 HB.out); clear BK224; clear HB; have BK224 := n0_; have HB := n1_; clear n0_ n1_
  refine start_ (n := 15) (S := fun w' => w'.cell? ⟨gb224, 0, none⟩ = some (.int .i64 a0_0) ∧ w'.cell? ⟨gb224, 1, none⟩ = some (.int .i64 a0_1) ∧ w'.cell? ⟨gb224, 2, none⟩ = some (.int .i64 a0_2)) (ds := []) (bs 15 0) (by kernel_rfl) rfl rfl ⟨bt_ BK224 0, bt_ BK224 1, bt_ BK224 2⟩ (fun hHeld => ?_); refine with_tabW impl_Narrow.tab1 impl_Narrow.bits1 (fun HT_ HW_ => ?_)
  generalize w17.drew = w18 at BK224 HB hHeld ⊢
  refine take_ (i := 0) (N := some 5) (v := ?_) (a' := ?_) (bs 15 1) rfl rfl (take_ofW HT_.out HW_.out (by kernel_rfl)) (fun _ _ _ h => h) (Or.inl ⟨by rfl, ?_⟩) hHeld ?_ ?_
  rotate_left
  ·rintro w' ⟨s0, s1, s2⟩
   go_simp
   with_reducible rfl
  rotate_left
  ·simp only [Act.put, List.setIfInBounds_toArray, List.set_cons_zero, List.set_cons_succ, i64_w, i32_w]
   rfl
  refine one_ (i := 1) (N := some 6) (bs 15 2) rfl rfl (one_of HT_.out (by kernel_rfl)) (by decide) (fun K hK => ?_)
  refine goes_ Try.func89 (by kernel_rfl) rfl #[.agg #[.int .i64 a0_0, .int .i64 a0_1, .int .i64 a0_2]] (by rfl) rfl rfl mt_ ?_
  with_reducible refine (impl_TagOk.calls a0_0 a0_1 a0_2 false _ A3.out).mono ?_
  rintro e w19 ⟨rfl, hb⟩
  refine ⟨_, rfl, ?_⟩
  have n0_ := bb_ BK224 hb; have n1_ := Aside0.mk (below_step (bf_ HB) hb); clear BK224; clear HB; have BK224 := n0_; have HB := n1_; clear n0_ n1_; (try clear hb); (try clear hb2); (try clear hk); (try clear hi)
  refine hK.out _ _ ⟨bt_ BK224 0, bt_ BK224 1, bt_ BK224 2⟩ (fun hHeld => ?_)
  clear hK K
  refine norm_ (a' := ?_) ?_ ?_
  rotate_left
  ·show Act.put _ (some 6) _ = _
   simp only [Act.put, List.setIfInBounds_toArray, List.set_cons_zero, List.set_cons_succ, i64_w, i32_w]
   rfl
  refine pure_s (i := 2) (N := some 7) (bs 15 3) (any_of HT_.out (by kernel_rfl)) (h := ?_)
  refine pure_u (i := 3) (N := some 8) (bs 15 4) (any_of HT_.out (by kernel_rfl)) (h := ?_)
  refine pure_u (i := 4) (N := some 9) (bs 15 5) (any_of HT_.out (by kernel_rfl)) (h := ?_)
  refine pure_s (i := 5) (N := some 10) (bs 15 6) (any_of HT_.out (by kernel_rfl)) (h := ?_)
  refine pure_s (i := 6) (N := some 11) (bs 15 7) (any_of HT_.out (by kernel_rfl)) (h := ?_)
  refine pure_u (i := 7) (N := some 12) (bs 15 8) (any_of HT_.out (by kernel_rfl)) (h := ?_)
  refine pure_u (i := 8) (N := some 13) (bs 15 9) (any_of HT_.out (by kernel_rfl)) (h := ?_)
  refine pure_u (i := 9) (N := some 14) (bs 15 10) (any_of HT_.out (by kernel_rfl)) (h := ?_)
  refine pure_u (i := 10) (N := some 15) (bs 15 11) (any_of HT_.out (by kernel_rfl)) (h := ?_)
  refine pure_u (i := 11) (N := some 16) (bs 15 12) (any_of HT_.out (by kernel_rfl)) (h := ?_)
  refine pure_u (i := 12) (N := some 17) (bs 15 13) (any_of HT_.out (by kernel_rfl)) (h := ?_)
  refine pure_s (i := 13) (N := some 18) (bs 15 14) (any_of HT_.out (by kernel_rfl)) (h := ?_)
  refine pure_s (i := 14) (N := some 4) (bs 15 15) (any_of HT_.out (by kernel_rfl)) (h := ?_)
  refine done_ (done_of HT_.out (by kernel_rfl)) ?_
  try go_wp2
  go_ret
  exact ⟨by first | rfl | (simp [errW_none, errW_some] <;> rfl) | (simp [*, errW_none, errW_some] <;> rfl), bf_ HB⟩

/-! ### impl_isFlow: function 83 -/
def impl_isFlow.f (a0 : Int) : Option (Bool) := (impl_within.f a0 0 9999).bind fun t229 => (some t229)
set_option maxHeartbeats 8000000 in
set_option maxRecDepth 100000 in
theorem impl_isFlow.calls (a0 : Int) (r : Bool) (w : World) (h : impl_isFlow.f a0 = some r) :
  Calls Try.prog 83 #[.int .i64 a0] w fun e w' => e = .returned (.bool r) ∧ Drawn0 w w' := by
 have H : ((impl_within.f a0 0 9999).bind fun t229 => (some t229)) = some r := h
 clear h
 replace H := Option.bind_eq_some_iff.mp H
 obtain ⟨t229, A20, H⟩ := H
 replace H : (some t229) = some r := H
 have A2 := Aside0.mk A20
 clear A20
 obtain rfl := Option.some.inj H
 go_enter Try.func83, Try.ntmps83
 go_wp2_with (first | ((with_reducible refine gate_callee (f := 96) rfl ?_); refine goesL_ (some 4) rfl rfl Try.func96 (by kernel_rfl) rfl #[.int .i64 a0, .int .i64 0, .int .i64 9999] rfl mt_ ?_; (with_reducible refine (impl_within.calls a0 0 9999 t229 _ A2.out).mono ?_); rintro e w' ⟨rfl, ⟨nd, rfl⟩⟩; refine ⟨_, rfl, ?_⟩))
 go_ret
 exact ⟨by first | rfl | (simp; done) | (simp [*]; done), by repeat (first | exact Drawn0.refl _ | apply Drawn0.step)⟩

/-! ### impl_isWeight: function 84 -/
def impl_isWeight.f (a0 : Int) : Option (Bool) := (impl_within.f a0 1 10).bind fun t230 => (some t230)
set_option maxHeartbeats 8000000 in
set_option maxRecDepth 100000 in
theorem impl_isWeight.calls (a0 : Int) (r : Bool) (w : World) (h : impl_isWeight.f a0 = some r) :
  Calls Try.prog 84 #[.int .i64 a0] w fun e w' => e = .returned (.bool r) ∧ Drawn0 w w' := by
 have H : ((impl_within.f a0 1 10).bind fun t230 => (some t230)) = some r := h
 clear h
 replace H := Option.bind_eq_some_iff.mp H
 obtain ⟨t230, A20, H⟩ := H
 replace H : (some t230) = some r := H
 have A2 := Aside0.mk A20
 clear A20
 obtain rfl := Option.some.inj H
 go_enter Try.func84, Try.ntmps84
 go_wp2_with (first | ((with_reducible refine gate_callee (f := 96) rfl ?_); refine goesL_ (some 4) rfl rfl Try.func96 (by kernel_rfl) rfl #[.int .i64 a0, .int .i64 1, .int .i64 10] rfl mt_ ?_; (with_reducible refine (impl_within.calls a0 1 10 t230 _ A2.out).mono ?_); rintro e w' ⟨rfl, ⟨nd, rfl⟩⟩; refine ⟨_, rfl, ?_⟩))
 go_ret
 exact ⟨by first | rfl | (simp; done) | (simp [*]; done), by repeat (first | exact Drawn0.refl _ | apply Drawn0.step)⟩

/-! ### impl_Stride: function 92 -/
def impl_Stride.f (a0 : Int) : Option (Int) := (impl_isWeight.f a0).bind fun t231 => (if t231 = true then (if a0 = 0 then (none) else (some (wrap64 ((2520 : Int) / a0)))) else (some 0))
set_option maxHeartbeats 8000000 in
set_option maxRecDepth 100000 in
theorem impl_Stride.calls (a0 : Int) (r : Int) (w : World) (h : impl_Stride.f a0 = some r) :
  Calls Try.prog 92 #[.int .i64 a0] w fun e w' => e = .returned (.int .i64 r) ∧ Drawn0 w w' := by
 have H : ((impl_isWeight.f a0).bind fun t231 => (if t231 = true then (if a0 = 0 then (none) else (some (wrap64 ((2520 : Int) / a0)))) else (some 0))) = some r := h
 clear h
 replace H := Option.bind_eq_some_iff.mp H
 obtain ⟨t231, A20, H⟩ := H
 replace H : (if t231 = true then (if a0 = 0 then (none) else (some (wrap64 ((2520 : Int) / a0)))) else (some 0)) = some r := H
 have A2 := Aside0.mk A20
 clear A20
 by_cases c3 : t231 = true
 ·subst c3
  have H1 : (if a0 = 0 then (none) else (some (wrap64 ((2520 : Int) / a0)))) = some r := by rw [if_pos rfl] at H; exact H
  clear H
  have H := H1
  clear H1
  by_cases c4 : a0 = 0
  ·rw [if_pos c4] at H
   exact absurd H (by simp)
  ·rw [if_neg c4] at H
   have c4b0 : (a0 == 0) = false := beq_eq_false_iff_ne.mpr c4
   have c4b1 : (a0 != 0) = true := bne_iff_ne.mpr c4
   obtain rfl := Option.some.inj H
   go_enter Try.func92, Try.ntmps92
   go_wp2_with (first | ((with_reducible refine gate_callee (f := 84) rfl ?_); refine goesL_ (some 4) rfl rfl Try.func84 (by kernel_rfl) rfl #[.int .i64 a0] rfl mt_ ?_; (with_reducible refine (impl_isWeight.calls a0 true _ A2.out).mono ?_); rintro e w' ⟨rfl, ⟨nd, rfl⟩⟩; refine ⟨_, rfl, ?_⟩))
   go_ret
   exact ⟨by first | rfl | (simp; rw [Int.tdiv_eq_ediv_of_nonneg] <;> first | decide | omega) | (simp; done) | (simp [*]; done), by repeat (first | exact Drawn0.refl _ | apply Drawn0.step)⟩
 ·replace c3 := Bool.eq_false_iff.mpr c3
  subst c3
  have H1 : (some 0) = some r := by rw [if_neg (show ¬ (false = true) by decide)] at H; exact H
  clear H
  have H := H1
  clear H1
  obtain rfl := Option.some.inj H
  go_enter Try.func92, Try.ntmps92
  go_wp2_with (first | ((with_reducible refine gate_callee (f := 84) rfl ?_); refine goesL_ (some 4) rfl rfl Try.func84 (by kernel_rfl) rfl #[.int .i64 a0] rfl mt_ ?_; (with_reducible refine (impl_isWeight.calls a0 false _ A2.out).mono ?_); rintro e w' ⟨rfl, ⟨nd, rfl⟩⟩; refine ⟨_, rfl, ?_⟩))
  go_ret
  exact ⟨by first | rfl | (simp; rw [Int.tdiv_eq_ediv_of_nonneg] <;> first | decide | omega) | (simp; done) | (simp [*]; done), by repeat (first | exact Drawn0.refl _ | apply Drawn0.step)⟩

/-! ### impl_Fair_kidOk: function 53 -/
def impl_Fair_kidOk.f (a0_0 : Int) (a0_1 : Int) (a0_2 : Int) (a0_3 : Int) (l0_4 : List (S38)) (a1_0 : Int) (a1_1 : Int) (a1_2 : Bool) (a1_3 : Int) (a1_4 : Int) (a1_5 : Int) : Option (Bool) := (impl_VecTop.f a0_1 a0_2 a0_3).bind fun t234 => ((impl_VecTop.f a1_3 a1_4 a1_5).bind fun t235 => ((impl_isFlow.f a1_0).bind fun t236 => (if t236 = true then ((impl_isWeight.f a1_1).bind fun t237 => (if t237 = true then ((impl_Narrow.f a1_3 a1_4 a1_5 a0_0).bind fun t238 => (if t238 = true then ((impl_Stride.f a1_1).bind fun t239 => (if t235 ≤ (wrap64 (t234 + (wrap64 (t239 * 2000)))) then (if a1_2 = true then (some (decide (t235 ≥ t234))) else (some true)) else (some false))) else (some false))) else (some false))) else (some false))))
def impl_Fair_kidOk.T1 : Bool × List (List Nat × List Nat) := (true, [([], []), ([0], [0]), ([1], [1]), ([], []), ([3], [3]), ([4, 2], [4]), ([2, 5, 0, 1, 2], [2]), ([5, 6, 0, 1, 2, 3, 4, 5, 6], [5])])
def impl_Fair_kidOk.B1 : List Nat := [0, 1, 3, 0, 8, 31, 63, 127]
theorem impl_Fair_kidOk.tab1 : rtab .any (opsOf Try.f53 1) = impl_Fair_kidOk.T1 := by kernel_rfl
theorem impl_Fair_kidOk.bits1 : waitsOk impl_Fair_kidOk.T1.2 impl_Fair_kidOk.B1 = true := by kernel_rfl
set_option maxHeartbeats 8000000 in
set_option maxRecDepth 100000 in
theorem impl_Fair_kidOk.calls (a0_0 : Int) (a0_1 : Int) (a0_2 : Int) (a0_3 : Int) (A0_4 : Option Addr) (c0_4 : Nat) (l0_4 : List (S38)) (a1_0 : Int) (a1_1 : Int) (a1_2 : Bool) (a1_3 : Int) (a1_4 : Int) (a1_5 : Int) (r : Bool) (w : World) (hr0_4 : Kd.C k38 w A0_4 l0_4.length l0_4) (hc0_4 : l0_4.length ≤ c0_4) (h : impl_Fair_kidOk.f a0_0 a0_1 a0_2 a0_3 l0_4 a1_0 a1_1 a1_2 a1_3 a1_4 a1_5 = some r) :
  Calls Try.prog 53 #[.agg #[.int .i64 a0_0, .int .i64 a0_1, .int .i64 a0_2, .int .i64 a0_3, .slice A0_4 l0_4.length c0_4], .agg #[.int .i64 a1_0, .int .i64 a1_1, .bool a1_2, .int .i64 a1_3, .int .i64 a1_4, .int .i64 a1_5]] w fun e w' => e = .returned (.bool r) ∧ Below w.heap.size w w' := by
 have hu32 := Try.underlying32; have hu38 := Try.underlying38; have hu29 := Try.underlying29
 have HR0_4 := Aside0.mk hr0_4
 have HC0_4 := Aside0.mk hc0_4
 clear hr0_4 hc0_4; have HB := Aside0.mk (Below.refl w.heap.size w)
 have H : ((impl_VecTop.f a0_1 a0_2 a0_3).bind fun t234 => ((impl_VecTop.f a1_3 a1_4 a1_5).bind fun t235 => ((impl_isFlow.f a1_0).bind fun t236 => (if t236 = true then ((impl_isWeight.f a1_1).bind fun t237 => (if t237 = true then ((impl_Narrow.f a1_3 a1_4 a1_5 a0_0).bind fun t238 => (if t238 = true then ((impl_Stride.f a1_1).bind fun t239 => (if t235 ≤ (wrap64 (t234 + (wrap64 (t239 * 2000)))) then (if a1_2 = true then (some (decide (t235 ≥ t234))) else (some true)) else (some false))) else (some false))) else (some false))) else (some false))))) = some r := h
 clear h
 replace H := Option.bind_eq_some_iff.mp H
 obtain ⟨t234, A30, H⟩ := H
 replace H : ((impl_VecTop.f a1_3 a1_4 a1_5).bind fun t235 => ((impl_isFlow.f a1_0).bind fun t236 => (if t236 = true then ((impl_isWeight.f a1_1).bind fun t237 => (if t237 = true then ((impl_Narrow.f a1_3 a1_4 a1_5 a0_0).bind fun t238 => (if t238 = true then ((impl_Stride.f a1_1).bind fun t239 => (if t235 ≤ (wrap64 (t234 + (wrap64 (t239 * 2000)))) then (if a1_2 = true then (some (decide (t235 ≥ t234))) else (some true)) else (some false))) else (some false))) else (some false))) else (some false)))) = some r := H
 have A3 := Aside0.mk A30
 clear A30
 replace H := Option.bind_eq_some_iff.mp H
 obtain ⟨t235, A40, H⟩ := H
 replace H : ((impl_isFlow.f a1_0).bind fun t236 => (if t236 = true then ((impl_isWeight.f a1_1).bind fun t237 => (if t237 = true then ((impl_Narrow.f a1_3 a1_4 a1_5 a0_0).bind fun t238 => (if t238 = true then ((impl_Stride.f a1_1).bind fun t239 => (if t235 ≤ (wrap64 (t234 + (wrap64 (t239 * 2000)))) then (if a1_2 = true then (some (decide (t235 ≥ t234))) else (some true)) else (some false))) else (some false))) else (some false))) else (some false))) = some r := H
 have A4 := Aside0.mk A40
 clear A40
 replace H := Option.bind_eq_some_iff.mp H
 obtain ⟨t236, A50, H⟩ := H
 replace H : (if t236 = true then ((impl_isWeight.f a1_1).bind fun t237 => (if t237 = true then ((impl_Narrow.f a1_3 a1_4 a1_5 a0_0).bind fun t238 => (if t238 = true then ((impl_Stride.f a1_1).bind fun t239 => (if t235 ≤ (wrap64 (t234 + (wrap64 (t239 * 2000)))) then (if a1_2 = true then (some (decide (t235 ≥ t234))) else (some true)) else (some false))) else (some false))) else (some false))) else (some false)) = some r := H
 have A5 := Aside0.mk A50
 clear A50
 by_cases c6 : t236 = true
 ·subst c6
  have H1 : ((impl_isWeight.f a1_1).bind fun t237 => (if t237 = true then ((impl_Narrow.f a1_3 a1_4 a1_5 a0_0).bind fun t238 => (if t238 = true then ((impl_Stride.f a1_1).bind fun t239 => (if t235 ≤ (wrap64 (t234 + (wrap64 (t239 * 2000)))) then (if a1_2 = true then (some (decide (t235 ≥ t234))) else (some true)) else (some false))) else (some false))) else (some false))) = some r := by rw [if_pos rfl] at H; exact H
  clear H
  have H := H1
  clear H1
  replace H := Option.bind_eq_some_iff.mp H
  obtain ⟨t237, A70, H⟩ := H
  replace H : (if t237 = true then ((impl_Narrow.f a1_3 a1_4 a1_5 a0_0).bind fun t238 => (if t238 = true then ((impl_Stride.f a1_1).bind fun t239 => (if t235 ≤ (wrap64 (t234 + (wrap64 (t239 * 2000)))) then (if a1_2 = true then (some (decide (t235 ≥ t234))) else (some true)) else (some false))) else (some false))) else (some false)) = some r := H
  have A7 := Aside0.mk A70
  clear A70
  by_cases c8 : t237 = true
  ·subst c8
   have H1 : ((impl_Narrow.f a1_3 a1_4 a1_5 a0_0).bind fun t238 => (if t238 = true then ((impl_Stride.f a1_1).bind fun t239 => (if t235 ≤ (wrap64 (t234 + (wrap64 (t239 * 2000)))) then (if a1_2 = true then (some (decide (t235 ≥ t234))) else (some true)) else (some false))) else (some false))) = some r := by rw [if_pos rfl] at H; exact H
   clear H
   have H := H1
   clear H1
   replace H := Option.bind_eq_some_iff.mp H
   obtain ⟨t238, A90, H⟩ := H
   replace H : (if t238 = true then ((impl_Stride.f a1_1).bind fun t239 => (if t235 ≤ (wrap64 (t234 + (wrap64 (t239 * 2000)))) then (if a1_2 = true then (some (decide (t235 ≥ t234))) else (some true)) else (some false))) else (some false)) = some r := H
   have A9 := Aside0.mk A90
   clear A90
   by_cases c10 : t238 = true
   ·subst c10
    have H1 : ((impl_Stride.f a1_1).bind fun t239 => (if t235 ≤ (wrap64 (t234 + (wrap64 (t239 * 2000)))) then (if a1_2 = true then (some (decide (t235 ≥ t234))) else (some true)) else (some false))) = some r := by rw [if_pos rfl] at H; exact H
    clear H
    have H := H1
    clear H1
    replace H := Option.bind_eq_some_iff.mp H
    obtain ⟨t239, A110, H⟩ := H
    replace H : (if t235 ≤ (wrap64 (t234 + (wrap64 (t239 * 2000)))) then (if a1_2 = true then (some (decide (t235 ≥ t234))) else (some true)) else (some false)) = some r := H
    have A11 := Aside0.mk A110
    clear A110
    by_cases c12 : t235 ≤ (wrap64 (t234 + (wrap64 (t239 * 2000))))
    ·rw [if_pos c12] at H
     have c12b0 : decide (t235 ≤ (wrap64 (t234 + (wrap64 (t239 * 2000))))) = true := decide_eq_true c12
     clear c12
     by_cases c13 : a1_2 = true
     ·subst c13
      have H1 : (some (decide (t235 ≥ t234))) = some r := by rw [if_pos rfl] at H; exact H
      clear H
      have H := H1
      clear H1
      obtain rfl := Option.some.inj H
      go_enter Try.func53, Try.ntmps53
      try go_wp2_with (first | ((with_reducible refine gate_dst (N := 2) rfl ?_); refine box_event ?hg (N := 2) ?hd (cs := #[.int .i64 a0_0, .int .i64 a0_1, .int .i64 a0_2, .int .i64 a0_3, .slice A0_4 l0_4.length c0_4]) (t := 32) ?hr ?_; (case hd => rfl); (case hg => rfl); (case hr => first | (go_simp; done) | (go_simp; rfl)); intro gb232 hg w14 hbox hb; have n0_ := Aside0.mk (below_step (be_ HB) hb); have n1_ := Aside0.mk (hbox); have n2_ := gw_ HB hg; have n3_ := gw_ HB hg; clear HB; have HB := n0_; have BK232 := n1_; have GW232 := n2_; have GE232 := n3_; clear n0_ n1_ n2_ n3_; clear hb hbox hg) | ((with_reducible refine gate_dst (N := 3) rfl ?_); refine box_event ?hg (N := 3) ?hd (cs := #[.int .i64 a1_0, .int .i64 a1_1, .bool true, .int .i64 a1_3, .int .i64 a1_4, .int .i64 a1_5]) (t := 38) ?hr ?_; (case hd => rfl); (case hg => rfl); (case hr => first | (go_simp; done) | (go_simp; rfl)); intro gb233 hg w15 hbox hb; have n0_ := bb_ BK232 hb; have n1_ := Aside0.mk (below_step (bf_ HB) hb); have n2_ := Aside0.mk (hbox); have n3_ := gw_ HB hg; have n4_ := gw_ HB hg; have n5_ := nl_ BK232 hg; have n6_ := ng_ BK232 hg; clear BK232; clear HB; have BK232 := n0_; have HB := n1_; have BK233 := n2_; have GW233 := n3_; have GE233 := n4_; have NB232_233 := n5_; have NB233_232 := n6_; clear n0_ n1_ n2_ n3_ n4_ n5_ n6_; clear hb hbox hg))
      have n0_ := Aside0.mk (blk_drew BK232.out); have n1_ := Aside0.mk (blk_drew BK233.out); have n2_ := Aside0.mk (below_drew1 HB.out); clear BK232; clear BK233; clear HB; have BK232 := n0_; have BK233 := n1_; have HB := n2_; clear n0_ n1_ n2_
      refine start_ (n := 8) (S := fun w' => w'.cell? ⟨gb232, 0, none⟩ = some (.int .i64 a0_0) ∧ w'.cell? ⟨gb232, 1, none⟩ = some (.int .i64 a0_1) ∧ w'.cell? ⟨gb232, 2, none⟩ = some (.int .i64 a0_2) ∧ w'.cell? ⟨gb232, 3, none⟩ = some (.int .i64 a0_3) ∧ w'.cell? ⟨gb232, 4, none⟩ = some (.slice A0_4 l0_4.length c0_4) ∧ w'.cell? ⟨gb233, 0, none⟩ = some (.int .i64 a1_0) ∧ w'.cell? ⟨gb233, 1, none⟩ = some (.int .i64 a1_1) ∧ w'.cell? ⟨gb233, 2, none⟩ = some (.bool true) ∧ w'.cell? ⟨gb233, 3, none⟩ = some (.int .i64 a1_3) ∧ w'.cell? ⟨gb233, 4, none⟩ = some (.int .i64 a1_4) ∧ w'.cell? ⟨gb233, 5, none⟩ = some (.int .i64 a1_5)) (ds := []) (bs 8 0) (by kernel_rfl) rfl rfl ⟨bt_ BK232 0, bt_ BK232 1, bt_ BK232 2, bt_ BK232 3, bt_ BK232 4, bt_ BK233 0, bt_ BK233 1, bt_ BK233 2, bt_ BK233 3, bt_ BK233 4, bt_ BK233 5⟩ (fun hHeld => ?_); refine with_tabW impl_Fair_kidOk.tab1 impl_Fair_kidOk.bits1 (fun HT_ HW_ => ?_)
      generalize w15.drew = w16 at BK232 BK233 HB hHeld ⊢
      refine pure_s (i := 0) (N := some 7) (bs 8 1) (any_of HT_.out (by kernel_rfl)) (h := ?_)
      refine pure_s (i := 3) (N := some 10) #[oT,oF,oF,oT,oF,oF,oF,oF] (any_of HT_.out (by kernel_rfl)) (h := ?_)
      refine take_ (i := 1) (N := some 8) (v := ?_) (a' := ?_) #[oT,oT,oF,oT,oF,oF,oF,oF] rfl rfl (take_ofW HT_.out HW_.out (by kernel_rfl)) (fun _ _ _ h => h) (Or.inl ⟨by rfl, ?_⟩) hHeld ?_ ?_
      rotate_left
      ·rintro w' ⟨s0, s1, s2, s3, s4, s5, s6, s7, s8, s9, s10⟩
       go_simp
       with_reducible rfl
      rotate_left
      ·simp only [Act.put, List.setIfInBounds_toArray, List.set_cons_zero, List.set_cons_succ, i64_w, i32_w]
       rfl
      refine take_ (i := 4) (N := some 11) (v := ?_) (a' := ?_) #[oT,oT,oF,oT,oT,oF,oF,oF] rfl rfl (take_ofW HT_.out HW_.out (by kernel_rfl)) (fun _ _ _ h => h) (Or.inl ⟨by rfl, ?_⟩) hHeld ?_ ?_
      rotate_left
      ·rintro w' ⟨s0, s1, s2, s3, s4, s5, s6, s7, s8, s9, s10⟩
       go_simp
       with_reducible rfl
      rotate_left
      ·simp only [Act.put, List.setIfInBounds_toArray, List.set_cons_zero, List.set_cons_succ, i64_w, i32_w]
       rfl
      refine one_ (i := 2) (N := some 9) (bs 8 5) rfl rfl (one_of HT_.out (by kernel_rfl)) (by decide) (fun K hK => ?_)
      refine goes_ Try.func52 (by kernel_rfl) rfl #[.agg #[.int .i64 a0_1, .int .i64 a0_2, .int .i64 a0_3]] (by rfl) rfl rfl mt_ ?_
      with_reducible refine (impl_VecTop.calls a0_1 a0_2 a0_3 t234 _ A3.out).mono ?_
      rintro e w17 ⟨rfl, hb⟩
      refine ⟨_, rfl, ?_⟩
      have n0_ := bb_ BK232 hb; have n1_ := bb_ BK233 hb; have n2_ := Aside0.mk (below_step (bf_ HB) hb); clear BK232; clear BK233; clear HB; have BK232 := n0_; have BK233 := n1_; have HB := n2_; clear n0_ n1_ n2_; (try clear hb); (try clear hb2); (try clear hk); (try clear hi)
      refine hK.out _ _ ⟨bt_ BK232 0, bt_ BK232 1, bt_ BK232 2, bt_ BK232 3, bt_ BK232 4, bt_ BK233 0, bt_ BK233 1, bt_ BK233 2, bt_ BK233 3, bt_ BK233 4, bt_ BK233 5⟩ (fun hHeld => ?_)
      clear hK K
      refine norm_ (a' := ?_) ?_ ?_
      rotate_left
      ·show Act.put _ (some 9) _ = _
       simp only [Act.put, List.setIfInBounds_toArray, List.set_cons_zero, List.set_cons_succ, i64_w, i32_w]
       rfl
      refine one_ (i := 5) (N := some 12) (bs 8 6) rfl rfl (one_of HT_.out (by kernel_rfl)) (by decide) (fun K hK => ?_)
      refine goes_ Try.func52 (by kernel_rfl) rfl #[.agg #[.int .i64 a1_3, .int .i64 a1_4, .int .i64 a1_5]] (by rfl) rfl rfl mt_ ?_
      with_reducible refine (impl_VecTop.calls a1_3 a1_4 a1_5 t235 _ A4.out).mono ?_
      rintro e w18 ⟨rfl, hb⟩
      refine ⟨_, rfl, ?_⟩
      have n0_ := bb_ BK232 hb; have n1_ := bb_ BK233 hb; have n2_ := Aside0.mk (below_step (bf_ HB) hb); clear BK232; clear BK233; clear HB; have BK232 := n0_; have BK233 := n1_; have HB := n2_; clear n0_ n1_ n2_; (try clear hb); (try clear hb2); (try clear hk); (try clear hi)
      refine hK.out _ _ ⟨bt_ BK232 0, bt_ BK232 1, bt_ BK232 2, bt_ BK232 3, bt_ BK232 4, bt_ BK233 0, bt_ BK233 1, bt_ BK233 2, bt_ BK233 3, bt_ BK233 4, bt_ BK233 5⟩ (fun hHeld => ?_)
      clear hK K
      refine norm_ (a' := ?_) ?_ ?_
      rotate_left
      ·show Act.put _ (some 12) _ = _
       simp only [Act.put, List.setIfInBounds_toArray, List.set_cons_zero, List.set_cons_succ, i64_w, i32_w]
       rfl
      refine pure_s (i := 6) (N := some 5) (bs 8 7) (any_of HT_.out (by kernel_rfl)) (h := ?_)
      refine pure_s (i := 7) (N := some 6) (bs 8 8) (any_of HT_.out (by kernel_rfl)) (h := ?_)
      refine done_ (done_of HT_.out (by kernel_rfl)) ?_
      have hnb19 := NB233_232.out; have hnc19 := NB232_233.out; have hcz20_0 := bc_ BK233 0 (.int .i64 a1_0) rfl; have hcz20_1 := bc_ BK233 1 (.int .i64 a1_1) rfl; have hcz20_2 := bc_ BK233 2 (.bool true) rfl; have hcz20_3 := bc_ BK233 3 (.int .i64 a1_3) rfl; have hcz20_4 := bc_ BK233 4 (.int .i64 a1_4) rfl; have hcz20_5 := bc_ BK233 5 (.int .i64 a1_5) rfl; have hfz20_0 := blk_frozen BK233.out 0; have hfz20_1 := blk_frozen BK233.out 1; have hfz20_2 := blk_frozen BK233.out 2; have hfz20_3 := blk_frozen BK233.out 3; have hfz20_4 := blk_frozen BK233.out 4; have hfz20_5 := blk_frozen BK233.out 5
      try go_wp2_with (first | ((with_reducible refine gate_callee (f := 83) rfl ?_); refine goesL_ (some 15) rfl rfl Try.func83 (by kernel_rfl) rfl #[.int .i64 a1_0] rfl mt_ ?_; (with_reducible refine (impl_isFlow.calls a1_0 true _ A5.out).mono ?_); rintro e w' ⟨rfl, ⟨nd, rfl⟩⟩; refine ⟨_, rfl, ?_⟩) | (go_at_call 84; (with_reducible refine (impl_isWeight.calls a1_1 true _ A7.out).mono ?_); rintro e w' ⟨rfl, ⟨nd, rfl⟩⟩; have hcz21_0 := bc_ BK232 0 (.int .i64 a0_0) rfl; have hcz21_1 := bc_ BK232 1 (.int .i64 a0_1) rfl; have hcz21_2 := bc_ BK232 2 (.int .i64 a0_2) rfl; have hcz21_3 := bc_ BK232 3 (.int .i64 a0_3) rfl; have hcz21_4 := bc_ BK232 4 (.slice A0_4 l0_4.length c0_4) rfl; have hfz21_0 := blk_frozen BK232.out 0; have hfz21_1 := blk_frozen BK232.out 1; have hfz21_2 := blk_frozen BK232.out 2; have hfz21_3 := blk_frozen BK232.out 3; have hfz21_4 := blk_frozen BK232.out 4) | (go_at_call 51; (with_reducible refine (impl_Narrow.calls a1_3 a1_4 a1_5 a0_0 true _ A9.out).mono ?_); rintro e w22 ⟨rfl, hb⟩; have n0_ := bb_ BK232 hb; have n1_ := bb_ BK233 hb; have n2_ := Aside0.mk (below_step (bf_ HB) hb); clear BK232; clear BK233; clear HB; have BK232 := n0_; have BK233 := n1_; have HB := n2_; clear n0_ n1_ n2_; (try clear hb); (try clear hb2); (try clear hk); (try clear hi); have hcz23_0 := bc_ BK233 0 (.int .i64 a1_0) rfl; have hcz23_1 := bc_ BK233 1 (.int .i64 a1_1) rfl; have hcz23_2 := bc_ BK233 2 (.bool true) rfl; have hcz23_3 := bc_ BK233 3 (.int .i64 a1_3) rfl; have hcz23_4 := bc_ BK233 4 (.int .i64 a1_4) rfl; have hcz23_5 := bc_ BK233 5 (.int .i64 a1_5) rfl; have hfz23_0 := blk_frozen BK233.out 0; have hfz23_1 := blk_frozen BK233.out 1; have hfz23_2 := blk_frozen BK233.out 2; have hfz23_3 := blk_frozen BK233.out 3; have hfz23_4 := blk_frozen BK233.out 4; have hfz23_5 := blk_frozen BK233.out 5) | ((with_reducible refine gate_callee (f := 92) rfl ?_); refine goesL_ (some 35) rfl rfl Try.func92 (by kernel_rfl) rfl #[.int .i64 a1_1] rfl mt_ ?_; (with_reducible refine (impl_Stride.calls a1_1 t239 _ A11.out).mono ?_); rintro e w' ⟨rfl, ⟨nd, rfl⟩⟩; refine ⟨_, rfl, ?_⟩))
      go_ret
      exact ⟨by first | rfl | (simp [errW_none, errW_some] <;> rfl) | (simp [*, errW_none, errW_some] <;> rfl), bf_ HB⟩
     ·replace c13 := Bool.eq_false_iff.mpr c13
      subst c13
      have H1 : (some true) = some r := by rw [if_neg (show ¬ (false = true) by decide)] at H; exact H
      clear H
      have H := H1
      clear H1
      obtain rfl := Option.some.inj H
      go_enter Try.func53, Try.ntmps53
      try go_wp2_with (first | ((with_reducible refine gate_dst (N := 2) rfl ?_); refine box_event ?hg (N := 2) ?hd (cs := #[.int .i64 a0_0, .int .i64 a0_1, .int .i64 a0_2, .int .i64 a0_3, .slice A0_4 l0_4.length c0_4]) (t := 32) ?hr ?_; (case hd => rfl); (case hg => rfl); (case hr => first | (go_simp; done) | (go_simp; rfl)); intro gb232 hg w24 hbox hb; have n0_ := Aside0.mk (below_step (be_ HB) hb); have n1_ := Aside0.mk (hbox); have n2_ := gw_ HB hg; have n3_ := gw_ HB hg; clear HB; have HB := n0_; have BK232 := n1_; have GW232 := n2_; have GE232 := n3_; clear n0_ n1_ n2_ n3_; clear hb hbox hg) | ((with_reducible refine gate_dst (N := 3) rfl ?_); refine box_event ?hg (N := 3) ?hd (cs := #[.int .i64 a1_0, .int .i64 a1_1, .bool false, .int .i64 a1_3, .int .i64 a1_4, .int .i64 a1_5]) (t := 38) ?hr ?_; (case hd => rfl); (case hg => rfl); (case hr => first | (go_simp; done) | (go_simp; rfl)); intro gb233 hg w25 hbox hb; have n0_ := bb_ BK232 hb; have n1_ := Aside0.mk (below_step (bf_ HB) hb); have n2_ := Aside0.mk (hbox); have n3_ := gw_ HB hg; have n4_ := gw_ HB hg; have n5_ := nl_ BK232 hg; have n6_ := ng_ BK232 hg; clear BK232; clear HB; have BK232 := n0_; have HB := n1_; have BK233 := n2_; have GW233 := n3_; have GE233 := n4_; have NB232_233 := n5_; have NB233_232 := n6_; clear n0_ n1_ n2_ n3_ n4_ n5_ n6_; clear hb hbox hg))
      have n0_ := Aside0.mk (blk_drew BK232.out); have n1_ := Aside0.mk (blk_drew BK233.out); have n2_ := Aside0.mk (below_drew1 HB.out); clear BK232; clear BK233; clear HB; have BK232 := n0_; have BK233 := n1_; have HB := n2_; clear n0_ n1_ n2_
      refine start_ (n := 8) (S := fun w' => w'.cell? ⟨gb232, 0, none⟩ = some (.int .i64 a0_0) ∧ w'.cell? ⟨gb232, 1, none⟩ = some (.int .i64 a0_1) ∧ w'.cell? ⟨gb232, 2, none⟩ = some (.int .i64 a0_2) ∧ w'.cell? ⟨gb232, 3, none⟩ = some (.int .i64 a0_3) ∧ w'.cell? ⟨gb232, 4, none⟩ = some (.slice A0_4 l0_4.length c0_4) ∧ w'.cell? ⟨gb233, 0, none⟩ = some (.int .i64 a1_0) ∧ w'.cell? ⟨gb233, 1, none⟩ = some (.int .i64 a1_1) ∧ w'.cell? ⟨gb233, 2, none⟩ = some (.bool false) ∧ w'.cell? ⟨gb233, 3, none⟩ = some (.int .i64 a1_3) ∧ w'.cell? ⟨gb233, 4, none⟩ = some (.int .i64 a1_4) ∧ w'.cell? ⟨gb233, 5, none⟩ = some (.int .i64 a1_5)) (ds := []) (bs 8 0) (by kernel_rfl) rfl rfl ⟨bt_ BK232 0, bt_ BK232 1, bt_ BK232 2, bt_ BK232 3, bt_ BK232 4, bt_ BK233 0, bt_ BK233 1, bt_ BK233 2, bt_ BK233 3, bt_ BK233 4, bt_ BK233 5⟩ (fun hHeld => ?_); refine with_tabW impl_Fair_kidOk.tab1 impl_Fair_kidOk.bits1 (fun HT_ HW_ => ?_)
      generalize w25.drew = w26 at BK232 BK233 HB hHeld ⊢
      refine pure_s (i := 0) (N := some 7) (bs 8 1) (any_of HT_.out (by kernel_rfl)) (h := ?_)
      refine pure_s (i := 3) (N := some 10) #[oT,oF,oF,oT,oF,oF,oF,oF] (any_of HT_.out (by kernel_rfl)) (h := ?_)
      refine take_ (i := 1) (N := some 8) (v := ?_) (a' := ?_) #[oT,oT,oF,oT,oF,oF,oF,oF] rfl rfl (take_ofW HT_.out HW_.out (by kernel_rfl)) (fun _ _ _ h => h) (Or.inl ⟨by rfl, ?_⟩) hHeld ?_ ?_
      rotate_left
      ·rintro w' ⟨s0, s1, s2, s3, s4, s5, s6, s7, s8, s9, s10⟩
       go_simp
       with_reducible rfl
      rotate_left
      ·simp only [Act.put, List.setIfInBounds_toArray, List.set_cons_zero, List.set_cons_succ, i64_w, i32_w]
       rfl
      refine take_ (i := 4) (N := some 11) (v := ?_) (a' := ?_) #[oT,oT,oF,oT,oT,oF,oF,oF] rfl rfl (take_ofW HT_.out HW_.out (by kernel_rfl)) (fun _ _ _ h => h) (Or.inl ⟨by rfl, ?_⟩) hHeld ?_ ?_
      rotate_left
      ·rintro w' ⟨s0, s1, s2, s3, s4, s5, s6, s7, s8, s9, s10⟩
       go_simp
       with_reducible rfl
      rotate_left
      ·simp only [Act.put, List.setIfInBounds_toArray, List.set_cons_zero, List.set_cons_succ, i64_w, i32_w]
       rfl
      refine one_ (i := 2) (N := some 9) (bs 8 5) rfl rfl (one_of HT_.out (by kernel_rfl)) (by decide) (fun K hK => ?_)
      refine goes_ Try.func52 (by kernel_rfl) rfl #[.agg #[.int .i64 a0_1, .int .i64 a0_2, .int .i64 a0_3]] (by rfl) rfl rfl mt_ ?_
      with_reducible refine (impl_VecTop.calls a0_1 a0_2 a0_3 t234 _ A3.out).mono ?_
      rintro e w27 ⟨rfl, hb⟩
      refine ⟨_, rfl, ?_⟩
      have n0_ := bb_ BK232 hb; have n1_ := bb_ BK233 hb; have n2_ := Aside0.mk (below_step (bf_ HB) hb); clear BK232; clear BK233; clear HB; have BK232 := n0_; have BK233 := n1_; have HB := n2_; clear n0_ n1_ n2_; (try clear hb); (try clear hb2); (try clear hk); (try clear hi)
      refine hK.out _ _ ⟨bt_ BK232 0, bt_ BK232 1, bt_ BK232 2, bt_ BK232 3, bt_ BK232 4, bt_ BK233 0, bt_ BK233 1, bt_ BK233 2, bt_ BK233 3, bt_ BK233 4, bt_ BK233 5⟩ (fun hHeld => ?_)
      clear hK K
      refine norm_ (a' := ?_) ?_ ?_
      rotate_left
      ·show Act.put _ (some 9) _ = _
       simp only [Act.put, List.setIfInBounds_toArray, List.set_cons_zero, List.set_cons_succ, i64_w, i32_w]
       rfl
      refine one_ (i := 5) (N := some 12) (bs 8 6) rfl rfl (one_of HT_.out (by kernel_rfl)) (by decide) (fun K hK => ?_)
      refine goes_ Try.func52 (by kernel_rfl) rfl #[.agg #[.int .i64 a1_3, .int .i64 a1_4, .int .i64 a1_5]] (by rfl) rfl rfl mt_ ?_
      with_reducible refine (impl_VecTop.calls a1_3 a1_4 a1_5 t235 _ A4.out).mono ?_
      rintro e w28 ⟨rfl, hb⟩
      refine ⟨_, rfl, ?_⟩
      have n0_ := bb_ BK232 hb; have n1_ := bb_ BK233 hb; have n2_ := Aside0.mk (below_step (bf_ HB) hb); clear BK232; clear BK233; clear HB; have BK232 := n0_; have BK233 := n1_; have HB := n2_; clear n0_ n1_ n2_; (try clear hb); (try clear hb2); (try clear hk); (try clear hi)
      refine hK.out _ _ ⟨bt_ BK232 0, bt_ BK232 1, bt_ BK232 2, bt_ BK232 3, bt_ BK232 4, bt_ BK233 0, bt_ BK233 1, bt_ BK233 2, bt_ BK233 3, bt_ BK233 4, bt_ BK233 5⟩ (fun hHeld => ?_)
      clear hK K
      refine norm_ (a' := ?_) ?_ ?_
      rotate_left
      ·show Act.put _ (some 12) _ = _
       simp only [Act.put, List.setIfInBounds_toArray, List.set_cons_zero, List.set_cons_succ, i64_w, i32_w]
       rfl
      refine pure_s (i := 6) (N := some 5) (bs 8 7) (any_of HT_.out (by kernel_rfl)) (h := ?_)
      refine pure_s (i := 7) (N := some 6) (bs 8 8) (any_of HT_.out (by kernel_rfl)) (h := ?_)
      refine done_ (done_of HT_.out (by kernel_rfl)) ?_
      have hnb29 := NB233_232.out; have hnc29 := NB232_233.out; have hcz30_0 := bc_ BK233 0 (.int .i64 a1_0) rfl; have hcz30_1 := bc_ BK233 1 (.int .i64 a1_1) rfl; have hcz30_2 := bc_ BK233 2 (.bool false) rfl; have hcz30_3 := bc_ BK233 3 (.int .i64 a1_3) rfl; have hcz30_4 := bc_ BK233 4 (.int .i64 a1_4) rfl; have hcz30_5 := bc_ BK233 5 (.int .i64 a1_5) rfl; have hfz30_0 := blk_frozen BK233.out 0; have hfz30_1 := blk_frozen BK233.out 1; have hfz30_2 := blk_frozen BK233.out 2; have hfz30_3 := blk_frozen BK233.out 3; have hfz30_4 := blk_frozen BK233.out 4; have hfz30_5 := blk_frozen BK233.out 5
      try go_wp2_with (first | ((with_reducible refine gate_callee (f := 83) rfl ?_); refine goesL_ (some 15) rfl rfl Try.func83 (by kernel_rfl) rfl #[.int .i64 a1_0] rfl mt_ ?_; (with_reducible refine (impl_isFlow.calls a1_0 true _ A5.out).mono ?_); rintro e w' ⟨rfl, ⟨nd, rfl⟩⟩; refine ⟨_, rfl, ?_⟩) | (go_at_call 84; (with_reducible refine (impl_isWeight.calls a1_1 true _ A7.out).mono ?_); rintro e w' ⟨rfl, ⟨nd, rfl⟩⟩; have hcz31_0 := bc_ BK232 0 (.int .i64 a0_0) rfl; have hcz31_1 := bc_ BK232 1 (.int .i64 a0_1) rfl; have hcz31_2 := bc_ BK232 2 (.int .i64 a0_2) rfl; have hcz31_3 := bc_ BK232 3 (.int .i64 a0_3) rfl; have hcz31_4 := bc_ BK232 4 (.slice A0_4 l0_4.length c0_4) rfl; have hfz31_0 := blk_frozen BK232.out 0; have hfz31_1 := blk_frozen BK232.out 1; have hfz31_2 := blk_frozen BK232.out 2; have hfz31_3 := blk_frozen BK232.out 3; have hfz31_4 := blk_frozen BK232.out 4) | (go_at_call 51; (with_reducible refine (impl_Narrow.calls a1_3 a1_4 a1_5 a0_0 true _ A9.out).mono ?_); rintro e w32 ⟨rfl, hb⟩; have n0_ := bb_ BK232 hb; have n1_ := bb_ BK233 hb; have n2_ := Aside0.mk (below_step (bf_ HB) hb); clear BK232; clear BK233; clear HB; have BK232 := n0_; have BK233 := n1_; have HB := n2_; clear n0_ n1_ n2_; (try clear hb); (try clear hb2); (try clear hk); (try clear hi); have hcz33_0 := bc_ BK233 0 (.int .i64 a1_0) rfl; have hcz33_1 := bc_ BK233 1 (.int .i64 a1_1) rfl; have hcz33_2 := bc_ BK233 2 (.bool false) rfl; have hcz33_3 := bc_ BK233 3 (.int .i64 a1_3) rfl; have hcz33_4 := bc_ BK233 4 (.int .i64 a1_4) rfl; have hcz33_5 := bc_ BK233 5 (.int .i64 a1_5) rfl; have hfz33_0 := blk_frozen BK233.out 0; have hfz33_1 := blk_frozen BK233.out 1; have hfz33_2 := blk_frozen BK233.out 2; have hfz33_3 := blk_frozen BK233.out 3; have hfz33_4 := blk_frozen BK233.out 4; have hfz33_5 := blk_frozen BK233.out 5) | ((with_reducible refine gate_callee (f := 92) rfl ?_); refine goesL_ (some 35) rfl rfl Try.func92 (by kernel_rfl) rfl #[.int .i64 a1_1] rfl mt_ ?_; (with_reducible refine (impl_Stride.calls a1_1 t239 _ A11.out).mono ?_); rintro e w' ⟨rfl, ⟨nd, rfl⟩⟩; refine ⟨_, rfl, ?_⟩))
      go_ret
      exact ⟨by first | rfl | (simp [errW_none, errW_some] <;> rfl) | (simp [*, errW_none, errW_some] <;> rfl), bf_ HB⟩
    ·rw [if_neg c12] at H
     have c12b0 : decide (t235 ≤ (wrap64 (t234 + (wrap64 (t239 * 2000))))) = false := decide_eq_false c12
     clear c12
     obtain rfl := Option.some.inj H
     go_enter Try.func53, Try.ntmps53
     try go_wp2_with (first | ((with_reducible refine gate_dst (N := 2) rfl ?_); refine box_event ?hg (N := 2) ?hd (cs := #[.int .i64 a0_0, .int .i64 a0_1, .int .i64 a0_2, .int .i64 a0_3, .slice A0_4 l0_4.length c0_4]) (t := 32) ?hr ?_; (case hd => rfl); (case hg => rfl); (case hr => first | (go_simp; done) | (go_simp; rfl)); intro gb232 hg w34 hbox hb; have n0_ := Aside0.mk (below_step (be_ HB) hb); have n1_ := Aside0.mk (hbox); have n2_ := gw_ HB hg; have n3_ := gw_ HB hg; clear HB; have HB := n0_; have BK232 := n1_; have GW232 := n2_; have GE232 := n3_; clear n0_ n1_ n2_ n3_; clear hb hbox hg) | ((with_reducible refine gate_dst (N := 3) rfl ?_); refine box_event ?hg (N := 3) ?hd (cs := #[.int .i64 a1_0, .int .i64 a1_1, .bool a1_2, .int .i64 a1_3, .int .i64 a1_4, .int .i64 a1_5]) (t := 38) ?hr ?_; (case hd => rfl); (case hg => rfl); (case hr => first | (go_simp; done) | (go_simp; rfl)); intro gb233 hg w35 hbox hb; have n0_ := bb_ BK232 hb; have n1_ := Aside0.mk (below_step (bf_ HB) hb); have n2_ := Aside0.mk (hbox); have n3_ := gw_ HB hg; have n4_ := gw_ HB hg; have n5_ := nl_ BK232 hg; have n6_ := ng_ BK232 hg; clear BK232; clear HB; have BK232 := n0_; have HB := n1_; have BK233 := n2_; have GW233 := n3_; have GE233 := n4_; have NB232_233 := n5_; have NB233_232 := n6_; clear n0_ n1_ n2_ n3_ n4_ n5_ n6_; clear hb hbox hg))
     have n0_ := Aside0.mk (blk_drew BK232.out); have n1_ := Aside0.mk (blk_drew BK233.out); have n2_ := Aside0.mk (below_drew1 HB.out); clear BK232; clear BK233; clear HB; have BK232 := n0_; have BK233 := n1_; have HB := n2_; clear n0_ n1_ n2_
     refine start_ (n := 8) (S := fun w' => w'.cell? ⟨gb232, 0, none⟩ = some (.int .i64 a0_0) ∧ w'.cell? ⟨gb232, 1, none⟩ = some (.int .i64 a0_1) ∧ w'.cell? ⟨gb232, 2, none⟩ = some (.int .i64 a0_2) ∧ w'.cell? ⟨gb232, 3, none⟩ = some (.int .i64 a0_3) ∧ w'.cell? ⟨gb232, 4, none⟩ = some (.slice A0_4 l0_4.length c0_4) ∧ w'.cell? ⟨gb233, 0, none⟩ = some (.int .i64 a1_0) ∧ w'.cell? ⟨gb233, 1, none⟩ = some (.int .i64 a1_1) ∧ w'.cell? ⟨gb233, 2, none⟩ = some (.bool a1_2) ∧ w'.cell? ⟨gb233, 3, none⟩ = some (.int .i64 a1_3) ∧ w'.cell? ⟨gb233, 4, none⟩ = some (.int .i64 a1_4) ∧ w'.cell? ⟨gb233, 5, none⟩ = some (.int .i64 a1_5)) (ds := []) (bs 8 0) (by kernel_rfl) rfl rfl ⟨bt_ BK232 0, bt_ BK232 1, bt_ BK232 2, bt_ BK232 3, bt_ BK232 4, bt_ BK233 0, bt_ BK233 1, bt_ BK233 2, bt_ BK233 3, bt_ BK233 4, bt_ BK233 5⟩ (fun hHeld => ?_); refine with_tabW impl_Fair_kidOk.tab1 impl_Fair_kidOk.bits1 (fun HT_ HW_ => ?_)
     generalize w35.drew = w36 at BK232 BK233 HB hHeld ⊢
     refine pure_s (i := 0) (N := some 7) (bs 8 1) (any_of HT_.out (by kernel_rfl)) (h := ?_)
     refine pure_s (i := 3) (N := some 10) #[oT,oF,oF,oT,oF,oF,oF,oF] (any_of HT_.out (by kernel_rfl)) (h := ?_)
     refine take_ (i := 1) (N := some 8) (v := ?_) (a' := ?_) #[oT,oT,oF,oT,oF,oF,oF,oF] rfl rfl (take_ofW HT_.out HW_.out (by kernel_rfl)) (fun _ _ _ h => h) (Or.inl ⟨by rfl, ?_⟩) hHeld ?_ ?_
     rotate_left
     ·rintro w' ⟨s0, s1, s2, s3, s4, s5, s6, s7, s8, s9, s10⟩
      go_simp
      with_reducible rfl
     rotate_left
     ·simp only [Act.put, List.setIfInBounds_toArray, List.set_cons_zero, List.set_cons_succ, i64_w, i32_w]
      rfl
     refine take_ (i := 4) (N := some 11) (v := ?_) (a' := ?_) #[oT,oT,oF,oT,oT,oF,oF,oF] rfl rfl (take_ofW HT_.out HW_.out (by kernel_rfl)) (fun _ _ _ h => h) (Or.inl ⟨by rfl, ?_⟩) hHeld ?_ ?_
     rotate_left
     ·rintro w' ⟨s0, s1, s2, s3, s4, s5, s6, s7, s8, s9, s10⟩
      go_simp
      with_reducible rfl
     rotate_left
     ·simp only [Act.put, List.setIfInBounds_toArray, List.set_cons_zero, List.set_cons_succ, i64_w, i32_w]
      rfl
     refine one_ (i := 2) (N := some 9) (bs 8 5) rfl rfl (one_of HT_.out (by kernel_rfl)) (by decide) (fun K hK => ?_)
     refine goes_ Try.func52 (by kernel_rfl) rfl #[.agg #[.int .i64 a0_1, .int .i64 a0_2, .int .i64 a0_3]] (by rfl) rfl rfl mt_ ?_
     with_reducible refine (impl_VecTop.calls a0_1 a0_2 a0_3 t234 _ A3.out).mono ?_
     rintro e w37 ⟨rfl, hb⟩
     refine ⟨_, rfl, ?_⟩
     have n0_ := bb_ BK232 hb; have n1_ := bb_ BK233 hb; have n2_ := Aside0.mk (below_step (bf_ HB) hb); clear BK232; clear BK233; clear HB; have BK232 := n0_; have BK233 := n1_; have HB := n2_; clear n0_ n1_ n2_; (try clear hb); (try clear hb2); (try clear hk); (try clear hi)
     refine hK.out _ _ ⟨bt_ BK232 0, bt_ BK232 1, bt_ BK232 2, bt_ BK232 3, bt_ BK232 4, bt_ BK233 0, bt_ BK233 1, bt_ BK233 2, bt_ BK233 3, bt_ BK233 4, bt_ BK233 5⟩ (fun hHeld => ?_)
     clear hK K
     refine norm_ (a' := ?_) ?_ ?_
     rotate_left
     ·show Act.put _ (some 9) _ = _
      simp only [Act.put, List.setIfInBounds_toArray, List.set_cons_zero, List.set_cons_succ, i64_w, i32_w]
      rfl
     refine one_ (i := 5) (N := some 12) (bs 8 6) rfl rfl (one_of HT_.out (by kernel_rfl)) (by decide) (fun K hK => ?_)
     refine goes_ Try.func52 (by kernel_rfl) rfl #[.agg #[.int .i64 a1_3, .int .i64 a1_4, .int .i64 a1_5]] (by rfl) rfl rfl mt_ ?_
     with_reducible refine (impl_VecTop.calls a1_3 a1_4 a1_5 t235 _ A4.out).mono ?_
     rintro e w38 ⟨rfl, hb⟩
     refine ⟨_, rfl, ?_⟩
     have n0_ := bb_ BK232 hb; have n1_ := bb_ BK233 hb; have n2_ := Aside0.mk (below_step (bf_ HB) hb); clear BK232; clear BK233; clear HB; have BK232 := n0_; have BK233 := n1_; have HB := n2_; clear n0_ n1_ n2_; (try clear hb); (try clear hb2); (try clear hk); (try clear hi)
     refine hK.out _ _ ⟨bt_ BK232 0, bt_ BK232 1, bt_ BK232 2, bt_ BK232 3, bt_ BK232 4, bt_ BK233 0, bt_ BK233 1, bt_ BK233 2, bt_ BK233 3, bt_ BK233 4, bt_ BK233 5⟩ (fun hHeld => ?_)
     clear hK K
     refine norm_ (a' := ?_) ?_ ?_
     rotate_left
     ·show Act.put _ (some 12) _ = _
      simp only [Act.put, List.setIfInBounds_toArray, List.set_cons_zero, List.set_cons_succ, i64_w, i32_w]
      rfl
     refine pure_s (i := 6) (N := some 5) (bs 8 7) (any_of HT_.out (by kernel_rfl)) (h := ?_)
     refine pure_s (i := 7) (N := some 6) (bs 8 8) (any_of HT_.out (by kernel_rfl)) (h := ?_)
     refine done_ (done_of HT_.out (by kernel_rfl)) ?_
     have hnb39 := NB233_232.out; have hnc39 := NB232_233.out; have hcz40_0 := bc_ BK233 0 (.int .i64 a1_0) rfl; have hcz40_1 := bc_ BK233 1 (.int .i64 a1_1) rfl; have hcz40_2 := bc_ BK233 2 (.bool a1_2) rfl; have hcz40_3 := bc_ BK233 3 (.int .i64 a1_3) rfl; have hcz40_4 := bc_ BK233 4 (.int .i64 a1_4) rfl; have hcz40_5 := bc_ BK233 5 (.int .i64 a1_5) rfl; have hfz40_0 := blk_frozen BK233.out 0; have hfz40_1 := blk_frozen BK233.out 1; have hfz40_2 := blk_frozen BK233.out 2; have hfz40_3 := blk_frozen BK233.out 3; have hfz40_4 := blk_frozen BK233.out 4; have hfz40_5 := blk_frozen BK233.out 5
     try go_wp2_with (first | ((with_reducible refine gate_callee (f := 83) rfl ?_); refine goesL_ (some 15) rfl rfl Try.func83 (by kernel_rfl) rfl #[.int .i64 a1_0] rfl mt_ ?_; (with_reducible refine (impl_isFlow.calls a1_0 true _ A5.out).mono ?_); rintro e w' ⟨rfl, ⟨nd, rfl⟩⟩; refine ⟨_, rfl, ?_⟩) | (go_at_call 84; (with_reducible refine (impl_isWeight.calls a1_1 true _ A7.out).mono ?_); rintro e w' ⟨rfl, ⟨nd, rfl⟩⟩; have hcz41_0 := bc_ BK232 0 (.int .i64 a0_0) rfl; have hcz41_1 := bc_ BK232 1 (.int .i64 a0_1) rfl; have hcz41_2 := bc_ BK232 2 (.int .i64 a0_2) rfl; have hcz41_3 := bc_ BK232 3 (.int .i64 a0_3) rfl; have hcz41_4 := bc_ BK232 4 (.slice A0_4 l0_4.length c0_4) rfl; have hfz41_0 := blk_frozen BK232.out 0; have hfz41_1 := blk_frozen BK232.out 1; have hfz41_2 := blk_frozen BK232.out 2; have hfz41_3 := blk_frozen BK232.out 3; have hfz41_4 := blk_frozen BK232.out 4) | (go_at_call 51; (with_reducible refine (impl_Narrow.calls a1_3 a1_4 a1_5 a0_0 true _ A9.out).mono ?_); rintro e w42 ⟨rfl, hb⟩; have n0_ := bb_ BK232 hb; have n1_ := bb_ BK233 hb; have n2_ := Aside0.mk (below_step (bf_ HB) hb); clear BK232; clear BK233; clear HB; have BK232 := n0_; have BK233 := n1_; have HB := n2_; clear n0_ n1_ n2_; (try clear hb); (try clear hb2); (try clear hk); (try clear hi); have hcz43_0 := bc_ BK233 0 (.int .i64 a1_0) rfl; have hcz43_1 := bc_ BK233 1 (.int .i64 a1_1) rfl; have hcz43_2 := bc_ BK233 2 (.bool a1_2) rfl; have hcz43_3 := bc_ BK233 3 (.int .i64 a1_3) rfl; have hcz43_4 := bc_ BK233 4 (.int .i64 a1_4) rfl; have hcz43_5 := bc_ BK233 5 (.int .i64 a1_5) rfl; have hfz43_0 := blk_frozen BK233.out 0; have hfz43_1 := blk_frozen BK233.out 1; have hfz43_2 := blk_frozen BK233.out 2; have hfz43_3 := blk_frozen BK233.out 3; have hfz43_4 := blk_frozen BK233.out 4; have hfz43_5 := blk_frozen BK233.out 5) | ((with_reducible refine gate_callee (f := 92) rfl ?_); refine goesL_ (some 35) rfl rfl Try.func92 (by kernel_rfl) rfl #[.int .i64 a1_1] rfl mt_ ?_; (with_reducible refine (impl_Stride.calls a1_1 t239 _ A11.out).mono ?_); rintro e w' ⟨rfl, ⟨nd, rfl⟩⟩; refine ⟨_, rfl, ?_⟩))
     go_ret
     exact ⟨by first | rfl | (simp [errW_none, errW_some] <;> rfl) | (simp [*, errW_none, errW_some] <;> rfl), bf_ HB⟩
   ·replace c10 := Bool.eq_false_iff.mpr c10
    subst c10
    have H1 : (some false) = some r := by rw [if_neg (show ¬ (false = true) by decide)] at H; exact H
    clear H
    have H := H1
    clear H1
    obtain rfl := Option.some.inj H
    go_enter Try.func53, Try.ntmps53
    try go_wp2_with (first | ((with_reducible refine gate_dst (N := 2) rfl ?_); refine box_event ?hg (N := 2) ?hd (cs := #[.int .i64 a0_0, .int .i64 a0_1, .int .i64 a0_2, .int .i64 a0_3, .slice A0_4 l0_4.length c0_4]) (t := 32) ?hr ?_; (case hd => rfl); (case hg => rfl); (case hr => first | (go_simp; done) | (go_simp; rfl)); intro gb232 hg w44 hbox hb; have n0_ := Aside0.mk (below_step (be_ HB) hb); have n1_ := Aside0.mk (hbox); have n2_ := gw_ HB hg; have n3_ := gw_ HB hg; clear HB; have HB := n0_; have BK232 := n1_; have GW232 := n2_; have GE232 := n3_; clear n0_ n1_ n2_ n3_; clear hb hbox hg) | ((with_reducible refine gate_dst (N := 3) rfl ?_); refine box_event ?hg (N := 3) ?hd (cs := #[.int .i64 a1_0, .int .i64 a1_1, .bool a1_2, .int .i64 a1_3, .int .i64 a1_4, .int .i64 a1_5]) (t := 38) ?hr ?_; (case hd => rfl); (case hg => rfl); (case hr => first | (go_simp; done) | (go_simp; rfl)); intro gb233 hg w45 hbox hb; have n0_ := bb_ BK232 hb; have n1_ := Aside0.mk (below_step (bf_ HB) hb); have n2_ := Aside0.mk (hbox); have n3_ := gw_ HB hg; have n4_ := gw_ HB hg; have n5_ := nl_ BK232 hg; have n6_ := ng_ BK232 hg; clear BK232; clear HB; have BK232 := n0_; have HB := n1_; have BK233 := n2_; have GW233 := n3_; have GE233 := n4_; have NB232_233 := n5_; have NB233_232 := n6_; clear n0_ n1_ n2_ n3_ n4_ n5_ n6_; clear hb hbox hg))
    have n0_ := Aside0.mk (blk_drew BK232.out); have n1_ := Aside0.mk (blk_drew BK233.out); have n2_ := Aside0.mk (below_drew1 HB.out); clear BK232; clear BK233; clear HB; have BK232 := n0_; have BK233 := n1_; have HB := n2_; clear n0_ n1_ n2_
    refine start_ (n := 8) (S := fun w' => w'.cell? ⟨gb232, 0, none⟩ = some (.int .i64 a0_0) ∧ w'.cell? ⟨gb232, 1, none⟩ = some (.int .i64 a0_1) ∧ w'.cell? ⟨gb232, 2, none⟩ = some (.int .i64 a0_2) ∧ w'.cell? ⟨gb232, 3, none⟩ = some (.int .i64 a0_3) ∧ w'.cell? ⟨gb232, 4, none⟩ = some (.slice A0_4 l0_4.length c0_4) ∧ w'.cell? ⟨gb233, 0, none⟩ = some (.int .i64 a1_0) ∧ w'.cell? ⟨gb233, 1, none⟩ = some (.int .i64 a1_1) ∧ w'.cell? ⟨gb233, 2, none⟩ = some (.bool a1_2) ∧ w'.cell? ⟨gb233, 3, none⟩ = some (.int .i64 a1_3) ∧ w'.cell? ⟨gb233, 4, none⟩ = some (.int .i64 a1_4) ∧ w'.cell? ⟨gb233, 5, none⟩ = some (.int .i64 a1_5)) (ds := []) (bs 8 0) (by kernel_rfl) rfl rfl ⟨bt_ BK232 0, bt_ BK232 1, bt_ BK232 2, bt_ BK232 3, bt_ BK232 4, bt_ BK233 0, bt_ BK233 1, bt_ BK233 2, bt_ BK233 3, bt_ BK233 4, bt_ BK233 5⟩ (fun hHeld => ?_); refine with_tabW impl_Fair_kidOk.tab1 impl_Fair_kidOk.bits1 (fun HT_ HW_ => ?_)
    generalize w45.drew = w46 at BK232 BK233 HB hHeld ⊢
    refine pure_s (i := 0) (N := some 7) (bs 8 1) (any_of HT_.out (by kernel_rfl)) (h := ?_)
    refine pure_s (i := 3) (N := some 10) #[oT,oF,oF,oT,oF,oF,oF,oF] (any_of HT_.out (by kernel_rfl)) (h := ?_)
    refine take_ (i := 1) (N := some 8) (v := ?_) (a' := ?_) #[oT,oT,oF,oT,oF,oF,oF,oF] rfl rfl (take_ofW HT_.out HW_.out (by kernel_rfl)) (fun _ _ _ h => h) (Or.inl ⟨by rfl, ?_⟩) hHeld ?_ ?_
    rotate_left
    ·rintro w' ⟨s0, s1, s2, s3, s4, s5, s6, s7, s8, s9, s10⟩
     go_simp
     with_reducible rfl
    rotate_left
    ·simp only [Act.put, List.setIfInBounds_toArray, List.set_cons_zero, List.set_cons_succ, i64_w, i32_w]
     rfl
    refine take_ (i := 4) (N := some 11) (v := ?_) (a' := ?_) #[oT,oT,oF,oT,oT,oF,oF,oF] rfl rfl (take_ofW HT_.out HW_.out (by kernel_rfl)) (fun _ _ _ h => h) (Or.inl ⟨by rfl, ?_⟩) hHeld ?_ ?_
    rotate_left
    ·rintro w' ⟨s0, s1, s2, s3, s4, s5, s6, s7, s8, s9, s10⟩
     go_simp
     with_reducible rfl
    rotate_left
    ·simp only [Act.put, List.setIfInBounds_toArray, List.set_cons_zero, List.set_cons_succ, i64_w, i32_w]
     rfl
    refine one_ (i := 2) (N := some 9) (bs 8 5) rfl rfl (one_of HT_.out (by kernel_rfl)) (by decide) (fun K hK => ?_)
    refine goes_ Try.func52 (by kernel_rfl) rfl #[.agg #[.int .i64 a0_1, .int .i64 a0_2, .int .i64 a0_3]] (by rfl) rfl rfl mt_ ?_
    with_reducible refine (impl_VecTop.calls a0_1 a0_2 a0_3 t234 _ A3.out).mono ?_
    rintro e w47 ⟨rfl, hb⟩
    refine ⟨_, rfl, ?_⟩
    have n0_ := bb_ BK232 hb; have n1_ := bb_ BK233 hb; have n2_ := Aside0.mk (below_step (bf_ HB) hb); clear BK232; clear BK233; clear HB; have BK232 := n0_; have BK233 := n1_; have HB := n2_; clear n0_ n1_ n2_; (try clear hb); (try clear hb2); (try clear hk); (try clear hi)
    refine hK.out _ _ ⟨bt_ BK232 0, bt_ BK232 1, bt_ BK232 2, bt_ BK232 3, bt_ BK232 4, bt_ BK233 0, bt_ BK233 1, bt_ BK233 2, bt_ BK233 3, bt_ BK233 4, bt_ BK233 5⟩ (fun hHeld => ?_)
    clear hK K
    refine norm_ (a' := ?_) ?_ ?_
    rotate_left
    ·show Act.put _ (some 9) _ = _
     simp only [Act.put, List.setIfInBounds_toArray, List.set_cons_zero, List.set_cons_succ, i64_w, i32_w]
     rfl
    refine one_ (i := 5) (N := some 12) (bs 8 6) rfl rfl (one_of HT_.out (by kernel_rfl)) (by decide) (fun K hK => ?_)
    refine goes_ Try.func52 (by kernel_rfl) rfl #[.agg #[.int .i64 a1_3, .int .i64 a1_4, .int .i64 a1_5]] (by rfl) rfl rfl mt_ ?_
    with_reducible refine (impl_VecTop.calls a1_3 a1_4 a1_5 t235 _ A4.out).mono ?_
    rintro e w48 ⟨rfl, hb⟩
    refine ⟨_, rfl, ?_⟩
    have n0_ := bb_ BK232 hb; have n1_ := bb_ BK233 hb; have n2_ := Aside0.mk (below_step (bf_ HB) hb); clear BK232; clear BK233; clear HB; have BK232 := n0_; have BK233 := n1_; have HB := n2_; clear n0_ n1_ n2_; (try clear hb); (try clear hb2); (try clear hk); (try clear hi)
    refine hK.out _ _ ⟨bt_ BK232 0, bt_ BK232 1, bt_ BK232 2, bt_ BK232 3, bt_ BK232 4, bt_ BK233 0, bt_ BK233 1, bt_ BK233 2, bt_ BK233 3, bt_ BK233 4, bt_ BK233 5⟩ (fun hHeld => ?_)
    clear hK K
    refine norm_ (a' := ?_) ?_ ?_
    rotate_left
    ·show Act.put _ (some 12) _ = _
     simp only [Act.put, List.setIfInBounds_toArray, List.set_cons_zero, List.set_cons_succ, i64_w, i32_w]
     rfl
    refine pure_s (i := 6) (N := some 5) (bs 8 7) (any_of HT_.out (by kernel_rfl)) (h := ?_)
    refine pure_s (i := 7) (N := some 6) (bs 8 8) (any_of HT_.out (by kernel_rfl)) (h := ?_)
    refine done_ (done_of HT_.out (by kernel_rfl)) ?_
    have hnb49 := NB233_232.out; have hnc49 := NB232_233.out; have hcz50_0 := bc_ BK233 0 (.int .i64 a1_0) rfl; have hcz50_1 := bc_ BK233 1 (.int .i64 a1_1) rfl; have hcz50_2 := bc_ BK233 2 (.bool a1_2) rfl; have hcz50_3 := bc_ BK233 3 (.int .i64 a1_3) rfl; have hcz50_4 := bc_ BK233 4 (.int .i64 a1_4) rfl; have hcz50_5 := bc_ BK233 5 (.int .i64 a1_5) rfl; have hfz50_0 := blk_frozen BK233.out 0; have hfz50_1 := blk_frozen BK233.out 1; have hfz50_2 := blk_frozen BK233.out 2; have hfz50_3 := blk_frozen BK233.out 3; have hfz50_4 := blk_frozen BK233.out 4; have hfz50_5 := blk_frozen BK233.out 5
    try go_wp2_with (first | ((with_reducible refine gate_callee (f := 83) rfl ?_); refine goesL_ (some 15) rfl rfl Try.func83 (by kernel_rfl) rfl #[.int .i64 a1_0] rfl mt_ ?_; (with_reducible refine (impl_isFlow.calls a1_0 true _ A5.out).mono ?_); rintro e w' ⟨rfl, ⟨nd, rfl⟩⟩; refine ⟨_, rfl, ?_⟩) | (go_at_call 84; (with_reducible refine (impl_isWeight.calls a1_1 true _ A7.out).mono ?_); rintro e w' ⟨rfl, ⟨nd, rfl⟩⟩; have hcz51_0 := bc_ BK232 0 (.int .i64 a0_0) rfl; have hcz51_1 := bc_ BK232 1 (.int .i64 a0_1) rfl; have hcz51_2 := bc_ BK232 2 (.int .i64 a0_2) rfl; have hcz51_3 := bc_ BK232 3 (.int .i64 a0_3) rfl; have hcz51_4 := bc_ BK232 4 (.slice A0_4 l0_4.length c0_4) rfl; have hfz51_0 := blk_frozen BK232.out 0; have hfz51_1 := blk_frozen BK232.out 1; have hfz51_2 := blk_frozen BK232.out 2; have hfz51_3 := blk_frozen BK232.out 3; have hfz51_4 := blk_frozen BK232.out 4) | (go_at_call 51; (with_reducible refine (impl_Narrow.calls a1_3 a1_4 a1_5 a0_0 false _ A9.out).mono ?_); rintro e w52 ⟨rfl, hb⟩; have n0_ := bb_ BK232 hb; have n1_ := bb_ BK233 hb; have n2_ := Aside0.mk (below_step (bf_ HB) hb); clear BK232; clear BK233; clear HB; have BK232 := n0_; have BK233 := n1_; have HB := n2_; clear n0_ n1_ n2_; (try clear hb); (try clear hb2); (try clear hk); (try clear hi)))
    go_ret
    exact ⟨by first | rfl | (simp [errW_none, errW_some] <;> rfl) | (simp [*, errW_none, errW_some] <;> rfl), bf_ HB⟩
  ·replace c8 := Bool.eq_false_iff.mpr c8
   subst c8
   have H1 : (some false) = some r := by rw [if_neg (show ¬ (false = true) by decide)] at H; exact H
   clear H
   have H := H1
   clear H1
   obtain rfl := Option.some.inj H
   go_enter Try.func53, Try.ntmps53
   try go_wp2_with (first | ((with_reducible refine gate_dst (N := 2) rfl ?_); refine box_event ?hg (N := 2) ?hd (cs := #[.int .i64 a0_0, .int .i64 a0_1, .int .i64 a0_2, .int .i64 a0_3, .slice A0_4 l0_4.length c0_4]) (t := 32) ?hr ?_; (case hd => rfl); (case hg => rfl); (case hr => first | (go_simp; done) | (go_simp; rfl)); intro gb232 hg w53 hbox hb; have n0_ := Aside0.mk (below_step (be_ HB) hb); have n1_ := Aside0.mk (hbox); have n2_ := gw_ HB hg; have n3_ := gw_ HB hg; clear HB; have HB := n0_; have BK232 := n1_; have GW232 := n2_; have GE232 := n3_; clear n0_ n1_ n2_ n3_; clear hb hbox hg) | ((with_reducible refine gate_dst (N := 3) rfl ?_); refine box_event ?hg (N := 3) ?hd (cs := #[.int .i64 a1_0, .int .i64 a1_1, .bool a1_2, .int .i64 a1_3, .int .i64 a1_4, .int .i64 a1_5]) (t := 38) ?hr ?_; (case hd => rfl); (case hg => rfl); (case hr => first | (go_simp; done) | (go_simp; rfl)); intro gb233 hg w54 hbox hb; have n0_ := bb_ BK232 hb; have n1_ := Aside0.mk (below_step (bf_ HB) hb); have n2_ := Aside0.mk (hbox); have n3_ := gw_ HB hg; have n4_ := gw_ HB hg; have n5_ := nl_ BK232 hg; have n6_ := ng_ BK232 hg; clear BK232; clear HB; have BK232 := n0_; have HB := n1_; have BK233 := n2_; have GW233 := n3_; have GE233 := n4_; have NB232_233 := n5_; have NB233_232 := n6_; clear n0_ n1_ n2_ n3_ n4_ n5_ n6_; clear hb hbox hg))
   have n0_ := Aside0.mk (blk_drew BK232.out); have n1_ := Aside0.mk (blk_drew BK233.out); have n2_ := Aside0.mk (below_drew1 HB.out); clear BK232; clear BK233; clear HB; have BK232 := n0_; have BK233 := n1_; have HB := n2_; clear n0_ n1_ n2_
   refine start_ (n := 8) (S := fun w' => w'.cell? ⟨gb232, 0, none⟩ = some (.int .i64 a0_0) ∧ w'.cell? ⟨gb232, 1, none⟩ = some (.int .i64 a0_1) ∧ w'.cell? ⟨gb232, 2, none⟩ = some (.int .i64 a0_2) ∧ w'.cell? ⟨gb232, 3, none⟩ = some (.int .i64 a0_3) ∧ w'.cell? ⟨gb232, 4, none⟩ = some (.slice A0_4 l0_4.length c0_4) ∧ w'.cell? ⟨gb233, 0, none⟩ = some (.int .i64 a1_0) ∧ w'.cell? ⟨gb233, 1, none⟩ = some (.int .i64 a1_1) ∧ w'.cell? ⟨gb233, 2, none⟩ = some (.bool a1_2) ∧ w'.cell? ⟨gb233, 3, none⟩ = some (.int .i64 a1_3) ∧ w'.cell? ⟨gb233, 4, none⟩ = some (.int .i64 a1_4) ∧ w'.cell? ⟨gb233, 5, none⟩ = some (.int .i64 a1_5)) (ds := []) (bs 8 0) (by kernel_rfl) rfl rfl ⟨bt_ BK232 0, bt_ BK232 1, bt_ BK232 2, bt_ BK232 3, bt_ BK232 4, bt_ BK233 0, bt_ BK233 1, bt_ BK233 2, bt_ BK233 3, bt_ BK233 4, bt_ BK233 5⟩ (fun hHeld => ?_); refine with_tabW impl_Fair_kidOk.tab1 impl_Fair_kidOk.bits1 (fun HT_ HW_ => ?_)
   generalize w54.drew = w55 at BK232 BK233 HB hHeld ⊢
   refine pure_s (i := 0) (N := some 7) (bs 8 1) (any_of HT_.out (by kernel_rfl)) (h := ?_)
   refine pure_s (i := 3) (N := some 10) #[oT,oF,oF,oT,oF,oF,oF,oF] (any_of HT_.out (by kernel_rfl)) (h := ?_)
   refine take_ (i := 1) (N := some 8) (v := ?_) (a' := ?_) #[oT,oT,oF,oT,oF,oF,oF,oF] rfl rfl (take_ofW HT_.out HW_.out (by kernel_rfl)) (fun _ _ _ h => h) (Or.inl ⟨by rfl, ?_⟩) hHeld ?_ ?_
   rotate_left
   ·rintro w' ⟨s0, s1, s2, s3, s4, s5, s6, s7, s8, s9, s10⟩
    go_simp
    with_reducible rfl
   rotate_left
   ·simp only [Act.put, List.setIfInBounds_toArray, List.set_cons_zero, List.set_cons_succ, i64_w, i32_w]
    rfl
   refine take_ (i := 4) (N := some 11) (v := ?_) (a' := ?_) #[oT,oT,oF,oT,oT,oF,oF,oF] rfl rfl (take_ofW HT_.out HW_.out (by kernel_rfl)) (fun _ _ _ h => h) (Or.inl ⟨by rfl, ?_⟩) hHeld ?_ ?_
   rotate_left
   ·rintro w' ⟨s0, s1, s2, s3, s4, s5, s6, s7, s8, s9, s10⟩
    go_simp
    with_reducible rfl
   rotate_left
   ·simp only [Act.put, List.setIfInBounds_toArray, List.set_cons_zero, List.set_cons_succ, i64_w, i32_w]
    rfl
   refine one_ (i := 2) (N := some 9) (bs 8 5) rfl rfl (one_of HT_.out (by kernel_rfl)) (by decide) (fun K hK => ?_)
   refine goes_ Try.func52 (by kernel_rfl) rfl #[.agg #[.int .i64 a0_1, .int .i64 a0_2, .int .i64 a0_3]] (by rfl) rfl rfl mt_ ?_
   with_reducible refine (impl_VecTop.calls a0_1 a0_2 a0_3 t234 _ A3.out).mono ?_
   rintro e w56 ⟨rfl, hb⟩
   refine ⟨_, rfl, ?_⟩
   have n0_ := bb_ BK232 hb; have n1_ := bb_ BK233 hb; have n2_ := Aside0.mk (below_step (bf_ HB) hb); clear BK232; clear BK233; clear HB; have BK232 := n0_; have BK233 := n1_; have HB := n2_; clear n0_ n1_ n2_; (try clear hb); (try clear hb2); (try clear hk); (try clear hi)
   refine hK.out _ _ ⟨bt_ BK232 0, bt_ BK232 1, bt_ BK232 2, bt_ BK232 3, bt_ BK232 4, bt_ BK233 0, bt_ BK233 1, bt_ BK233 2, bt_ BK233 3, bt_ BK233 4, bt_ BK233 5⟩ (fun hHeld => ?_)
   clear hK K
   refine norm_ (a' := ?_) ?_ ?_
   rotate_left
   ·show Act.put _ (some 9) _ = _
    simp only [Act.put, List.setIfInBounds_toArray, List.set_cons_zero, List.set_cons_succ, i64_w, i32_w]
    rfl
   refine one_ (i := 5) (N := some 12) (bs 8 6) rfl rfl (one_of HT_.out (by kernel_rfl)) (by decide) (fun K hK => ?_)
   refine goes_ Try.func52 (by kernel_rfl) rfl #[.agg #[.int .i64 a1_3, .int .i64 a1_4, .int .i64 a1_5]] (by rfl) rfl rfl mt_ ?_
   with_reducible refine (impl_VecTop.calls a1_3 a1_4 a1_5 t235 _ A4.out).mono ?_
   rintro e w57 ⟨rfl, hb⟩
   refine ⟨_, rfl, ?_⟩
   have n0_ := bb_ BK232 hb; have n1_ := bb_ BK233 hb; have n2_ := Aside0.mk (below_step (bf_ HB) hb); clear BK232; clear BK233; clear HB; have BK232 := n0_; have BK233 := n1_; have HB := n2_; clear n0_ n1_ n2_; (try clear hb); (try clear hb2); (try clear hk); (try clear hi)
   refine hK.out _ _ ⟨bt_ BK232 0, bt_ BK232 1, bt_ BK232 2, bt_ BK232 3, bt_ BK232 4, bt_ BK233 0, bt_ BK233 1, bt_ BK233 2, bt_ BK233 3, bt_ BK233 4, bt_ BK233 5⟩ (fun hHeld => ?_)
   clear hK K
   refine norm_ (a' := ?_) ?_ ?_
   rotate_left
   ·show Act.put _ (some 12) _ = _
    simp only [Act.put, List.setIfInBounds_toArray, List.set_cons_zero, List.set_cons_succ, i64_w, i32_w]
    rfl
   refine pure_s (i := 6) (N := some 5) (bs 8 7) (any_of HT_.out (by kernel_rfl)) (h := ?_)
   refine pure_s (i := 7) (N := some 6) (bs 8 8) (any_of HT_.out (by kernel_rfl)) (h := ?_)
   refine done_ (done_of HT_.out (by kernel_rfl)) ?_
   have hnb58 := NB233_232.out; have hnc58 := NB232_233.out; have hcz59_0 := bc_ BK233 0 (.int .i64 a1_0) rfl; have hcz59_1 := bc_ BK233 1 (.int .i64 a1_1) rfl; have hcz59_2 := bc_ BK233 2 (.bool a1_2) rfl; have hcz59_3 := bc_ BK233 3 (.int .i64 a1_3) rfl; have hcz59_4 := bc_ BK233 4 (.int .i64 a1_4) rfl; have hcz59_5 := bc_ BK233 5 (.int .i64 a1_5) rfl; have hfz59_0 := blk_frozen BK233.out 0; have hfz59_1 := blk_frozen BK233.out 1; have hfz59_2 := blk_frozen BK233.out 2; have hfz59_3 := blk_frozen BK233.out 3; have hfz59_4 := blk_frozen BK233.out 4; have hfz59_5 := blk_frozen BK233.out 5
   try go_wp2_with (first | ((with_reducible refine gate_callee (f := 83) rfl ?_); refine goesL_ (some 15) rfl rfl Try.func83 (by kernel_rfl) rfl #[.int .i64 a1_0] rfl mt_ ?_; (with_reducible refine (impl_isFlow.calls a1_0 true _ A5.out).mono ?_); rintro e w' ⟨rfl, ⟨nd, rfl⟩⟩; refine ⟨_, rfl, ?_⟩) | (go_at_call 84; (with_reducible refine (impl_isWeight.calls a1_1 false _ A7.out).mono ?_); rintro e w' ⟨rfl, ⟨nd, rfl⟩⟩))
   go_ret
   exact ⟨by first | rfl | (simp [errW_none, errW_some] <;> rfl) | (simp [*, errW_none, errW_some] <;> rfl), bf_ HB⟩
 ·replace c6 := Bool.eq_false_iff.mpr c6
  subst c6
  have H1 : (some false) = some r := by rw [if_neg (show ¬ (false = true) by decide)] at H; exact H
  clear H
  have H := H1
  clear H1
  obtain rfl := Option.some.inj H
  go_enter Try.func53, Try.ntmps53
  try go_wp2_with (first | ((with_reducible refine gate_dst (N := 2) rfl ?_); refine box_event ?hg (N := 2) ?hd (cs := #[.int .i64 a0_0, .int .i64 a0_1, .int .i64 a0_2, .int .i64 a0_3, .slice A0_4 l0_4.length c0_4]) (t := 32) ?hr ?_; (case hd => rfl); (case hg => rfl); (case hr => first | (go_simp; done) | (go_simp; rfl)); intro gb232 hg w60 hbox hb; have n0_ := Aside0.mk (below_step (be_ HB) hb); have n1_ := Aside0.mk (hbox); have n2_ := gw_ HB hg; have n3_ := gw_ HB hg; clear HB; have HB := n0_; have BK232 := n1_; have GW232 := n2_; have GE232 := n3_; clear n0_ n1_ n2_ n3_; clear hb hbox hg) | ((with_reducible refine gate_dst (N := 3) rfl ?_); refine box_event ?hg (N := 3) ?hd (cs := #[.int .i64 a1_0, .int .i64 a1_1, .bool a1_2, .int .i64 a1_3, .int .i64 a1_4, .int .i64 a1_5]) (t := 38) ?hr ?_; (case hd => rfl); (case hg => rfl); (case hr => first | (go_simp; done) | (go_simp; rfl)); intro gb233 hg w61 hbox hb; have n0_ := bb_ BK232 hb; have n1_ := Aside0.mk (below_step (bf_ HB) hb); have n2_ := Aside0.mk (hbox); have n3_ := gw_ HB hg; have n4_ := gw_ HB hg; have n5_ := nl_ BK232 hg; have n6_ := ng_ BK232 hg; clear BK232; clear HB; have BK232 := n0_; have HB := n1_; have BK233 := n2_; have GW233 := n3_; have GE233 := n4_; have NB232_233 := n5_; have NB233_232 := n6_; clear n0_ n1_ n2_ n3_ n4_ n5_ n6_; clear hb hbox hg))
  have n0_ := Aside0.mk (blk_drew BK232.out); have n1_ := Aside0.mk (blk_drew BK233.out); have n2_ := Aside0.mk (below_drew1 HB.out); clear BK232; clear BK233; clear HB; have BK232 := n0_; have BK233 := n1_; have HB := n2_; clear n0_ n1_ n2_
  refine start_ (n := 8) (S := fun w' => w'.cell? ⟨gb232, 0, none⟩ = some (.int .i64 a0_0) ∧ w'.cell? ⟨gb232, 1, none⟩ = some (.int .i64 a0_1) ∧ w'.cell? ⟨gb232, 2, none⟩ = some (.int .i64 a0_2) ∧ w'.cell? ⟨gb232, 3, none⟩ = some (.int .i64 a0_3) ∧ w'.cell? ⟨gb232, 4, none⟩ = some (.slice A0_4 l0_4.length c0_4) ∧ w'.cell? ⟨gb233, 0, none⟩ = some (.int .i64 a1_0) ∧ w'.cell? ⟨gb233, 1, none⟩ = some (.int .i64 a1_1) ∧ w'.cell? ⟨gb233, 2, none⟩ = some (.bool a1_2) ∧ w'.cell? ⟨gb233, 3, none⟩ = some (.int .i64 a1_3) ∧ w'.cell? ⟨gb233, 4, none⟩ = some (.int .i64 a1_4) ∧ w'.cell? ⟨gb233, 5, none⟩ = some (.int .i64 a1_5)) (ds := []) (bs 8 0) (by kernel_rfl) rfl rfl ⟨bt_ BK232 0, bt_ BK232 1, bt_ BK232 2, bt_ BK232 3, bt_ BK232 4, bt_ BK233 0, bt_ BK233 1, bt_ BK233 2, bt_ BK233 3, bt_ BK233 4, bt_ BK233 5⟩ (fun hHeld => ?_); refine with_tabW impl_Fair_kidOk.tab1 impl_Fair_kidOk.bits1 (fun HT_ HW_ => ?_)
  generalize w61.drew = w62 at BK232 BK233 HB hHeld ⊢
  refine pure_s (i := 0) (N := some 7) (bs 8 1) (any_of HT_.out (by kernel_rfl)) (h := ?_)
  refine pure_s (i := 3) (N := some 10) #[oT,oF,oF,oT,oF,oF,oF,oF] (any_of HT_.out (by kernel_rfl)) (h := ?_)
  refine take_ (i := 1) (N := some 8) (v := ?_) (a' := ?_) #[oT,oT,oF,oT,oF,oF,oF,oF] rfl rfl (take_ofW HT_.out HW_.out (by kernel_rfl)) (fun _ _ _ h => h) (Or.inl ⟨by rfl, ?_⟩) hHeld ?_ ?_
  rotate_left
  ·rintro w' ⟨s0, s1, s2, s3, s4, s5, s6, s7, s8, s9, s10⟩
   go_simp
   with_reducible rfl
  rotate_left
  ·simp only [Act.put, List.setIfInBounds_toArray, List.set_cons_zero, List.set_cons_succ, i64_w, i32_w]
   rfl
  refine take_ (i := 4) (N := some 11) (v := ?_) (a' := ?_) #[oT,oT,oF,oT,oT,oF,oF,oF] rfl rfl (take_ofW HT_.out HW_.out (by kernel_rfl)) (fun _ _ _ h => h) (Or.inl ⟨by rfl, ?_⟩) hHeld ?_ ?_
  rotate_left
  ·rintro w' ⟨s0, s1, s2, s3, s4, s5, s6, s7, s8, s9, s10⟩
   go_simp
   with_reducible rfl
  rotate_left
  ·simp only [Act.put, List.setIfInBounds_toArray, List.set_cons_zero, List.set_cons_succ, i64_w, i32_w]
   rfl
  refine one_ (i := 2) (N := some 9) (bs 8 5) rfl rfl (one_of HT_.out (by kernel_rfl)) (by decide) (fun K hK => ?_)
  refine goes_ Try.func52 (by kernel_rfl) rfl #[.agg #[.int .i64 a0_1, .int .i64 a0_2, .int .i64 a0_3]] (by rfl) rfl rfl mt_ ?_
  with_reducible refine (impl_VecTop.calls a0_1 a0_2 a0_3 t234 _ A3.out).mono ?_
  rintro e w63 ⟨rfl, hb⟩
  refine ⟨_, rfl, ?_⟩
  have n0_ := bb_ BK232 hb; have n1_ := bb_ BK233 hb; have n2_ := Aside0.mk (below_step (bf_ HB) hb); clear BK232; clear BK233; clear HB; have BK232 := n0_; have BK233 := n1_; have HB := n2_; clear n0_ n1_ n2_; (try clear hb); (try clear hb2); (try clear hk); (try clear hi)
  refine hK.out _ _ ⟨bt_ BK232 0, bt_ BK232 1, bt_ BK232 2, bt_ BK232 3, bt_ BK232 4, bt_ BK233 0, bt_ BK233 1, bt_ BK233 2, bt_ BK233 3, bt_ BK233 4, bt_ BK233 5⟩ (fun hHeld => ?_)
  clear hK K
  refine norm_ (a' := ?_) ?_ ?_
  rotate_left
  ·show Act.put _ (some 9) _ = _
   simp only [Act.put, List.setIfInBounds_toArray, List.set_cons_zero, List.set_cons_succ, i64_w, i32_w]
   rfl
  refine one_ (i := 5) (N := some 12) (bs 8 6) rfl rfl (one_of HT_.out (by kernel_rfl)) (by decide) (fun K hK => ?_)
  refine goes_ Try.func52 (by kernel_rfl) rfl #[.agg #[.int .i64 a1_3, .int .i64 a1_4, .int .i64 a1_5]] (by rfl) rfl rfl mt_ ?_
  with_reducible refine (impl_VecTop.calls a1_3 a1_4 a1_5 t235 _ A4.out).mono ?_
  rintro e w64 ⟨rfl, hb⟩
  refine ⟨_, rfl, ?_⟩
  have n0_ := bb_ BK232 hb; have n1_ := bb_ BK233 hb; have n2_ := Aside0.mk (below_step (bf_ HB) hb); clear BK232; clear BK233; clear HB; have BK232 := n0_; have BK233 := n1_; have HB := n2_; clear n0_ n1_ n2_; (try clear hb); (try clear hb2); (try clear hk); (try clear hi)
  refine hK.out _ _ ⟨bt_ BK232 0, bt_ BK232 1, bt_ BK232 2, bt_ BK232 3, bt_ BK232 4, bt_ BK233 0, bt_ BK233 1, bt_ BK233 2, bt_ BK233 3, bt_ BK233 4, bt_ BK233 5⟩ (fun hHeld => ?_)
  clear hK K
  refine norm_ (a' := ?_) ?_ ?_
  rotate_left
  ·show Act.put _ (some 12) _ = _
   simp only [Act.put, List.setIfInBounds_toArray, List.set_cons_zero, List.set_cons_succ, i64_w, i32_w]
   rfl
  refine pure_s (i := 6) (N := some 5) (bs 8 7) (any_of HT_.out (by kernel_rfl)) (h := ?_)
  refine pure_s (i := 7) (N := some 6) (bs 8 8) (any_of HT_.out (by kernel_rfl)) (h := ?_)
  refine done_ (done_of HT_.out (by kernel_rfl)) ?_
  have hnb65 := NB233_232.out; have hnc65 := NB232_233.out; have hcz66_0 := bc_ BK233 0 (.int .i64 a1_0) rfl; have hcz66_1 := bc_ BK233 1 (.int .i64 a1_1) rfl; have hcz66_2 := bc_ BK233 2 (.bool a1_2) rfl; have hcz66_3 := bc_ BK233 3 (.int .i64 a1_3) rfl; have hcz66_4 := bc_ BK233 4 (.int .i64 a1_4) rfl; have hcz66_5 := bc_ BK233 5 (.int .i64 a1_5) rfl; have hfz66_0 := blk_frozen BK233.out 0; have hfz66_1 := blk_frozen BK233.out 1; have hfz66_2 := blk_frozen BK233.out 2; have hfz66_3 := blk_frozen BK233.out 3; have hfz66_4 := blk_frozen BK233.out 4; have hfz66_5 := blk_frozen BK233.out 5
  try go_wp2_with (first | ((with_reducible refine gate_callee (f := 83) rfl ?_); refine goesL_ (some 15) rfl rfl Try.func83 (by kernel_rfl) rfl #[.int .i64 a1_0] rfl mt_ ?_; (with_reducible refine (impl_isFlow.calls a1_0 false _ A5.out).mono ?_); rintro e w' ⟨rfl, ⟨nd, rfl⟩⟩; refine ⟨_, rfl, ?_⟩))
  go_ret
  exact ⟨by first | rfl | (simp [errW_none, errW_some] <;> rfl) | (simp [*, errW_none, errW_some] <;> rfl), bf_ HB⟩

end Go.Proofs.Ytljhaoiopokmfaa.PFnExactFairWake
