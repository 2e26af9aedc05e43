-- printed by a program of this session (wip/printx) out of the translation; Lean checks it
import Derived.Test.YtppmbdfbhahngaaVFnExactFairJoin
import Derived.Test.YtppmbdfbhahngaaPFnExactFairJoinx0
import Derived.Test.YtppmbdfbhahngaaPFnExactFairJoinx6
namespace Go.Proofs.Ytppmbdfbhahngaa.PFnExactFairJoin
open Go.RowKit Go.Proofs.YtppmbdfbhahngaaW.PrintWords Go.Proofs.YtppmbdfbhahngaaW.PrintLast Go.Proofs.YtppmbdfbhahngaaW.PrintMore
attribute [local go_sem] max2_int min2_int max_two min_two max_three min_three max_four min_four   -- for this text's walks alone
set_option linter.unusedVariables false
set_option linter.unusedSimpArgs false

/-! ### impl_within: function 71 -/
def impl_within.f (a0 : Int) (a1 : Int) (a2 : Int) : Option (Bool) := if a0 ≥ a1 then (some (decide (a0 ≤ a2))) else (some false)
set_option maxHeartbeats 8000000 in
set_option maxRecDepth 100000 in
theorem impl_within.calls (a0 : Int) (a1 : Int) (a2 : Int) (r : Bool) (w : World) (h : impl_within.f a0 a1 a2 = some r) :
  Calls Try.prog 71 #[.int .i64 a0, .int .i64 a1, .int .i64 a2] w fun e w' => e = .returned (.bool r) ∧ Drawn0 w w' := by
 have H := h
 clear h
 unfold impl_within.f at H
 by_cases c4 : a0 ≥ a1
 ·rw [if_pos c4] at H
  have c4b0 : decide (a1 ≤ a0) = true := decide_eq_true c4
  clear c4
  obtain rfl := Option.some.inj H
  go_enter Try.func71, Try.ntmps71
  go_wp2
  go_ret
  exact ⟨by first | rfl | (simp; done) | (simp [*]; done), by repeat (first | exact Drawn0.refl _ | apply Drawn0.step)⟩
 ·rw [if_neg c4] at H
  have c4b0 : decide (a1 ≤ a0) = false := decide_eq_false c4
  clear c4
  obtain rfl := Option.some.inj H
  go_enter Try.func71, Try.ntmps71
  go_wp2
  go_ret
  exact ⟨by first | rfl | (simp; done) | (simp [*]; done), by repeat (first | exact Drawn0.refl _ | apply Drawn0.step)⟩

/-! ### impl_Vec_isFrom: function 82 -/
def impl_Vec_isFrom.f (a0_0 : Int) (a0_1 : Int) (a0_2 : Int) (a1 : Int) (a2 : Int) : Option (Bool) := (impl_within.f a0_0 a1 a2).bind fun t222 => (if t222 = true then ((impl_within.f a0_1 a1 a2).bind fun t223 => (if t223 = true then ((impl_within.f a0_2 a1 a2).bind fun t224 => (some t224)) else (some false))) else (some false))
set_option maxHeartbeats 8000000 in
set_option maxRecDepth 100000 in
theorem impl_Vec_isFrom.calls (a0_0 : Int) (a0_1 : Int) (a0_2 : Int) (a1 : Int) (a2 : Int) (r : Bool) (w : World) (h : impl_Vec_isFrom.f a0_0 a0_1 a0_2 a1 a2 = some r) :
  Calls Try.prog 82 #[.agg #[.int .i64 a0_0, .int .i64 a0_1, .int .i64 a0_2], .int .i64 a1, .int .i64 a2] w fun e w' => e = .returned (.bool r) ∧ Below w.heap.size w w' := by
 have hu28 := Try.underlying28; have HB := Aside0.mk (Below.refl w.heap.size w)
 have H := h
 clear h
 unfold impl_Vec_isFrom.f at H
 replace H := Option.bind_eq_some_iff.mp H
 obtain ⟨t222, A40, H⟩ := H
 have A4 := Aside0.mk A40
 clear A40
 by_cases c5 : t222 = true
 ·subst c5
  rw [if_pos rfl] at H
  replace H := Option.bind_eq_some_iff.mp H
  obtain ⟨t223, A60, H⟩ := H
  have A6 := Aside0.mk A60
  clear A60
  by_cases c7 : t223 = true
  ·subst c7
   rw [if_pos rfl] at H
   replace H := Option.bind_eq_some_iff.mp H
   obtain ⟨t224, A80, H⟩ := H
   have A8 := Aside0.mk A80
   clear A80
   obtain rfl := Option.some.inj H
   go_enter Try.func82, Try.ntmps82
   go_wp2_with (first | ((with_reducible refine gd_ 3 rfl ?_); refine bv_ 3 #[.int .i64 a0_0, .int .i64 a0_1, .int .i64 a0_2] 28 ?_; intro gb221 hg w9 hbox hb; have BK221 := Aside0.mk (hbox); have GW221 := gw_ HB hg; have GE221 := gw_ HB hg; replace HB := Aside0.mk (below_step (be_ HB) hb); clear hb hbox hg; obtain ⟨hcz10_0, hcz10_1, hcz10_2, hfz10_0, hfz10_1, hfz10_2⟩ := bz3_ BK221) | ((with_reducible refine gc_ 71 rfl ?_); refine gl_ 11 Try.func71 #[.int .i64 a0_0, .int .i64 a1, .int .i64 a2] ?_; (with_reducible refine (impl_within.calls a0_0 a1 a2 true _ A4.out).mono ?_); rintro e w' ⟨rfl, ⟨nd, rfl⟩⟩; refine ⟨_, rfl, ?_⟩) | (go_at_call 71; (with_reducible refine (impl_within.calls a0_1 a1 a2 true _ A6.out).mono ?_); rintro e w' ⟨rfl, ⟨nd, rfl⟩⟩) | (go_at_call 71; (with_reducible refine (impl_within.calls a0_2 a1 a2 t224 _ A8.out).mono ?_); rintro e w' ⟨rfl, ⟨nd, rfl⟩⟩))
   go_ret
   exact ⟨by first | rfl | (simp [errW_none, errW_some] <;> rfl) | (simp [*, errW_none, errW_some] <;> rfl), bf_ HB⟩
  ·replace c7 := Bool.eq_false_iff.mpr c7
   subst c7
   rw [if_neg (show ¬ (false = true) by decide)] at H
   obtain rfl := Option.some.inj H
   go_enter Try.func82, Try.ntmps82
   go_wp2_with (first | ((with_reducible refine gd_ 3 rfl ?_); refine bv_ 3 #[.int .i64 a0_0, .int .i64 a0_1, .int .i64 a0_2] 28 ?_; intro gb221 hg w11 hbox hb; have BK221 := Aside0.mk (hbox); have GW221 := gw_ HB hg; have GE221 := gw_ HB hg; replace HB := Aside0.mk (below_step (be_ HB) hb); clear hb hbox hg; obtain ⟨hcz12_0, hcz12_1, hcz12_2, hfz12_0, hfz12_1, hfz12_2⟩ := bz3_ BK221) | ((with_reducible refine gc_ 71 rfl ?_); refine gl_ 11 Try.func71 #[.int .i64 a0_0, .int .i64 a1, .int .i64 a2] ?_; (with_reducible refine (impl_within.calls a0_0 a1 a2 true _ A4.out).mono ?_); rintro e w' ⟨rfl, ⟨nd, rfl⟩⟩; refine ⟨_, rfl, ?_⟩) | (go_at_call 71; (with_reducible refine (impl_within.calls a0_1 a1 a2 false _ A6.out).mono ?_); rintro e w' ⟨rfl, ⟨nd, rfl⟩⟩))
   go_ret
   exact ⟨by first | rfl | (simp [errW_none, errW_some] <;> rfl) | (simp [*, errW_none, errW_some] <;> rfl), bf_ HB⟩
 ·replace c5 := Bool.eq_false_iff.mpr c5
  subst c5
  rw [if_neg (show ¬ (false = true) by decide)] at H
  obtain rfl := Option.some.inj H
  go_enter Try.func82, Try.ntmps82
  go_wp2_with (first | ((with_reducible refine gd_ 3 rfl ?_); refine bv_ 3 #[.int .i64 a0_0, .int .i64 a0_1, .int .i64 a0_2] 28 ?_; intro gb221 hg w13 hbox hb; have BK221 := Aside0.mk (hbox); have GW221 := gw_ HB hg; have GE221 := gw_ HB hg; replace HB := Aside0.mk (below_step (be_ HB) hb); clear hb hbox hg; obtain ⟨hcz14_0, hcz14_1, hcz14_2, hfz14_0, hfz14_1, hfz14_2⟩ := bz3_ BK221) | ((with_reducible refine gc_ 71 rfl ?_); refine gl_ 11 Try.func71 #[.int .i64 a0_0, .int .i64 a1, .int .i64 a2] ?_; (with_reducible refine (impl_within.calls a0_0 a1 a2 false _ A4.out).mono ?_); rintro e w' ⟨rfl, ⟨nd, rfl⟩⟩; refine ⟨_, rfl, ?_⟩))
  go_ret
  exact ⟨by first | rfl | (simp [errW_none, errW_some] <;> rfl) | (simp [*, errW_none, errW_some] <;> rfl), bf_ HB⟩

/-! ### impl_TagOk: function 80 -/
def impl_TagOk.f (a0_0 : Int) (a0_1 : Int) (a0_2 : Int) : Option (Bool) := (impl_Vec_isFrom.f a0_0 a0_1 a0_2 0 1000000000000).bind fun t226 => (some t226)
set_option maxHeartbeats 8000000 in
set_option maxRecDepth 100000 in
theorem impl_TagOk.calls (a0_0 : Int) (a0_1 : Int) (a0_2 : Int) (r : Bool) (w : World) (h : impl_TagOk.f a0_0 a0_1 a0_2 = some r) :
  Calls Try.prog 80 #[.agg #[.int .i64 a0_0, .int .i64 a0_1, .int .i64 a0_2]] w fun e w' => e = .returned (.bool r) ∧ Below w.heap.size w w' := by
 have hu28 := Try.underlying28; have HB := Aside0.mk (Below.refl w.heap.size w)
 have H := h
 clear h
 unfold impl_TagOk.f at H
 replace H := Option.bind_eq_some_iff.mp H
 obtain ⟨t226, A20, H⟩ := H
 have A2 := Aside0.mk A20
 clear A20
 obtain rfl := Option.some.inj H
 go_enter Try.func80, Try.ntmps80
 go_wp2_with (first | ((with_reducible refine gd_ 1 rfl ?_); refine bv_ 1 #[.int .i64 a0_0, .int .i64 a0_1, .int .i64 a0_2] 28 ?_; intro gb225 hg w3 hbox hb; have BK225 := Aside0.mk (hbox); have GW225 := gw_ HB hg; have GE225 := gw_ HB hg; replace HB := Aside0.mk (below_step (be_ HB) hb); clear hb hbox hg; obtain ⟨hcz4_0, hcz4_1, hcz4_2, hfz4_0, hfz4_1, hfz4_2⟩ := bz3_ BK225) | ((with_reducible refine gc_ 82 rfl ?_); refine gl_ 4 Try.func82 #[.agg #[.int .i64 a0_0, .int .i64 a0_1, .int .i64 a0_2], .int .i64 0, .int .i64 1000000000000] ?_; (with_reducible refine (impl_Vec_isFrom.calls a0_0 a0_1 a0_2 0 1000000000000 t226 _ A2.out).mono ?_); rintro e w5 ⟨rfl, hb⟩; refine ⟨_, rfl, ?_⟩; replace BK225 := bb_ BK225 hb; replace HB := Aside0.mk (below_step (bf_ HB) hb); (try clear hb); (try clear hb2); (try clear hk); (try clear hi)))
 go_ret
 exact ⟨by first | rfl | (simp [errW_none, errW_some] <;> rfl) | (simp [*, errW_none, errW_some] <;> rfl), bf_ HB⟩

/-! ### impl_isDelta: function 81 -/
def impl_isDelta.f (a0 : Int) : Option (Bool) := (impl_within.f a0 0 10000000).bind fun t227 => (some t227)
set_option maxHeartbeats 8000000 in
set_option maxRecDepth 100000 in
theorem impl_isDelta.calls (a0 : Int) (r : Bool) (w : World) (h : impl_isDelta.f a0 = some r) :
  Calls Try.prog 81 #[.int .i64 a0] w fun e w' => e = .returned (.bool r) ∧ Drawn0 w w' := by
 have H := h
 clear h
 unfold impl_isDelta.f at H
 replace H := Option.bind_eq_some_iff.mp H
 obtain ⟨t227, A20, H⟩ := H
 have A2 := Aside0.mk A20
 clear A20
 obtain rfl := Option.some.inj H
 go_enter Try.func81, Try.ntmps81
 go_wp2_with (first | ((with_reducible refine gc_ 71 rfl ?_); refine gl_ 4 Try.func71 #[.int .i64 a0, .int .i64 0, .int .i64 10000000] ?_; (with_reducible refine (impl_within.calls a0 0 10000000 t227 _ A2.out).mono ?_); rintro e w' ⟨rfl, ⟨nd, rfl⟩⟩; refine ⟨_, rfl, ?_⟩))
 go_ret
 exact ⟨by first | rfl | (simp; done) | (simp [*]; done), by repeat (first | exact Drawn0.refl _ | apply Drawn0.step)⟩

/-! ### impl_Narrow: function 51 -/
def impl_Narrow.f (a0_0 : Int) (a0_1 : Int) (a0_2 : Int) (a1 : Int) : Option (Bool) := (impl_TagOk.f a0_0 a0_1 a0_2).bind fun t229 => (if t229 = true then ((impl_isDelta.f a1).bind fun t230 => (if t230 = true then ((impl_VecTop.f a0_0 a0_1 a0_2).bind fun t231 => ((impl_Vec_isFrom.f a0_0 a0_1 a0_2 (wrap64 (t231 - a1)) 1000000000000).bind fun t232 => (some t232))) else (some false))) else (some false))
def impl_Narrow.T1 : Bool × List (List Nat × List Nat) := (true, [([], []), ([0], [0]), ([1, 1], [1]), ([2], [2]), ([3, 2, 2], [2, 3]), ([2, 4], [2, 4]), ([5, 4], [5]), ([6], [6]), ([6], [6]), ([8, 6, 6], [6, 8]), ([6], [6]), ([9, 10, 6], [6, 9, 10]), ([7, 11, 9, 6], [6, 7, 11]), ([6, 12], [6, 12]), ([13, 12, 0, 1, 2, 3, 4, 5, 6, 7, 8, 9, 10, 11, 12, 13], [13])])
def impl_Narrow.B1 : List Nat := [0, 1, 3, 7, 15, 31, 63, 127, 127, 383, 127, 1919, 4095, 8191, 16383]
theorem impl_Narrow.tab1 : rtab .any (opsOf Try.f51 1) = impl_Narrow.T1 := by kernel_rfl
theorem impl_Narrow.bits1 : waitsOk impl_Narrow.T1.2 impl_Narrow.B1 = true := by kernel_rfl
set_option maxHeartbeats 8000000 in
set_option maxRecDepth 100000 in
theorem impl_Narrow.calls (a0_0 : Int) (a0_1 : Int) (a0_2 : Int) (a1 : Int) (r : Bool) (w : World) (h : impl_Narrow.f a0_0 a0_1 a0_2 a1 = some r) :
  Calls Try.prog 51 #[.agg #[.int .i64 a0_0, .int .i64 a0_1, .int .i64 a0_2], .int .i64 a1] w fun e w' => e = .returned (.bool r) ∧ Below w.heap.size w w' := by
 have hu28 := Try.underlying28; have HB := Aside0.mk (Below.refl w.heap.size w)
 have H := h
 clear h
 unfold impl_Narrow.f at H
 replace H := Option.bind_eq_some_iff.mp H
 obtain ⟨t229, A30, H⟩ := H
 have A3 := Aside0.mk A30
 clear A30
 by_cases c4 : t229 = true
 ·subst c4
  rw [if_pos rfl] at H
  replace H := Option.bind_eq_some_iff.mp H
  obtain ⟨t230, A50, H⟩ := H
  have A5 := Aside0.mk A50
  clear A50
  by_cases c6 : t230 = true
  ·subst c6
   rw [if_pos rfl] at H
   replace H := Option.bind_eq_some_iff.mp H
   obtain ⟨t231, A70, H⟩ := H
   have A7 := Aside0.mk A70
   clear A70
   replace H := Option.bind_eq_some_iff.mp H
   obtain ⟨t232, A80, H⟩ := H
   have A8 := Aside0.mk A80
   clear A80
   obtain rfl := Option.some.inj H
   go_enter Try.func51, Try.ntmps51
   try go_wp2_with (first | ((with_reducible refine gd_ 2 rfl ?_); refine bv_ 2 #[.int .i64 a0_0, .int .i64 a0_1, .int .i64 a0_2] 28 ?_; intro gb228 hg w9 hbox hb; have BK228 := Aside0.mk (hbox); have GW228 := gw_ HB hg; have GE228 := gw_ HB hg; replace HB := Aside0.mk (below_step (be_ HB) hb); clear hb hbox hg))
   replace BK228 := Aside0.mk (blk_drew BK228.out); replace HB := Aside0.mk (below_drew1 HB.out)
   refine start_ (n := 15) (S := fun w' => cw_ w' gb228 0 (.int .i64 a0_0) ∧ cw_ w' gb228 1 (.int .i64 a0_1) ∧ cw_ w' gb228 2 (.int .i64 a0_2)) (ds := []) (bs 15 0) (by kernel_rfl) rfl rfl ⟨bt_ BK228 0, bt_ BK228 1, bt_ BK228 2⟩ (fun hHeld => ?_); refine with_tabW impl_Narrow.tab1 impl_Narrow.bits1 (fun HT_ HW_ => ?_)
   generalize w9.drew = w10 at BK228 HB hHeld ⊢
   refine tkn_ HT_ HW_ hHeld ?_
   refine on_ 1 (some 6) (bs 15 2) HT_ (fun K hK => ?_)
   refine gs_ Try.func80 #[.agg #[.int .i64 a0_0, .int .i64 a0_1, .int .i64 a0_2]] ?_
   with_reducible refine (impl_TagOk.calls a0_0 a0_1 a0_2 true _ A3.out).mono ?_
   rintro e w11 ⟨rfl, hb⟩
   refine ⟨_, rfl, ?_⟩
   replace BK228 := bb_ BK228 hb; replace HB := Aside0.mk (below_step (bf_ HB) hb); (try clear hb); (try clear hb2); (try clear hk); (try clear hi)
   refine hK.out _ _ ⟨bt_ BK228 0, bt_ BK228 1, bt_ BK228 2⟩ (fun hHeld => ?_)
   clear hK K
   refine norm_ (a' := ?_) ?_ ?_
   rotate_left
   ·show Act.put _ (some 6) _ = _
    simp only [Act.put, ls0_, ls1_, ls2_, i64_w, i32_w]
    rfl
   iterate 2 (refine psn_ HT_ ?_)
   refine on_ 4 (some 9) (bs 15 5) HT_ (fun K hK => ?_)
   refine gs_ Try.func81 #[.int .i64 a1] ?_
   with_reducible refine (impl_isDelta.calls a1 true _ A5.out).mono ?_
   rintro e w' ⟨rfl, ⟨nd, rfl⟩⟩
   refine ⟨_, rfl, ?_⟩
   refine hK.out _ _ ⟨bt_ BK228 0, bt_ BK228 1, bt_ BK228 2⟩ (fun hHeld => ?_)
   clear hK K
   refine norm_ (a' := ?_) ?_ ?_
   rotate_left
   ·show Act.put _ (some 9) _ = _
    simp only [Act.put, ls0_, ls1_, ls2_, i64_w, i32_w]
    rfl
   iterate 2 (refine psn_ HT_ ?_)
   refine ps_ 10 15 (bm 15 1151) HT_ ?_
   refine tk_ 7 12 (bm 15 1279) HT_ HW_ hHeld ?_
   refine tk_ 8 13 (bm 15 1535) HT_ HW_ hHeld ?_
   refine on_ 9 (some 14) (bs 15 11) HT_ (fun K hK => ?_)
   refine gs_ Try.func52 #[.agg #[.int .i64 a0_0, .int .i64 a0_1, .int .i64 a0_2]] ?_
   with_reducible refine (impl_VecTop.calls a0_0 a0_1 a0_2 t231 _ A7.out).mono ?_
   rintro e w12 ⟨rfl, hb⟩
   refine ⟨_, rfl, ?_⟩
   replace BK228 := bb_ BK228 hb; replace HB := Aside0.mk (below_step (bf_ HB) hb); (try clear hb); (try clear hb2); (try clear hk); (try clear hi)
   refine hK.out _ _ ⟨bt_ BK228 0, bt_ BK228 1, bt_ BK228 2⟩ (fun hHeld => ?_)
   clear hK K
   refine norm_ (a' := ?_) ?_ ?_
   rotate_left
   ·show Act.put _ (some 14) _ = _
    simp only [Act.put, ls0_, ls1_, ls2_, i64_w, i32_w]
    rfl
   refine psn_ HT_ ?_
   refine on_ 12 (some 17) (bs 15 13) HT_ (fun K hK => ?_)
   refine gs_ Try.func82 #[.agg #[.int .i64 a0_0, .int .i64 a0_1, .int .i64 a0_2], .int .i64 (wrap64 (t231 - a1)), .int .i64 1000000000000] ?_
   with_reducible refine (impl_Vec_isFrom.calls a0_0 a0_1 a0_2 (wrap64 (t231 - a1)) 1000000000000 t232 _ A8.out).mono ?_
   rintro e w13 ⟨rfl, hb⟩
   refine ⟨_, rfl, ?_⟩
   replace BK228 := bb_ BK228 hb; replace HB := Aside0.mk (below_step (bf_ HB) hb); (try clear hb); (try clear hb2); (try clear hk); (try clear hi)
   refine hK.out _ _ ⟨bt_ BK228 0, bt_ BK228 1, bt_ BK228 2⟩ (fun hHeld => ?_)
   clear hK K
   refine norm_ (a' := ?_) ?_ ?_
   rotate_left
   ·show Act.put _ (some 17) _ = _
    simp only [Act.put, ls0_, ls1_, ls2_, i64_w, i32_w]
    rfl
   iterate 2 (refine psn_ HT_ ?_)
   refine done_ (done_of HT_.out (by kernel_rfl)) ?_
   try go_wp2
   go_ret
   exact ⟨by first | rfl | (simp [errW_none, errW_some] <;> rfl) | (simp [*, errW_none, errW_some] <;> rfl), bf_ HB⟩
  ·replace c6 := Bool.eq_false_iff.mpr c6
   subst c6
   rw [if_neg (show ¬ (false = true) by decide)] at H
   obtain rfl := Option.some.inj H
   go_enter Try.func51, Try.ntmps51
   try go_wp2_with (first | ((with_reducible refine gd_ 2 rfl ?_); refine bv_ 2 #[.int .i64 a0_0, .int .i64 a0_1, .int .i64 a0_2] 28 ?_; intro gb228 hg w14 hbox hb; have BK228 := Aside0.mk (hbox); have GW228 := gw_ HB hg; have GE228 := gw_ HB hg; replace HB := Aside0.mk (below_step (be_ HB) hb); clear hb hbox hg))
   replace BK228 := Aside0.mk (blk_drew BK228.out); replace HB := Aside0.mk (below_drew1 HB.out)
   refine start_ (n := 15) (S := fun w' => cw_ w' gb228 0 (.int .i64 a0_0) ∧ cw_ w' gb228 1 (.int .i64 a0_1) ∧ cw_ w' gb228 2 (.int .i64 a0_2)) (ds := []) (bs 15 0) (by kernel_rfl) rfl rfl ⟨bt_ BK228 0, bt_ BK228 1, bt_ BK228 2⟩ (fun hHeld => ?_); refine with_tabW impl_Narrow.tab1 impl_Narrow.bits1 (fun HT_ HW_ => ?_)
   generalize w14.drew = w15 at BK228 HB hHeld ⊢
   refine tkn_ HT_ HW_ hHeld ?_
   refine on_ 1 (some 6) (bs 15 2) HT_ (fun K hK => ?_)
   refine gs_ Try.func80 #[.agg #[.int .i64 a0_0, .int .i64 a0_1, .int .i64 a0_2]] ?_
   with_reducible refine (impl_TagOk.calls a0_0 a0_1 a0_2 true _ A3.out).mono ?_
   rintro e w16 ⟨rfl, hb⟩
   refine ⟨_, rfl, ?_⟩
   replace BK228 := bb_ BK228 hb; replace HB := Aside0.mk (below_step (bf_ HB) hb); (try clear hb); (try clear hb2); (try clear hk); (try clear hi)
   refine hK.out _ _ ⟨bt_ BK228 0, bt_ BK228 1, bt_ BK228 2⟩ (fun hHeld => ?_)
   clear hK K
   refine norm_ (a' := ?_) ?_ ?_
   rotate_left
   ·show Act.put _ (some 6) _ = _
    simp only [Act.put, ls0_, ls1_, ls2_, i64_w, i32_w]
    rfl
   iterate 2 (refine psn_ HT_ ?_)
   refine on_ 4 (some 9) (bs 15 5) HT_ (fun K hK => ?_)
   refine gs_ Try.func81 #[.int .i64 a1] ?_
   with_reducible refine (impl_isDelta.calls a1 false _ A5.out).mono ?_
   rintro e w' ⟨rfl, ⟨nd, rfl⟩⟩
   refine ⟨_, rfl, ?_⟩
   refine hK.out _ _ ⟨bt_ BK228 0, bt_ BK228 1, bt_ BK228 2⟩ (fun hHeld => ?_)
   clear hK K
   refine norm_ (a' := ?_) ?_ ?_
   rotate_left
   ·show Act.put _ (some 9) _ = _
    simp only [Act.put, ls0_, ls1_, ls2_, i64_w, i32_w]
    rfl
   iterate 2 (refine psn_ HT_ ?_)
   iterate 6 (refine pun_ HT_ ?_)
   iterate 2 (refine psn_ HT_ ?_)
   refine done_ (done_of HT_.out (by kernel_rfl)) ?_
   try go_wp2
   go_ret
   exact ⟨by first | rfl | (simp [errW_none, errW_some] <;> rfl) | (simp [*, errW_none, errW_some] <;> rfl), bf_ HB⟩
 ·replace c4 := Bool.eq_false_iff.mpr c4
  subst c4
  rw [if_neg (show ¬ (false = true) by decide)] at H
  obtain rfl := Option.some.inj H
  go_enter Try.func51, Try.ntmps51
  try go_wp2_with (first | ((with_reducible refine gd_ 2 rfl ?_); refine bv_ 2 #[.int .i64 a0_0, .int .i64 a0_1, .int .i64 a0_2] 28 ?_; intro gb228 hg w17 hbox hb; have BK228 := Aside0.mk (hbox); have GW228 := gw_ HB hg; have GE228 := gw_ HB hg; replace HB := Aside0.mk (below_step (be_ HB) hb); clear hb hbox hg))
  replace BK228 := Aside0.mk (blk_drew BK228.out); replace HB := Aside0.mk (below_drew1 HB.out)
  refine start_ (n := 15) (S := fun w' => cw_ w' gb228 0 (.int .i64 a0_0) ∧ cw_ w' gb228 1 (.int .i64 a0_1) ∧ cw_ w' gb228 2 (.int .i64 a0_2)) (ds := []) (bs 15 0) (by kernel_rfl) rfl rfl ⟨bt_ BK228 0, bt_ BK228 1, bt_ BK228 2⟩ (fun hHeld => ?_); refine with_tabW impl_Narrow.tab1 impl_Narrow.bits1 (fun HT_ HW_ => ?_)
  generalize w17.drew = w18 at BK228 HB hHeld ⊢
  refine tkn_ HT_ HW_ hHeld ?_
  refine on_ 1 (some 6) (bs 15 2) HT_ (fun K hK => ?_)
  refine gs_ Try.func80 #[.agg #[.int .i64 a0_0, .int .i64 a0_1, .int .i64 a0_2]] ?_
  with_reducible refine (impl_TagOk.calls a0_0 a0_1 a0_2 false _ A3.out).mono ?_
  rintro e w19 ⟨rfl, hb⟩
  refine ⟨_, rfl, ?_⟩
  replace BK228 := bb_ BK228 hb; replace HB := Aside0.mk (below_step (bf_ HB) hb); (try clear hb); (try clear hb2); (try clear hk); (try clear hi)
  refine hK.out _ _ ⟨bt_ BK228 0, bt_ BK228 1, bt_ BK228 2⟩ (fun hHeld => ?_)
  clear hK K
  refine norm_ (a' := ?_) ?_ ?_
  rotate_left
  ·show Act.put _ (some 6) _ = _
   simp only [Act.put, ls0_, ls1_, ls2_, i64_w, i32_w]
   rfl
  refine psn_ HT_ ?_
  iterate 2 (refine pun_ HT_ ?_)
  iterate 2 (refine psn_ HT_ ?_)
  iterate 6 (refine pun_ HT_ ?_)
  iterate 2 (refine psn_ HT_ ?_)
  refine done_ (done_of HT_.out (by kernel_rfl)) ?_
  try go_wp2
  go_ret
  exact ⟨by first | rfl | (simp [errW_none, errW_some] <;> rfl) | (simp [*, errW_none, errW_some] <;> rfl), bf_ HB⟩

/-! ### impl_isFlow: function 44 -/
def impl_isFlow.f (a0 : Int) : Option (Bool) := (impl_within.f a0 0 9999).bind fun t233 => (some t233)
set_option maxHeartbeats 8000000 in
set_option maxRecDepth 100000 in
theorem impl_isFlow.calls (a0 : Int) (r : Bool) (w : World) (h : impl_isFlow.f a0 = some r) :
  Calls Try.prog 44 #[.int .i64 a0] w fun e w' => e = .returned (.bool r) ∧ Drawn0 w w' := by
 have H := h
 clear h
 unfold impl_isFlow.f at H
 replace H := Option.bind_eq_some_iff.mp H
 obtain ⟨t233, A20, H⟩ := H
 have A2 := Aside0.mk A20
 clear A20
 obtain rfl := Option.some.inj H
 go_enter Try.func44, Try.ntmps44
 go_wp2_with (first | ((with_reducible refine gc_ 71 rfl ?_); refine gl_ 4 Try.func71 #[.int .i64 a0, .int .i64 0, .int .i64 9999] ?_; (with_reducible refine (impl_within.calls a0 0 9999 t233 _ A2.out).mono ?_); rintro e w' ⟨rfl, ⟨nd, rfl⟩⟩; refine ⟨_, rfl, ?_⟩))
 go_ret
 exact ⟨by first | rfl | (simp; done) | (simp [*]; done), by repeat (first | exact Drawn0.refl _ | apply Drawn0.step)⟩

/-! ### impl_isWeight: function 45 -/
def impl_isWeight.f (a0 : Int) : Option (Bool) := (impl_within.f a0 1 10).bind fun t234 => (some t234)
set_option maxHeartbeats 8000000 in
set_option maxRecDepth 100000 in
theorem impl_isWeight.calls (a0 : Int) (r : Bool) (w : World) (h : impl_isWeight.f a0 = some r) :
  Calls Try.prog 45 #[.int .i64 a0] w fun e w' => e = .returned (.bool r) ∧ Drawn0 w w' := by
 have H := h
 clear h
 unfold impl_isWeight.f at H
 replace H := Option.bind_eq_some_iff.mp H
 obtain ⟨t234, A20, H⟩ := H
 have A2 := Aside0.mk A20
 clear A20
 obtain rfl := Option.some.inj H
 go_enter Try.func45, Try.ntmps45
 go_wp2_with (first | ((with_reducible refine gc_ 71 rfl ?_); refine gl_ 4 Try.func71 #[.int .i64 a0, .int .i64 1, .int .i64 10] ?_; (with_reducible refine (impl_within.calls a0 1 10 t234 _ A2.out).mono ?_); rintro e w' ⟨rfl, ⟨nd, rfl⟩⟩; refine ⟨_, rfl, ?_⟩))
 go_ret
 exact ⟨by first | rfl | (simp; done) | (simp [*]; done), by repeat (first | exact Drawn0.refl _ | apply Drawn0.step)⟩

/-! ### impl_Stride: function 83 -/
def impl_Stride.f (a0 : Int) : Option (Int) := (impl_isWeight.f a0).bind fun t235 => (if t235 = true then (if a0 = 0 then (none) else (some (wrap64 ((2520 : Int) / a0)))) else (some 0))
set_option maxHeartbeats 8000000 in
set_option maxRecDepth 100000 in
theorem impl_Stride.calls (a0 : Int) (r : Int) (w : World) (h : impl_Stride.f a0 = some r) :
  Calls Try.prog 83 #[.int .i64 a0] w fun e w' => e = .returned (.int .i64 r) ∧ Drawn0 w w' := by
 have H := h
 clear h
 unfold impl_Stride.f at H
 replace H := Option.bind_eq_some_iff.mp H
 obtain ⟨t235, A20, H⟩ := H
 have A2 := Aside0.mk A20
 clear A20
 by_cases c3 : t235 = true
 ·subst c3
  rw [if_pos rfl] at H
  by_cases c4 : a0 = 0
  ·rw [if_pos c4] at H
   exact absurd H (by simp)
  ·rw [if_neg c4] at H
   have c4b0 : (a0 == 0) = false := beq_eq_false_iff_ne.mpr c4
   have c4b1 : (a0 != 0) = true := bne_iff_ne.mpr c4
   obtain rfl := Option.some.inj H
   go_enter Try.func83, Try.ntmps83
   go_wp2_with (first | ((with_reducible refine gc_ 45 rfl ?_); refine gl_ 4 Try.func45 #[.int .i64 a0] ?_; (with_reducible refine (impl_isWeight.calls a0 true _ A2.out).mono ?_); rintro e w' ⟨rfl, ⟨nd, rfl⟩⟩; refine ⟨_, rfl, ?_⟩))
   go_ret
   exact ⟨by first | rfl | (simp; rw [Int.tdiv_eq_ediv_of_nonneg] <;> first | decide | omega) | (simp; done) | (simp [*]; done), by repeat (first | exact Drawn0.refl _ | apply Drawn0.step)⟩
 ·replace c3 := Bool.eq_false_iff.mpr c3
  subst c3
  rw [if_neg (show ¬ (false = true) by decide)] at H
  obtain rfl := Option.some.inj H
  go_enter Try.func83, Try.ntmps83
  go_wp2_with (first | ((with_reducible refine gc_ 45 rfl ?_); refine gl_ 4 Try.func45 #[.int .i64 a0] ?_; (with_reducible refine (impl_isWeight.calls a0 false _ A2.out).mono ?_); rintro e w' ⟨rfl, ⟨nd, rfl⟩⟩; refine ⟨_, rfl, ?_⟩))
  go_ret
  exact ⟨by first | rfl | (simp; rw [Int.tdiv_eq_ediv_of_nonneg] <;> first | decide | omega) | (simp; done) | (simp [*]; done), by repeat (first | exact Drawn0.refl _ | apply Drawn0.step)⟩

/-! ### impl_Fair_kidOk: function 53 -/
def impl_Fair_kidOk.f (a0_0 : Int) (a0_1 : Int) (a0_2 : Int) (a0_3 : Int) (l0_4 : List (S46)) (a1_0 : Int) (a1_1 : Int) (a1_2 : Bool) (a1_3 : Int) (a1_4 : Int) (a1_5 : Int) : Option (Bool) := (impl_VecTop.f a0_1 a0_2 a0_3).bind fun t238 => ((impl_VecTop.f a1_3 a1_4 a1_5).bind fun t239 => ((impl_isFlow.f a1_0).bind fun t240 => (if t240 = true then ((impl_isWeight.f a1_1).bind fun t241 => (if t241 = true then ((impl_Narrow.f a1_3 a1_4 a1_5 a0_0).bind fun t242 => (if t242 = true then ((impl_Stride.f a1_1).bind fun t243 => (if t239 ≤ (wrap64 (t238 + (wrap64 (t243 * 2000)))) then (if a1_2 = true then (some (decide (t239 ≥ t238))) else (some true)) else (some false))) else (some false))) else (some false))) else (some false))))
def impl_Fair_kidOk.T1 : Bool × List (List Nat × List Nat) := (true, [([], []), ([0], [0]), ([1], [1]), ([], []), ([3], [3]), ([4, 2], [4]), ([2, 5, 0, 1, 2], [2]), ([5, 6, 0, 1, 2, 3, 4, 5, 6], [5])])
def impl_Fair_kidOk.B1 : List Nat := [0, 1, 3, 0, 8, 31, 63, 127]
theorem impl_Fair_kidOk.tab1 : rtab .any (opsOf Try.f53 1) = impl_Fair_kidOk.T1 := by kernel_rfl
theorem impl_Fair_kidOk.bits1 : waitsOk impl_Fair_kidOk.T1.2 impl_Fair_kidOk.B1 = true := by kernel_rfl
set_option maxHeartbeats 8000000 in
set_option maxRecDepth 100000 in
theorem impl_Fair_kidOk.calls (a0_0 : Int) (a0_1 : Int) (a0_2 : Int) (a0_3 : Int) (A0_4 : Option Addr) (c0_4 : Nat) (l0_4 : List (S46)) (a1_0 : Int) (a1_1 : Int) (a1_2 : Bool) (a1_3 : Int) (a1_4 : Int) (a1_5 : Int) (r : Bool) (w : World) (hr0_4 : Kd.C k46 w A0_4 l0_4.length l0_4) (hc0_4 : l0_4.length ≤ c0_4) (h : impl_Fair_kidOk.f a0_0 a0_1 a0_2 a0_3 l0_4 a1_0 a1_1 a1_2 a1_3 a1_4 a1_5 = some r) :
  Calls Try.prog 53 #[.agg #[.int .i64 a0_0, .int .i64 a0_1, .int .i64 a0_2, .int .i64 a0_3, .slice A0_4 l0_4.length c0_4], .agg #[.int .i64 a1_0, .int .i64 a1_1, .bool a1_2, .int .i64 a1_3, .int .i64 a1_4, .int .i64 a1_5]] w fun e w' => e = .returned (.bool r) ∧ Below w.heap.size w w' := by
 have hu31 := Try.underlying31; have hu46 := Try.underlying46; have hu28 := Try.underlying28
 have HR0_4 := Aside0.mk hr0_4
 have HC0_4 := Aside0.mk hc0_4
 clear hr0_4 hc0_4; have HB := Aside0.mk (Below.refl w.heap.size w)
 have H := h
 clear h
 unfold impl_Fair_kidOk.f at H
 replace H := Option.bind_eq_some_iff.mp H
 obtain ⟨t238, A30, H⟩ := H
 have A3 := Aside0.mk A30
 clear A30
 replace H := Option.bind_eq_some_iff.mp H
 obtain ⟨t239, A40, H⟩ := H
 have A4 := Aside0.mk A40
 clear A40
 replace H := Option.bind_eq_some_iff.mp H
 obtain ⟨t240, A50, H⟩ := H
 have A5 := Aside0.mk A50
 clear A50
 by_cases c6 : t240 = true
 ·subst c6
  rw [if_pos rfl] at H
  replace H := Option.bind_eq_some_iff.mp H
  obtain ⟨t241, A70, H⟩ := H
  have A7 := Aside0.mk A70
  clear A70
  by_cases c8 : t241 = true
  ·subst c8
   rw [if_pos rfl] at H
   replace H := Option.bind_eq_some_iff.mp H
   obtain ⟨t242, A90, H⟩ := H
   have A9 := Aside0.mk A90
   clear A90
   by_cases c10 : t242 = true
   ·subst c10
    rw [if_pos rfl] at H
    replace H := Option.bind_eq_some_iff.mp H
    obtain ⟨t243, A110, H⟩ := H
    have A11 := Aside0.mk A110
    clear A110
    by_cases c12 : t239 ≤ (wrap64 (t238 + (wrap64 (t243 * 2000))))
    ·rw [if_pos c12] at H
     have c12b0 : decide (t239 ≤ (wrap64 (t238 + (wrap64 (t243 * 2000))))) = true := decide_eq_true c12
     clear c12
     by_cases c13 : a1_2 = true
     ·subst c13
      rw [if_pos rfl] at H
      obtain rfl := Option.some.inj H
      go_enter Try.func53, Try.ntmps53
      try go_wp2_with (first | ((with_reducible refine gd_ 2 rfl ?_); refine bv_ 2 #[.int .i64 a0_0, .int .i64 a0_1, .int .i64 a0_2, .int .i64 a0_3, .slice A0_4 l0_4.length c0_4] 31 ?_; intro gb236 hg w14 hbox hb; have BK236 := Aside0.mk (hbox); have GW236 := gw_ HB hg; have GE236 := gw_ HB hg; replace HB := Aside0.mk (below_step (be_ HB) hb); clear hb hbox hg) | ((with_reducible refine gd_ 3 rfl ?_); refine bv_ 3 #[.int .i64 a1_0, .int .i64 a1_1, .bool true, .int .i64 a1_3, .int .i64 a1_4, .int .i64 a1_5] 46 ?_; intro gb237 hg w15 hbox hb; have BK237 := Aside0.mk (hbox); have GW237 := gw_ HB hg; have GE237 := gw_ HB hg; replace HB := Aside0.mk (below_step (bf_ HB) hb); have NB236_237 := nl_ BK236 hg; have NB237_236 := ng_ BK236 hg; replace BK236 := bb_ BK236 hb; clear hb hbox hg))
      replace BK236 := Aside0.mk (blk_drew BK236.out); replace BK237 := Aside0.mk (blk_drew BK237.out); replace HB := Aside0.mk (below_drew1 HB.out)
      refine start_ (n := 8) (S := fun w' => cw_ w' gb236 0 (.int .i64 a0_0) ∧ cw_ w' gb236 1 (.int .i64 a0_1) ∧ cw_ w' gb236 2 (.int .i64 a0_2) ∧ cw_ w' gb236 3 (.int .i64 a0_3) ∧ cw_ w' gb236 4 (.slice A0_4 l0_4.length c0_4) ∧ cw_ w' gb237 0 (.int .i64 a1_0) ∧ cw_ w' gb237 1 (.int .i64 a1_1) ∧ cw_ w' gb237 2 (.bool true) ∧ cw_ w' gb237 3 (.int .i64 a1_3) ∧ cw_ w' gb237 4 (.int .i64 a1_4) ∧ cw_ w' gb237 5 (.int .i64 a1_5)) (ds := []) (bs 8 0) (by kernel_rfl) rfl rfl ⟨bt_ BK236 0, bt_ BK236 1, bt_ BK236 2, bt_ BK236 3, bt_ BK236 4, bt_ BK237 0, bt_ BK237 1, bt_ BK237 2, bt_ BK237 3, bt_ BK237 4, bt_ BK237 5⟩ (fun hHeld => ?_); refine with_tabW impl_Fair_kidOk.tab1 impl_Fair_kidOk.bits1 (fun HT_ HW_ => ?_)
      generalize w15.drew = w16 at BK236 BK237 HB hHeld ⊢
      refine psn_ HT_ ?_
      refine ps_ 3 10 (bm 8 9) HT_ ?_
      refine tk_ 1 8 (bm 8 11) HT_ HW_ hHeld ?_
      refine tk_ 4 11 (bm 8 27) HT_ HW_ hHeld ?_
      refine on_ 2 (some 9) (bs 8 5) HT_ (fun K hK => ?_)
      refine gs_ Try.func52 #[.agg #[.int .i64 a0_1, .int .i64 a0_2, .int .i64 a0_3]] ?_
      with_reducible refine (impl_VecTop.calls a0_1 a0_2 a0_3 t238 _ A3.out).mono ?_
      rintro e w17 ⟨rfl, hb⟩
      refine ⟨_, rfl, ?_⟩
      replace BK236 := bb_ BK236 hb; replace BK237 := bb_ BK237 hb; replace HB := Aside0.mk (below_step (bf_ HB) hb); (try clear hb); (try clear hb2); (try clear hk); (try clear hi)
      refine hK.out _ _ ⟨bt_ BK236 0, bt_ BK236 1, bt_ BK236 2, bt_ BK236 3, bt_ BK236 4, bt_ BK237 0, bt_ BK237 1, bt_ BK237 2, bt_ BK237 3, bt_ BK237 4, bt_ BK237 5⟩ (fun hHeld => ?_)
      clear hK K
      refine norm_ (a' := ?_) ?_ ?_
      rotate_left
      ·show Act.put _ (some 9) _ = _
       simp only [Act.put, ls0_, ls1_, ls2_, i64_w, i32_w]
       rfl
      refine on_ 5 (some 12) (bs 8 6) HT_ (fun K hK => ?_)
      refine gs_ Try.func52 #[.agg #[.int .i64 a1_3, .int .i64 a1_4, .int .i64 a1_5]] ?_
      with_reducible refine (impl_VecTop.calls a1_3 a1_4 a1_5 t239 _ A4.out).mono ?_
      rintro e w18 ⟨rfl, hb⟩
      refine ⟨_, rfl, ?_⟩
      replace BK236 := bb_ BK236 hb; replace BK237 := bb_ BK237 hb; replace HB := Aside0.mk (below_step (bf_ HB) hb); (try clear hb); (try clear hb2); (try clear hk); (try clear hi)
      refine hK.out _ _ ⟨bt_ BK236 0, bt_ BK236 1, bt_ BK236 2, bt_ BK236 3, bt_ BK236 4, bt_ BK237 0, bt_ BK237 1, bt_ BK237 2, bt_ BK237 3, bt_ BK237 4, bt_ BK237 5⟩ (fun hHeld => ?_)
      clear hK K
      refine norm_ (a' := ?_) ?_ ?_
      rotate_left
      ·show Act.put _ (some 12) _ = _
       simp only [Act.put, ls0_, ls1_, ls2_, i64_w, i32_w]
       rfl
      iterate 2 (refine psn_ HT_ ?_)
      refine done_ (done_of HT_.out (by kernel_rfl)) ?_
      have hnb19 := NB237_236.out; have hnc19 := NB236_237.out; obtain ⟨hcz20_0, hcz20_1, hcz20_2, hcz20_3, hcz20_4, hcz20_5, hfz20_0, hfz20_1, hfz20_2, hfz20_3, hfz20_4, hfz20_5⟩ := bz6_ BK237
      try go_wp2_with (first | ((with_reducible refine gc_ 44 rfl ?_); refine gl_ 15 Try.func44 #[.int .i64 a1_0] ?_; (with_reducible refine (impl_isFlow.calls a1_0 true _ A5.out).mono ?_); rintro e w' ⟨rfl, ⟨nd, rfl⟩⟩; refine ⟨_, rfl, ?_⟩) | (go_at_call 45; (with_reducible refine (impl_isWeight.calls a1_1 true _ A7.out).mono ?_); rintro e w' ⟨rfl, ⟨nd, rfl⟩⟩; obtain ⟨hcz21_0, hcz21_1, hcz21_2, hcz21_3, hcz21_4, hfz21_0, hfz21_1, hfz21_2, hfz21_3, hfz21_4⟩ := bz5_ BK236) | (go_at_call 51; (with_reducible refine (impl_Narrow.calls a1_3 a1_4 a1_5 a0_0 true _ A9.out).mono ?_); rintro e w22 ⟨rfl, hb⟩; replace BK236 := bb_ BK236 hb; replace BK237 := bb_ BK237 hb; replace HB := Aside0.mk (below_step (bf_ HB) hb); (try clear hb); (try clear hb2); (try clear hk); (try clear hi); obtain ⟨hcz23_0, hcz23_1, hcz23_2, hcz23_3, hcz23_4, hcz23_5, hfz23_0, hfz23_1, hfz23_2, hfz23_3, hfz23_4, hfz23_5⟩ := bz6_ BK237) | ((with_reducible refine gc_ 83 rfl ?_); refine gl_ 35 Try.func83 #[.int .i64 a1_1] ?_; (with_reducible refine (impl_Stride.calls a1_1 t243 _ A11.out).mono ?_); rintro e w' ⟨rfl, ⟨nd, rfl⟩⟩; refine ⟨_, rfl, ?_⟩))
      go_ret
      exact ⟨by first | rfl | (simp [errW_none, errW_some] <;> rfl) | (simp [*, errW_none, errW_some] <;> rfl), bf_ HB⟩
     ·replace c13 := Bool.eq_false_iff.mpr c13
      subst c13
      rw [if_neg (show ¬ (false = true) by decide)] at H
      obtain rfl := Option.some.inj H
      go_enter Try.func53, Try.ntmps53
      try go_wp2_with (first | ((with_reducible refine gd_ 2 rfl ?_); refine bv_ 2 #[.int .i64 a0_0, .int .i64 a0_1, .int .i64 a0_2, .int .i64 a0_3, .slice A0_4 l0_4.length c0_4] 31 ?_; intro gb236 hg w24 hbox hb; have BK236 := Aside0.mk (hbox); have GW236 := gw_ HB hg; have GE236 := gw_ HB hg; replace HB := Aside0.mk (below_step (be_ HB) hb); clear hb hbox hg) | ((with_reducible refine gd_ 3 rfl ?_); refine bv_ 3 #[.int .i64 a1_0, .int .i64 a1_1, .bool false, .int .i64 a1_3, .int .i64 a1_4, .int .i64 a1_5] 46 ?_; intro gb237 hg w25 hbox hb; have BK237 := Aside0.mk (hbox); have GW237 := gw_ HB hg; have GE237 := gw_ HB hg; replace HB := Aside0.mk (below_step (bf_ HB) hb); have NB236_237 := nl_ BK236 hg; have NB237_236 := ng_ BK236 hg; replace BK236 := bb_ BK236 hb; clear hb hbox hg))
      replace BK236 := Aside0.mk (blk_drew BK236.out); replace BK237 := Aside0.mk (blk_drew BK237.out); replace HB := Aside0.mk (below_drew1 HB.out)
      refine start_ (n := 8) (S := fun w' => cw_ w' gb236 0 (.int .i64 a0_0) ∧ cw_ w' gb236 1 (.int .i64 a0_1) ∧ cw_ w' gb236 2 (.int .i64 a0_2) ∧ cw_ w' gb236 3 (.int .i64 a0_3) ∧ cw_ w' gb236 4 (.slice A0_4 l0_4.length c0_4) ∧ cw_ w' gb237 0 (.int .i64 a1_0) ∧ cw_ w' gb237 1 (.int .i64 a1_1) ∧ cw_ w' gb237 2 (.bool false) ∧ cw_ w' gb237 3 (.int .i64 a1_3) ∧ cw_ w' gb237 4 (.int .i64 a1_4) ∧ cw_ w' gb237 5 (.int .i64 a1_5)) (ds := []) (bs 8 0) (by kernel_rfl) rfl rfl ⟨bt_ BK236 0, bt_ BK236 1, bt_ BK236 2, bt_ BK236 3, bt_ BK236 4, bt_ BK237 0, bt_ BK237 1, bt_ BK237 2, bt_ BK237 3, bt_ BK237 4, bt_ BK237 5⟩ (fun hHeld => ?_); refine with_tabW impl_Fair_kidOk.tab1 impl_Fair_kidOk.bits1 (fun HT_ HW_ => ?_)
      generalize w25.drew = w26 at BK236 BK237 HB hHeld ⊢
      refine psn_ HT_ ?_
      refine ps_ 3 10 (bm 8 9) HT_ ?_
      refine tk_ 1 8 (bm 8 11) HT_ HW_ hHeld ?_
      refine tk_ 4 11 (bm 8 27) HT_ HW_ hHeld ?_
      refine on_ 2 (some 9) (bs 8 5) HT_ (fun K hK => ?_)
      refine gs_ Try.func52 #[.agg #[.int .i64 a0_1, .int .i64 a0_2, .int .i64 a0_3]] ?_
      with_reducible refine (impl_VecTop.calls a0_1 a0_2 a0_3 t238 _ A3.out).mono ?_
      rintro e w27 ⟨rfl, hb⟩
      refine ⟨_, rfl, ?_⟩
      replace BK236 := bb_ BK236 hb; replace BK237 := bb_ BK237 hb; replace HB := Aside0.mk (below_step (bf_ HB) hb); (try clear hb); (try clear hb2); (try clear hk); (try clear hi)
      refine hK.out _ _ ⟨bt_ BK236 0, bt_ BK236 1, bt_ BK236 2, bt_ BK236 3, bt_ BK236 4, bt_ BK237 0, bt_ BK237 1, bt_ BK237 2, bt_ BK237 3, bt_ BK237 4, bt_ BK237 5⟩ (fun hHeld => ?_)
      clear hK K
      refine norm_ (a' := ?_) ?_ ?_
      rotate_left
      ·show Act.put _ (some 9) _ = _
       simp only [Act.put, ls0_, ls1_, ls2_, i64_w, i32_w]
       rfl
      refine on_ 5 (some 12) (bs 8 6) HT_ (fun K hK => ?_)
      refine gs_ Try.func52 #[.agg #[.int .i64 a1_3, .int .i64 a1_4, .int .i64 a1_5]] ?_
      with_reducible refine (impl_VecTop.calls a1_3 a1_4 a1_5 t239 _ A4.out).mono ?_
      rintro e w28 ⟨rfl, hb⟩
      refine ⟨_, rfl, ?_⟩
      replace BK236 := bb_ BK236 hb; replace BK237 := bb_ BK237 hb; replace HB := Aside0.mk (below_step (bf_ HB) hb); (try clear hb); (try clear hb2); (try clear hk); (try clear hi)
      refine hK.out _ _ ⟨bt_ BK236 0, bt_ BK236 1, bt_ BK236 2, bt_ BK236 3, bt_ BK236 4, bt_ BK237 0, bt_ BK237 1, bt_ BK237 2, bt_ BK237 3, bt_ BK237 4, bt_ BK237 5⟩ (fun hHeld => ?_)
      clear hK K
      refine norm_ (a' := ?_) ?_ ?_
      rotate_left
      ·show Act.put _ (some 12) _ = _
       simp only [Act.put, ls0_, ls1_, ls2_, i64_w, i32_w]
       rfl
      iterate 2 (refine psn_ HT_ ?_)
      refine done_ (done_of HT_.out (by kernel_rfl)) ?_
      have hnb29 := NB237_236.out; have hnc29 := NB236_237.out; obtain ⟨hcz30_0, hcz30_1, hcz30_2, hcz30_3, hcz30_4, hcz30_5, hfz30_0, hfz30_1, hfz30_2, hfz30_3, hfz30_4, hfz30_5⟩ := bz6_ BK237
      try go_wp2_with (first | ((with_reducible refine gc_ 44 rfl ?_); refine gl_ 15 Try.func44 #[.int .i64 a1_0] ?_; (with_reducible refine (impl_isFlow.calls a1_0 true _ A5.out).mono ?_); rintro e w' ⟨rfl, ⟨nd, rfl⟩⟩; refine ⟨_, rfl, ?_⟩) | (go_at_call 45; (with_reducible refine (impl_isWeight.calls a1_1 true _ A7.out).mono ?_); rintro e w' ⟨rfl, ⟨nd, rfl⟩⟩; obtain ⟨hcz31_0, hcz31_1, hcz31_2, hcz31_3, hcz31_4, hfz31_0, hfz31_1, hfz31_2, hfz31_3, hfz31_4⟩ := bz5_ BK236) | (go_at_call 51; (with_reducible refine (impl_Narrow.calls a1_3 a1_4 a1_5 a0_0 true _ A9.out).mono ?_); rintro e w32 ⟨rfl, hb⟩; replace BK236 := bb_ BK236 hb; replace BK237 := bb_ BK237 hb; replace HB := Aside0.mk (below_step (bf_ HB) hb); (try clear hb); (try clear hb2); (try clear hk); (try clear hi); obtain ⟨hcz33_0, hcz33_1, hcz33_2, hcz33_3, hcz33_4, hcz33_5, hfz33_0, hfz33_1, hfz33_2, hfz33_3, hfz33_4, hfz33_5⟩ := bz6_ BK237) | ((with_reducible refine gc_ 83 rfl ?_); refine gl_ 35 Try.func83 #[.int .i64 a1_1] ?_; (with_reducible refine (impl_Stride.calls a1_1 t243 _ A11.out).mono ?_); rintro e w' ⟨rfl, ⟨nd, rfl⟩⟩; refine ⟨_, rfl, ?_⟩))
      go_ret
      exact ⟨by first | rfl | (simp [errW_none, errW_some] <;> rfl) | (simp [*, errW_none, errW_some] <;> rfl), bf_ HB⟩
    ·rw [if_neg c12] at H
     have c12b0 : decide (t239 ≤ (wrap64 (t238 + (wrap64 (t243 * 2000))))) = false := decide_eq_false c12
     clear c12
     obtain rfl := Option.some.inj H
     go_enter Try.func53, Try.ntmps53
     try go_wp2_with (first | ((with_reducible refine gd_ 2 rfl ?_); refine bv_ 2 #[.int .i64 a0_0, .int .i64 a0_1, .int .i64 a0_2, .int .i64 a0_3, .slice A0_4 l0_4.length c0_4] 31 ?_; intro gb236 hg w34 hbox hb; have BK236 := Aside0.mk (hbox); have GW236 := gw_ HB hg; have GE236 := gw_ HB hg; replace HB := Aside0.mk (below_step (be_ HB) hb); clear hb hbox hg) | ((with_reducible refine gd_ 3 rfl ?_); refine bv_ 3 #[.int .i64 a1_0, .int .i64 a1_1, .bool a1_2, .int .i64 a1_3, .int .i64 a1_4, .int .i64 a1_5] 46 ?_; intro gb237 hg w35 hbox hb; have BK237 := Aside0.mk (hbox); have GW237 := gw_ HB hg; have GE237 := gw_ HB hg; replace HB := Aside0.mk (below_step (bf_ HB) hb); have NB236_237 := nl_ BK236 hg; have NB237_236 := ng_ BK236 hg; replace BK236 := bb_ BK236 hb; clear hb hbox hg))
     replace BK236 := Aside0.mk (blk_drew BK236.out); replace BK237 := Aside0.mk (blk_drew BK237.out); replace HB := Aside0.mk (below_drew1 HB.out)
     refine start_ (n := 8) (S := fun w' => cw_ w' gb236 0 (.int .i64 a0_0) ∧ cw_ w' gb236 1 (.int .i64 a0_1) ∧ cw_ w' gb236 2 (.int .i64 a0_2) ∧ cw_ w' gb236 3 (.int .i64 a0_3) ∧ cw_ w' gb236 4 (.slice A0_4 l0_4.length c0_4) ∧ cw_ w' gb237 0 (.int .i64 a1_0) ∧ cw_ w' gb237 1 (.int .i64 a1_1) ∧ cw_ w' gb237 2 (.bool a1_2) ∧ cw_ w' gb237 3 (.int .i64 a1_3) ∧ cw_ w' gb237 4 (.int .i64 a1_4) ∧ cw_ w' gb237 5 (.int .i64 a1_5)) (ds := []) (bs 8 0) (by kernel_rfl) rfl rfl ⟨bt_ BK236 0, bt_ BK236 1, bt_ BK236 2, bt_ BK236 3, bt_ BK236 4, bt_ BK237 0, bt_ BK237 1, bt_ BK237 2, bt_ BK237 3, bt_ BK237 4, bt_ BK237 5⟩ (fun hHeld => ?_); refine with_tabW impl_Fair_kidOk.tab1 impl_Fair_kidOk.bits1 (fun HT_ HW_ => ?_)
     generalize w35.drew = w36 at BK236 BK237 HB hHeld ⊢
     refine psn_ HT_ ?_
     refine ps_ 3 10 (bm 8 9) HT_ ?_
     refine tk_ 1 8 (bm 8 11) HT_ HW_ hHeld ?_
     refine tk_ 4 11 (bm 8 27) HT_ HW_ hHeld ?_
     refine on_ 2 (some 9) (bs 8 5) HT_ (fun K hK => ?_)
     refine gs_ Try.func52 #[.agg #[.int .i64 a0_1, .int .i64 a0_2, .int .i64 a0_3]] ?_
     with_reducible refine (impl_VecTop.calls a0_1 a0_2 a0_3 t238 _ A3.out).mono ?_
     rintro e w37 ⟨rfl, hb⟩
     refine ⟨_, rfl, ?_⟩
     replace BK236 := bb_ BK236 hb; replace BK237 := bb_ BK237 hb; replace HB := Aside0.mk (below_step (bf_ HB) hb); (try clear hb); (try clear hb2); (try clear hk); (try clear hi)
     refine hK.out _ _ ⟨bt_ BK236 0, bt_ BK236 1, bt_ BK236 2, bt_ BK236 3, bt_ BK236 4, bt_ BK237 0, bt_ BK237 1, bt_ BK237 2, bt_ BK237 3, bt_ BK237 4, bt_ BK237 5⟩ (fun hHeld => ?_)
     clear hK K
     refine norm_ (a' := ?_) ?_ ?_
     rotate_left
     ·show Act.put _ (some 9) _ = _
      simp only [Act.put, ls0_, ls1_, ls2_, i64_w, i32_w]
      rfl
     refine on_ 5 (some 12) (bs 8 6) HT_ (fun K hK => ?_)
     refine gs_ Try.func52 #[.agg #[.int .i64 a1_3, .int .i64 a1_4, .int .i64 a1_5]] ?_
     with_reducible refine (impl_VecTop.calls a1_3 a1_4 a1_5 t239 _ A4.out).mono ?_
     rintro e w38 ⟨rfl, hb⟩
     refine ⟨_, rfl, ?_⟩
     replace BK236 := bb_ BK236 hb; replace BK237 := bb_ BK237 hb; replace HB := Aside0.mk (below_step (bf_ HB) hb); (try clear hb); (try clear hb2); (try clear hk); (try clear hi)
     refine hK.out _ _ ⟨bt_ BK236 0, bt_ BK236 1, bt_ BK236 2, bt_ BK236 3, bt_ BK236 4, bt_ BK237 0, bt_ BK237 1, bt_ BK237 2, bt_ BK237 3, bt_ BK237 4, bt_ BK237 5⟩ (fun hHeld => ?_)
     clear hK K
     refine norm_ (a' := ?_) ?_ ?_
     rotate_left
     ·show Act.put _ (some 12) _ = _
      simp only [Act.put, ls0_, ls1_, ls2_, i64_w, i32_w]
      rfl
     iterate 2 (refine psn_ HT_ ?_)
     refine done_ (done_of HT_.out (by kernel_rfl)) ?_
     have hnb39 := NB237_236.out; have hnc39 := NB236_237.out; obtain ⟨hcz40_0, hcz40_1, hcz40_2, hcz40_3, hcz40_4, hcz40_5, hfz40_0, hfz40_1, hfz40_2, hfz40_3, hfz40_4, hfz40_5⟩ := bz6_ BK237
     try go_wp2_with (first | ((with_reducible refine gc_ 44 rfl ?_); refine gl_ 15 Try.func44 #[.int .i64 a1_0] ?_; (with_reducible refine (impl_isFlow.calls a1_0 true _ A5.out).mono ?_); rintro e w' ⟨rfl, ⟨nd, rfl⟩⟩; refine ⟨_, rfl, ?_⟩) | (go_at_call 45; (with_reducible refine (impl_isWeight.calls a1_1 true _ A7.out).mono ?_); rintro e w' ⟨rfl, ⟨nd, rfl⟩⟩; obtain ⟨hcz41_0, hcz41_1, hcz41_2, hcz41_3, hcz41_4, hfz41_0, hfz41_1, hfz41_2, hfz41_3, hfz41_4⟩ := bz5_ BK236) | (go_at_call 51; (with_reducible refine (impl_Narrow.calls a1_3 a1_4 a1_5 a0_0 true _ A9.out).mono ?_); rintro e w42 ⟨rfl, hb⟩; replace BK236 := bb_ BK236 hb; replace BK237 := bb_ BK237 hb; replace HB := Aside0.mk (below_step (bf_ HB) hb); (try clear hb); (try clear hb2); (try clear hk); (try clear hi); obtain ⟨hcz43_0, hcz43_1, hcz43_2, hcz43_3, hcz43_4, hcz43_5, hfz43_0, hfz43_1, hfz43_2, hfz43_3, hfz43_4, hfz43_5⟩ := bz6_ BK237) | ((with_reducible refine gc_ 83 rfl ?_); refine gl_ 35 Try.func83 #[.int .i64 a1_1] ?_; (with_reducible refine (impl_Stride.calls a1_1 t243 _ A11.out).mono ?_); rintro e w' ⟨rfl, ⟨nd, rfl⟩⟩; refine ⟨_, rfl, ?_⟩))
     go_ret
     exact ⟨by first | rfl | (simp [errW_none, errW_some] <;> rfl) | (simp [*, errW_none, errW_some] <;> rfl), bf_ HB⟩
   ·replace c10 := Bool.eq_false_iff.mpr c10
    subst c10
    rw [if_neg (show ¬ (false = true) by decide)] at H
    obtain rfl := Option.some.inj H
    go_enter Try.func53, Try.ntmps53
    try go_wp2_with (first | ((with_reducible refine gd_ 2 rfl ?_); refine bv_ 2 #[.int .i64 a0_0, .int .i64 a0_1, .int .i64 a0_2, .int .i64 a0_3, .slice A0_4 l0_4.length c0_4] 31 ?_; intro gb236 hg w44 hbox hb; have BK236 := Aside0.mk (hbox); have GW236 := gw_ HB hg; have GE236 := gw_ HB hg; replace HB := Aside0.mk (below_step (be_ HB) hb); clear hb hbox hg) | ((with_reducible refine gd_ 3 rfl ?_); refine bv_ 3 #[.int .i64 a1_0, .int .i64 a1_1, .bool a1_2, .int .i64 a1_3, .int .i64 a1_4, .int .i64 a1_5] 46 ?_; intro gb237 hg w45 hbox hb; have BK237 := Aside0.mk (hbox); have GW237 := gw_ HB hg; have GE237 := gw_ HB hg; replace HB := Aside0.mk (below_step (bf_ HB) hb); have NB236_237 := nl_ BK236 hg; have NB237_236 := ng_ BK236 hg; replace BK236 := bb_ BK236 hb; clear hb hbox hg))
    replace BK236 := Aside0.mk (blk_drew BK236.out); replace BK237 := Aside0.mk (blk_drew BK237.out); replace HB := Aside0.mk (below_drew1 HB.out)
    refine start_ (n := 8) (S := fun w' => cw_ w' gb236 0 (.int .i64 a0_0) ∧ cw_ w' gb236 1 (.int .i64 a0_1) ∧ cw_ w' gb236 2 (.int .i64 a0_2) ∧ cw_ w' gb236 3 (.int .i64 a0_3) ∧ cw_ w' gb236 4 (.slice A0_4 l0_4.length c0_4) ∧ cw_ w' gb237 0 (.int .i64 a1_0) ∧ cw_ w' gb237 1 (.int .i64 a1_1) ∧ cw_ w' gb237 2 (.bool a1_2) ∧ cw_ w' gb237 3 (.int .i64 a1_3) ∧ cw_ w' gb237 4 (.int .i64 a1_4) ∧ cw_ w' gb237 5 (.int .i64 a1_5)) (ds := []) (bs 8 0) (by kernel_rfl) rfl rfl ⟨bt_ BK236 0, bt_ BK236 1, bt_ BK236 2, bt_ BK236 3, bt_ BK236 4, bt_ BK237 0, bt_ BK237 1, bt_ BK237 2, bt_ BK237 3, bt_ BK237 4, bt_ BK237 5⟩ (fun hHeld => ?_); refine with_tabW impl_Fair_kidOk.tab1 impl_Fair_kidOk.bits1 (fun HT_ HW_ => ?_)
    generalize w45.drew = w46 at BK236 BK237 HB hHeld ⊢
    refine psn_ HT_ ?_
    refine ps_ 3 10 (bm 8 9) HT_ ?_
    refine tk_ 1 8 (bm 8 11) HT_ HW_ hHeld ?_
    refine tk_ 4 11 (bm 8 27) HT_ HW_ hHeld ?_
    refine on_ 2 (some 9) (bs 8 5) HT_ (fun K hK => ?_)
    refine gs_ Try.func52 #[.agg #[.int .i64 a0_1, .int .i64 a0_2, .int .i64 a0_3]] ?_
    with_reducible refine (impl_VecTop.calls a0_1 a0_2 a0_3 t238 _ A3.out).mono ?_
    rintro e w47 ⟨rfl, hb⟩
    refine ⟨_, rfl, ?_⟩
    replace BK236 := bb_ BK236 hb; replace BK237 := bb_ BK237 hb; replace HB := Aside0.mk (below_step (bf_ HB) hb); (try clear hb); (try clear hb2); (try clear hk); (try clear hi)
    refine hK.out _ _ ⟨bt_ BK236 0, bt_ BK236 1, bt_ BK236 2, bt_ BK236 3, bt_ BK236 4, bt_ BK237 0, bt_ BK237 1, bt_ BK237 2, bt_ BK237 3, bt_ BK237 4, bt_ BK237 5⟩ (fun hHeld => ?_)
    clear hK K
    refine norm_ (a' := ?_) ?_ ?_
    rotate_left
    ·show Act.put _ (some 9) _ = _
     simp only [Act.put, ls0_, ls1_, ls2_, i64_w, i32_w]
     rfl
    refine on_ 5 (some 12) (bs 8 6) HT_ (fun K hK => ?_)
    refine gs_ Try.func52 #[.agg #[.int .i64 a1_3, .int .i64 a1_4, .int .i64 a1_5]] ?_
    with_reducible refine (impl_VecTop.calls a1_3 a1_4 a1_5 t239 _ A4.out).mono ?_
    rintro e w48 ⟨rfl, hb⟩
    refine ⟨_, rfl, ?_⟩
    replace BK236 := bb_ BK236 hb; replace BK237 := bb_ BK237 hb; replace HB := Aside0.mk (below_step (bf_ HB) hb); (try clear hb); (try clear hb2); (try clear hk); (try clear hi)
    refine hK.out _ _ ⟨bt_ BK236 0, bt_ BK236 1, bt_ BK236 2, bt_ BK236 3, bt_ BK236 4, bt_ BK237 0, bt_ BK237 1, bt_ BK237 2, bt_ BK237 3, bt_ BK237 4, bt_ BK237 5⟩ (fun hHeld => ?_)
    clear hK K
    refine norm_ (a' := ?_) ?_ ?_
    rotate_left
    ·show Act.put _ (some 12) _ = _
     simp only [Act.put, ls0_, ls1_, ls2_, i64_w, i32_w]
     rfl
    iterate 2 (refine psn_ HT_ ?_)
    refine done_ (done_of HT_.out (by kernel_rfl)) ?_
    have hnb49 := NB237_236.out; have hnc49 := NB236_237.out; obtain ⟨hcz50_0, hcz50_1, hcz50_2, hcz50_3, hcz50_4, hcz50_5, hfz50_0, hfz50_1, hfz50_2, hfz50_3, hfz50_4, hfz50_5⟩ := bz6_ BK237
    try go_wp2_with (first | ((with_reducible refine gc_ 44 rfl ?_); refine gl_ 15 Try.func44 #[.int .i64 a1_0] ?_; (with_reducible refine (impl_isFlow.calls a1_0 true _ A5.out).mono ?_); rintro e w' ⟨rfl, ⟨nd, rfl⟩⟩; refine ⟨_, rfl, ?_⟩) | (go_at_call 45; (with_reducible refine (impl_isWeight.calls a1_1 true _ A7.out).mono ?_); rintro e w' ⟨rfl, ⟨nd, rfl⟩⟩; obtain ⟨hcz51_0, hcz51_1, hcz51_2, hcz51_3, hcz51_4, hfz51_0, hfz51_1, hfz51_2, hfz51_3, hfz51_4⟩ := bz5_ BK236) | (go_at_call 51; (with_reducible refine (impl_Narrow.calls a1_3 a1_4 a1_5 a0_0 false _ A9.out).mono ?_); rintro e w52 ⟨rfl, hb⟩; replace BK236 := bb_ BK236 hb; replace BK237 := bb_ BK237 hb; replace HB := Aside0.mk (below_step (bf_ HB) hb); (try clear hb); (try clear hb2); (try clear hk); (try clear hi)))
    go_ret
    exact ⟨by first | rfl | (simp [errW_none, errW_some] <;> rfl) | (simp [*, errW_none, errW_some] <;> rfl), bf_ HB⟩
  ·replace c8 := Bool.eq_false_iff.mpr c8
   subst c8
   rw [if_neg (show ¬ (false = true) by decide)] at H
   obtain rfl := Option.some.inj H
   go_enter Try.func53, Try.ntmps53
   try go_wp2_with (first | ((with_reducible refine gd_ 2 rfl ?_); refine bv_ 2 #[.int .i64 a0_0, .int .i64 a0_1, .int .i64 a0_2, .int .i64 a0_3, .slice A0_4 l0_4.length c0_4] 31 ?_; intro gb236 hg w53 hbox hb; have BK236 := Aside0.mk (hbox); have GW236 := gw_ HB hg; have GE236 := gw_ HB hg; replace HB := Aside0.mk (below_step (be_ HB) hb); clear hb hbox hg) | ((with_reducible refine gd_ 3 rfl ?_); refine bv_ 3 #[.int .i64 a1_0, .int .i64 a1_1, .bool a1_2, .int .i64 a1_3, .int .i64 a1_4, .int .i64 a1_5] 46 ?_; intro gb237 hg w54 hbox hb; have BK237 := Aside0.mk (hbox); have GW237 := gw_ HB hg; have GE237 := gw_ HB hg; replace HB := Aside0.mk (below_step (bf_ HB) hb); have NB236_237 := nl_ BK236 hg; have NB237_236 := ng_ BK236 hg; replace BK236 := bb_ BK236 hb; clear hb hbox hg))
   replace BK236 := Aside0.mk (blk_drew BK236.out); replace BK237 := Aside0.mk (blk_drew BK237.out); replace HB := Aside0.mk (below_drew1 HB.out)
   refine start_ (n := 8) (S := fun w' => cw_ w' gb236 0 (.int .i64 a0_0) ∧ cw_ w' gb236 1 (.int .i64 a0_1) ∧ cw_ w' gb236 2 (.int .i64 a0_2) ∧ cw_ w' gb236 3 (.int .i64 a0_3) ∧ cw_ w' gb236 4 (.slice A0_4 l0_4.length c0_4) ∧ cw_ w' gb237 0 (.int .i64 a1_0) ∧ cw_ w' gb237 1 (.int .i64 a1_1) ∧ cw_ w' gb237 2 (.bool a1_2) ∧ cw_ w' gb237 3 (.int .i64 a1_3) ∧ cw_ w' gb237 4 (.int .i64 a1_4) ∧ cw_ w' gb237 5 (.int .i64 a1_5)) (ds := []) (bs 8 0) (by kernel_rfl) rfl rfl ⟨bt_ BK236 0, bt_ BK236 1, bt_ BK236 2, bt_ BK236 3, bt_ BK236 4, bt_ BK237 0, bt_ BK237 1, bt_ BK237 2, bt_ BK237 3, bt_ BK237 4, bt_ BK237 5⟩ (fun hHeld => ?_); refine with_tabW impl_Fair_kidOk.tab1 impl_Fair_kidOk.bits1 (fun HT_ HW_ => ?_)
   generalize w54.drew = w55 at BK236 BK237 HB hHeld ⊢
   refine psn_ HT_ ?_
   refine ps_ 3 10 (bm 8 9) HT_ ?_
   refine tk_ 1 8 (bm 8 11) HT_ HW_ hHeld ?_
   refine tk_ 4 11 (bm 8 27) HT_ HW_ hHeld ?_
   refine on_ 2 (some 9) (bs 8 5) HT_ (fun K hK => ?_)
   refine gs_ Try.func52 #[.agg #[.int .i64 a0_1, .int .i64 a0_2, .int .i64 a0_3]] ?_
   with_reducible refine (impl_VecTop.calls a0_1 a0_2 a0_3 t238 _ A3.out).mono ?_
   rintro e w56 ⟨rfl, hb⟩
   refine ⟨_, rfl, ?_⟩
   replace BK236 := bb_ BK236 hb; replace BK237 := bb_ BK237 hb; replace HB := Aside0.mk (below_step (bf_ HB) hb); (try clear hb); (try clear hb2); (try clear hk); (try clear hi)
   refine hK.out _ _ ⟨bt_ BK236 0, bt_ BK236 1, bt_ BK236 2, bt_ BK236 3, bt_ BK236 4, bt_ BK237 0, bt_ BK237 1, bt_ BK237 2, bt_ BK237 3, bt_ BK237 4, bt_ BK237 5⟩ (fun hHeld => ?_)
   clear hK K
   refine norm_ (a' := ?_) ?_ ?_
   rotate_left
   ·show Act.put _ (some 9) _ = _
    simp only [Act.put, ls0_, ls1_, ls2_, i64_w, i32_w]
    rfl
   refine on_ 5 (some 12) (bs 8 6) HT_ (fun K hK => ?_)
   refine gs_ Try.func52 #[.agg #[.int .i64 a1_3, .int .i64 a1_4, .int .i64 a1_5]] ?_
   with_reducible refine (impl_VecTop.calls a1_3 a1_4 a1_5 t239 _ A4.out).mono ?_
   rintro e w57 ⟨rfl, hb⟩
   refine ⟨_, rfl, ?_⟩
   replace BK236 := bb_ BK236 hb; replace BK237 := bb_ BK237 hb; replace HB := Aside0.mk (below_step (bf_ HB) hb); (try clear hb); (try clear hb2); (try clear hk); (try clear hi)
   refine hK.out _ _ ⟨bt_ BK236 0, bt_ BK236 1, bt_ BK236 2, bt_ BK236 3, bt_ BK236 4, bt_ BK237 0, bt_ BK237 1, bt_ BK237 2, bt_ BK237 3, bt_ BK237 4, bt_ BK237 5⟩ (fun hHeld => ?_)
   clear hK K
   refine norm_ (a' := ?_) ?_ ?_
   rotate_left
   ·show Act.put _ (some 12) _ = _
    simp only [Act.put, ls0_, ls1_, ls2_, i64_w, i32_w]
    rfl
   iterate 2 (refine psn_ HT_ ?_)
   refine done_ (done_of HT_.out (by kernel_rfl)) ?_
   have hnb58 := NB237_236.out; have hnc58 := NB236_237.out; obtain ⟨hcz59_0, hcz59_1, hcz59_2, hcz59_3, hcz59_4, hcz59_5, hfz59_0, hfz59_1, hfz59_2, hfz59_3, hfz59_4, hfz59_5⟩ := bz6_ BK237
   try go_wp2_with (first | ((with_reducible refine gc_ 44 rfl ?_); refine gl_ 15 Try.func44 #[.int .i64 a1_0] ?_; (with_reducible refine (impl_isFlow.calls a1_0 true _ A5.out).mono ?_); rintro e w' ⟨rfl, ⟨nd, rfl⟩⟩; refine ⟨_, rfl, ?_⟩) | (go_at_call 45; (with_reducible refine (impl_isWeight.calls a1_1 false _ A7.out).mono ?_); rintro e w' ⟨rfl, ⟨nd, rfl⟩⟩))
   go_ret
   exact ⟨by first | rfl | (simp [errW_none, errW_some] <;> rfl) | (simp [*, errW_none, errW_some] <;> rfl), bf_ HB⟩
 ·replace c6 := Bool.eq_false_iff.mpr c6
  subst c6
  rw [if_neg (show ¬ (false = true) by decide)] at H
  obtain rfl := Option.some.inj H
  go_enter Try.func53, Try.ntmps53
  try go_wp2_with (first | ((with_reducible refine gd_ 2 rfl ?_); refine bv_ 2 #[.int .i64 a0_0, .int .i64 a0_1, .int .i64 a0_2, .int .i64 a0_3, .slice A0_4 l0_4.length c0_4] 31 ?_; intro gb236 hg w60 hbox hb; have BK236 := Aside0.mk (hbox); have GW236 := gw_ HB hg; have GE236 := gw_ HB hg; replace HB := Aside0.mk (below_step (be_ HB) hb); clear hb hbox hg) | ((with_reducible refine gd_ 3 rfl ?_); refine bv_ 3 #[.int .i64 a1_0, .int .i64 a1_1, .bool a1_2, .int .i64 a1_3, .int .i64 a1_4, .int .i64 a1_5] 46 ?_; intro gb237 hg w61 hbox hb; have BK237 := Aside0.mk (hbox); have GW237 := gw_ HB hg; have GE237 := gw_ HB hg; replace HB := Aside0.mk (below_step (bf_ HB) hb); have NB236_237 := nl_ BK236 hg; have NB237_236 := ng_ BK236 hg; replace BK236 := bb_ BK236 hb; clear hb hbox hg))
  replace BK236 := Aside0.mk (blk_drew BK236.out); replace BK237 := Aside0.mk (blk_drew BK237.out); replace HB := Aside0.mk (below_drew1 HB.out)
  refine start_ (n := 8) (S := fun w' => cw_ w' gb236 0 (.int .i64 a0_0) ∧ cw_ w' gb236 1 (.int .i64 a0_1) ∧ cw_ w' gb236 2 (.int .i64 a0_2) ∧ cw_ w' gb236 3 (.int .i64 a0_3) ∧ cw_ w' gb236 4 (.slice A0_4 l0_4.length c0_4) ∧ cw_ w' gb237 0 (.int .i64 a1_0) ∧ cw_ w' gb237 1 (.int .i64 a1_1) ∧ cw_ w' gb237 2 (.bool a1_2) ∧ cw_ w' gb237 3 (.int .i64 a1_3) ∧ cw_ w' gb237 4 (.int .i64 a1_4) ∧ cw_ w' gb237 5 (.int .i64 a1_5)) (ds := []) (bs 8 0) (by kernel_rfl) rfl rfl ⟨bt_ BK236 0, bt_ BK236 1, bt_ BK236 2, bt_ BK236 3, bt_ BK236 4, bt_ BK237 0, bt_ BK237 1, bt_ BK237 2, bt_ BK237 3, bt_ BK237 4, bt_ BK237 5⟩ (fun hHeld => ?_); refine with_tabW impl_Fair_kidOk.tab1 impl_Fair_kidOk.bits1 (fun HT_ HW_ => ?_)
  generalize w61.drew = w62 at BK236 BK237 HB hHeld ⊢
  refine psn_ HT_ ?_
  refine ps_ 3 10 (bm 8 9) HT_ ?_
  refine tk_ 1 8 (bm 8 11) HT_ HW_ hHeld ?_
  refine tk_ 4 11 (bm 8 27) HT_ HW_ hHeld ?_
  refine on_ 2 (some 9) (bs 8 5) HT_ (fun K hK => ?_)
  refine gs_ Try.func52 #[.agg #[.int .i64 a0_1, .int .i64 a0_2, .int .i64 a0_3]] ?_
  with_reducible refine (impl_VecTop.calls a0_1 a0_2 a0_3 t238 _ A3.out).mono ?_
  rintro e w63 ⟨rfl, hb⟩
  refine ⟨_, rfl, ?_⟩
  replace BK236 := bb_ BK236 hb; replace BK237 := bb_ BK237 hb; replace HB := Aside0.mk (below_step (bf_ HB) hb); (try clear hb); (try clear hb2); (try clear hk); (try clear hi)
  refine hK.out _ _ ⟨bt_ BK236 0, bt_ BK236 1, bt_ BK236 2, bt_ BK236 3, bt_ BK236 4, bt_ BK237 0, bt_ BK237 1, bt_ BK237 2, bt_ BK237 3, bt_ BK237 4, bt_ BK237 5⟩ (fun hHeld => ?_)
  clear hK K
  refine norm_ (a' := ?_) ?_ ?_
  rotate_left
  ·show Act.put _ (some 9) _ = _
   simp only [Act.put, ls0_, ls1_, ls2_, i64_w, i32_w]
   rfl
  refine on_ 5 (some 12) (bs 8 6) HT_ (fun K hK => ?_)
  refine gs_ Try.func52 #[.agg #[.int .i64 a1_3, .int .i64 a1_4, .int .i64 a1_5]] ?_
  with_reducible refine (impl_VecTop.calls a1_3 a1_4 a1_5 t239 _ A4.out).mono ?_
  rintro e w64 ⟨rfl, hb⟩
  refine ⟨_, rfl, ?_⟩
  replace BK236 := bb_ BK236 hb; replace BK237 := bb_ BK237 hb; replace HB := Aside0.mk (below_step (bf_ HB) hb); (try clear hb); (try clear hb2); (try clear hk); (try clear hi)
  refine hK.out _ _ ⟨bt_ BK236 0, bt_ BK236 1, bt_ BK236 2, bt_ BK236 3, bt_ BK236 4, bt_ BK237 0, bt_ BK237 1, bt_ BK237 2, bt_ BK237 3, bt_ BK237 4, bt_ BK237 5⟩ (fun hHeld => ?_)
  clear hK K
  refine norm_ (a' := ?_) ?_ ?_
  rotate_left
  ·show Act.put _ (some 12) _ = _
   simp only [Act.put, ls0_, ls1_, ls2_, i64_w, i32_w]
   rfl
  iterate 2 (refine psn_ HT_ ?_)
  refine done_ (done_of HT_.out (by kernel_rfl)) ?_
  have hnb65 := NB237_236.out; have hnc65 := NB236_237.out; obtain ⟨hcz66_0, hcz66_1, hcz66_2, hcz66_3, hcz66_4, hcz66_5, hfz66_0, hfz66_1, hfz66_2, hfz66_3, hfz66_4, hfz66_5⟩ := bz6_ BK237
  try go_wp2_with (first | ((with_reducible refine gc_ 44 rfl ?_); refine gl_ 15 Try.func44 #[.int .i64 a1_0] ?_; (with_reducible refine (impl_isFlow.calls a1_0 false _ A5.out).mono ?_); rintro e w' ⟨rfl, ⟨nd, rfl⟩⟩; refine ⟨_, rfl, ?_⟩))
  go_ret
  exact ⟨by first | rfl | (simp [errW_none, errW_some] <;> rfl) | (simp [*, errW_none, errW_some] <;> rfl), bf_ HB⟩

end Go.Proofs.Ytppmbdfbhahngaa.PFnExactFairJoin
