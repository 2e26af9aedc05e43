-- printed by a program of this session (wip/printx) out of the translation; Lean checks it
import Derived.Test.YtppmbdfbhahngaaVFnExactFairLeave
import Derived.Test.YtppmbdfbhahngaaPFnExactFairLeavex0
import Derived.Test.YtppmbdfbhahngaaPFnExactFairLeavex8
namespace Go.Proofs.Ytppmbdfbhahngaa.PFnExactFairLeave
open Go.RowKit Go.Proofs.YtppmbdfbhahngaaW.PrintWords Go.Proofs.YtppmbdfbhahngaaW.PrintLast Go.Proofs.YtppmbdfbhahngaaW.PrintMore
attribute [local go_sem] max2_int min2_int max_two min_two max_three min_three max_four min_four   -- for this text's walks alone
set_option linter.unusedVariables false
set_option linter.unusedSimpArgs false

/-! ### laws_eqKid: function 70 -/
def laws_eqKid.f (a0_0 : Int) (a0_1 : Int) (a0_2 : Bool) (a0_3 : Int) (a0_4 : Int) (a0_5 : Int) (a1_0 : Int) (a1_1 : Int) (a1_2 : Bool) (a1_3 : Int) (a1_4 : Int) (a1_5 : Int) : Option (Bool) := if a0_0 = a1_0 then (if a0_1 = a1_1 then (if (a0_2 != a1_2) = true then (some false) else ((laws_eqVec.f a0_3 a0_4 a0_5 a1_3 a1_4 a1_5).bind fun t265 => (if t265 = true then (some true) else (some false)))) else (some false)) else (some false)
set_option maxHeartbeats 8000000 in
set_option maxRecDepth 100000 in
theorem laws_eqKid.calls (a0_0 : Int) (a0_1 : Int) (a0_2 : Bool) (a0_3 : Int) (a0_4 : Int) (a0_5 : Int) (a1_0 : Int) (a1_1 : Int) (a1_2 : Bool) (a1_3 : Int) (a1_4 : Int) (a1_5 : Int) (r : Bool) (w : World) (h : laws_eqKid.f a0_0 a0_1 a0_2 a0_3 a0_4 a0_5 a1_0 a1_1 a1_2 a1_3 a1_4 a1_5 = some r) :
  Calls Try.prog 70 #[.agg #[.int .i64 a0_0, .int .i64 a0_1, .bool a0_2, .int .i64 a0_3, .int .i64 a0_4, .int .i64 a0_5], .agg #[.int .i64 a1_0, .int .i64 a1_1, .bool a1_2, .int .i64 a1_3, .int .i64 a1_4, .int .i64 a1_5]] w fun e w' => e = .returned (.bool r) ∧ Below w.heap.size w w' := by
 have hu46 := Try.underlying46; have hu28 := Try.underlying28; have HB := Aside0.mk (Below.refl w.heap.size w)
 have H := h
 clear h
 unfold laws_eqKid.f at H
 by_cases c3 : a0_0 = a1_0
 ·rw [if_pos c3] at H
  have c3b0 : (a0_0 == a1_0) = true := beq_iff_eq.mpr c3
  have c3b1 : (a0_0 != a1_0) = false := bne_eq_false_iff_eq.mpr c3
  clear c3
  by_cases c4 : a0_1 = a1_1
  ·rw [if_pos c4] at H
   have c4b0 : (a0_1 == a1_1) = true := beq_iff_eq.mpr c4
   have c4b1 : (a0_1 != a1_1) = false := bne_eq_false_iff_eq.mpr c4
   clear c4
   by_cases c5 : (a0_2 != a1_2) = true
   ·rw [if_pos c5] at H
    have c5b0 : (a0_2 != a1_2) = true := c5
    (try (have c5b1 : decide (a0_2 = a1_2) = false := by simpa using c5))
    (try (have c5b2 : (a0_2 == a1_2) = false := by simpa using c5))
    (try (have c5b3 : ¬ (a0_2 = a1_2) := by simpa using c5))
    clear c5
    obtain rfl := Option.some.inj H
    go_enter Try.func70, Try.ntmps70
    go_wp2_with (first | ((with_reducible refine gd_ 2 rfl ?_); refine bv_ 2 #[.int .i64 a0_0, .int .i64 a0_1, .bool a0_2, .int .i64 a0_3, .int .i64 a0_4, .int .i64 a0_5] 46 ?_; intro gb263 hg w6 hbox hb; have BK263 := Aside0.mk (hbox); have GW263 := gw_ HB hg; have GE263 := gw_ HB hg; replace HB := Aside0.mk (below_step (be_ HB) hb); clear hb hbox hg) | ((with_reducible refine gd_ 3 rfl ?_); refine bv_ 3 #[.int .i64 a1_0, .int .i64 a1_1, .bool a1_2, .int .i64 a1_3, .int .i64 a1_4, .int .i64 a1_5] 46 ?_; intro gb264 hg w7 hbox hb; have BK264 := Aside0.mk (hbox); have GW264 := gw_ HB hg; have GE264 := gw_ HB hg; replace HB := Aside0.mk (below_step (bf_ HB) hb); have NB263_264 := nl_ BK263 hg; have NB264_263 := ng_ BK263 hg; replace BK263 := bb_ BK263 hb; clear hb hbox hg; have hnb8 := NB263_264.out; have hnc8 := NB264_263.out; obtain ⟨hcz9_0, hcz9_1, hcz9_2, hcz9_3, hcz9_4, hcz9_5, hfz9_0, hfz9_1, hfz9_2, hfz9_3, hfz9_4, hfz9_5⟩ := bz6_ BK263; obtain ⟨hcz10_0, hcz10_1, hcz10_2, hcz10_3, hcz10_4, hcz10_5, hfz10_0, hfz10_1, hfz10_2, hfz10_3, hfz10_4, hfz10_5⟩ := bz6_ BK264))
    go_ret
    exact ⟨by first | rfl | (simp [errW_none, errW_some] <;> rfl) | (simp [*, errW_none, errW_some] <;> rfl), bf_ HB⟩
   ·rw [if_neg c5] at H
    have c5b0 : (a0_2 != a1_2) = false := by simpa using c5
    (try (have c5b1 : decide (a0_2 = a1_2) = true := by simpa using c5))
    (try (have c5b2 : (a0_2 == a1_2) = true := by simpa using c5))
    clear c5
    replace H := Option.bind_eq_some_iff.mp H
    obtain ⟨t265, A110, H⟩ := H
    have A11 := Aside0.mk A110
    clear A110
    by_cases c12 : t265 = true
    ·subst c12
     rw [if_pos rfl] at H
     obtain rfl := Option.some.inj H
     go_enter Try.func70, Try.ntmps70
     go_wp2_with (first | ((with_reducible refine gd_ 2 rfl ?_); refine bv_ 2 #[.int .i64 a0_0, .int .i64 a0_1, .bool a0_2, .int .i64 a0_3, .int .i64 a0_4, .int .i64 a0_5] 46 ?_; intro gb263 hg w13 hbox hb; have BK263 := Aside0.mk (hbox); have GW263 := gw_ HB hg; have GE263 := gw_ HB hg; replace HB := Aside0.mk (below_step (be_ HB) hb); clear hb hbox hg) | ((with_reducible refine gd_ 3 rfl ?_); refine bv_ 3 #[.int .i64 a1_0, .int .i64 a1_1, .bool a1_2, .int .i64 a1_3, .int .i64 a1_4, .int .i64 a1_5] 46 ?_; intro gb264 hg w14 hbox hb; have BK264 := Aside0.mk (hbox); have GW264 := gw_ HB hg; have GE264 := gw_ HB hg; replace HB := Aside0.mk (below_step (bf_ HB) hb); have NB263_264 := nl_ BK263 hg; have NB264_263 := ng_ BK263 hg; replace BK263 := bb_ BK263 hb; clear hb hbox hg; have hnb15 := NB263_264.out; have hnc15 := NB264_263.out; obtain ⟨hcz16_0, hcz16_1, hcz16_2, hcz16_3, hcz16_4, hcz16_5, hfz16_0, hfz16_1, hfz16_2, hfz16_3, hfz16_4, hfz16_5⟩ := bz6_ BK263; obtain ⟨hcz17_0, hcz17_1, hcz17_2, hcz17_3, hcz17_4, hcz17_5, hfz17_0, hfz17_1, hfz17_2, hfz17_3, hfz17_4, hfz17_5⟩ := bz6_ BK264) | ((with_reducible refine gc_ 40 rfl ?_); refine gl_ 24 Try.func40 #[.agg #[.int .i64 a0_3, .int .i64 a0_4, .int .i64 a0_5], .agg #[.int .i64 a1_3, .int .i64 a1_4, .int .i64 a1_5]] ?_; (with_reducible refine (laws_eqVec.calls a0_3 a0_4 a0_5 a1_3 a1_4 a1_5 true _ A11.out).mono ?_); rintro e w18 ⟨rfl, hb⟩; refine ⟨_, rfl, ?_⟩; replace BK263 := bb_ BK263 hb; replace BK264 := bb_ BK264 hb; replace HB := Aside0.mk (below_step (bf_ HB) hb); (try clear hb); (try clear hb2); (try clear hk); (try clear hi)))
     go_ret
     exact ⟨by first | rfl | (simp [errW_none, errW_some] <;> rfl) | (simp [*, errW_none, errW_some] <;> rfl), bf_ HB⟩
    ·replace c12 := Bool.eq_false_iff.mpr c12
     subst c12
     rw [if_neg (show ¬ (false = true) by decide)] at H
     obtain rfl := Option.some.inj H
     go_enter Try.func70, Try.ntmps70
     go_wp2_with (first | ((with_reducible refine gd_ 2 rfl ?_); refine bv_ 2 #[.int .i64 a0_0, .int .i64 a0_1, .bool a0_2, .int .i64 a0_3, .int .i64 a0_4, .int .i64 a0_5] 46 ?_; intro gb263 hg w19 hbox hb; have BK263 := Aside0.mk (hbox); have GW263 := gw_ HB hg; have GE263 := gw_ HB hg; replace HB := Aside0.mk (below_step (be_ HB) hb); clear hb hbox hg) | ((with_reducible refine gd_ 3 rfl ?_); refine bv_ 3 #[.int .i64 a1_0, .int .i64 a1_1, .bool a1_2, .int .i64 a1_3, .int .i64 a1_4, .int .i64 a1_5] 46 ?_; intro gb264 hg w20 hbox hb; have BK264 := Aside0.mk (hbox); have GW264 := gw_ HB hg; have GE264 := gw_ HB hg; replace HB := Aside0.mk (below_step (bf_ HB) hb); have NB263_264 := nl_ BK263 hg; have NB264_263 := ng_ BK263 hg; replace BK263 := bb_ BK263 hb; clear hb hbox hg; have hnb21 := NB263_264.out; have hnc21 := NB264_263.out; obtain ⟨hcz22_0, hcz22_1, hcz22_2, hcz22_3, hcz22_4, hcz22_5, hfz22_0, hfz22_1, hfz22_2, hfz22_3, hfz22_4, hfz22_5⟩ := bz6_ BK263; obtain ⟨hcz23_0, hcz23_1, hcz23_2, hcz23_3, hcz23_4, hcz23_5, hfz23_0, hfz23_1, hfz23_2, hfz23_3, hfz23_4, hfz23_5⟩ := bz6_ BK264) | ((with_reducible refine gc_ 40 rfl ?_); refine gl_ 24 Try.func40 #[.agg #[.int .i64 a0_3, .int .i64 a0_4, .int .i64 a0_5], .agg #[.int .i64 a1_3, .int .i64 a1_4, .int .i64 a1_5]] ?_; (with_reducible refine (laws_eqVec.calls a0_3 a0_4 a0_5 a1_3 a1_4 a1_5 false _ A11.out).mono ?_); rintro e w24 ⟨rfl, hb⟩; refine ⟨_, rfl, ?_⟩; replace BK263 := bb_ BK263 hb; replace BK264 := bb_ BK264 hb; replace HB := Aside0.mk (below_step (bf_ HB) hb); (try clear hb); (try clear hb2); (try clear hk); (try clear hi)))
     go_ret
     exact ⟨by first | rfl | (simp [errW_none, errW_some] <;> rfl) | (simp [*, errW_none, errW_some] <;> rfl), bf_ HB⟩
  ·rw [if_neg c4] at H
   have c4b0 : (a0_1 == a1_1) = false := beq_eq_false_iff_ne.mpr c4
   have c4b1 : (a0_1 != a1_1) = true := bne_iff_ne.mpr c4
   obtain rfl := Option.some.inj H
   go_enter Try.func70, Try.ntmps70
   go_wp2_with (first | ((with_reducible refine gd_ 2 rfl ?_); refine bv_ 2 #[.int .i64 a0_0, .int .i64 a0_1, .bool a0_2, .int .i64 a0_3, .int .i64 a0_4, .int .i64 a0_5] 46 ?_; intro gb263 hg w25 hbox hb; have BK263 := Aside0.mk (hbox); have GW263 := gw_ HB hg; have GE263 := gw_ HB hg; replace HB := Aside0.mk (below_step (be_ HB) hb); clear hb hbox hg) | ((with_reducible refine gd_ 3 rfl ?_); refine bv_ 3 #[.int .i64 a1_0, .int .i64 a1_1, .bool a1_2, .int .i64 a1_3, .int .i64 a1_4, .int .i64 a1_5] 46 ?_; intro gb264 hg w26 hbox hb; have BK264 := Aside0.mk (hbox); have GW264 := gw_ HB hg; have GE264 := gw_ HB hg; replace HB := Aside0.mk (below_step (bf_ HB) hb); have NB263_264 := nl_ BK263 hg; have NB264_263 := ng_ BK263 hg; replace BK263 := bb_ BK263 hb; clear hb hbox hg; have hnb27 := NB263_264.out; have hnc27 := NB264_263.out; obtain ⟨hcz28_0, hcz28_1, hcz28_2, hcz28_3, hcz28_4, hcz28_5, hfz28_0, hfz28_1, hfz28_2, hfz28_3, hfz28_4, hfz28_5⟩ := bz6_ BK263; obtain ⟨hcz29_0, hcz29_1, hcz29_2, hcz29_3, hcz29_4, hcz29_5, hfz29_0, hfz29_1, hfz29_2, hfz29_3, hfz29_4, hfz29_5⟩ := bz6_ BK264))
   go_ret
   exact ⟨by first | rfl | (simp [errW_none, errW_some] <;> rfl) | (simp [*, errW_none, errW_some] <;> rfl), bf_ HB⟩
 ·rw [if_neg c3] at H
  have c3b0 : (a0_0 == a1_0) = false := beq_eq_false_iff_ne.mpr c3
  have c3b1 : (a0_0 != a1_0) = true := bne_iff_ne.mpr c3
  obtain rfl := Option.some.inj H
  go_enter Try.func70, Try.ntmps70
  go_wp2_with (first | ((with_reducible refine gd_ 2 rfl ?_); refine bv_ 2 #[.int .i64 a0_0, .int .i64 a0_1, .bool a0_2, .int .i64 a0_3, .int .i64 a0_4, .int .i64 a0_5] 46 ?_; intro gb263 hg w30 hbox hb; have BK263 := Aside0.mk (hbox); have GW263 := gw_ HB hg; have GE263 := gw_ HB hg; replace HB := Aside0.mk (below_step (be_ HB) hb); clear hb hbox hg) | ((with_reducible refine gd_ 3 rfl ?_); refine bv_ 3 #[.int .i64 a1_0, .int .i64 a1_1, .bool a1_2, .int .i64 a1_3, .int .i64 a1_4, .int .i64 a1_5] 46 ?_; intro gb264 hg w31 hbox hb; have BK264 := Aside0.mk (hbox); have GW264 := gw_ HB hg; have GE264 := gw_ HB hg; replace HB := Aside0.mk (below_step (bf_ HB) hb); have NB263_264 := nl_ BK263 hg; have NB264_263 := ng_ BK263 hg; replace BK263 := bb_ BK263 hb; clear hb hbox hg; have hnb32 := NB263_264.out; have hnc32 := NB264_263.out; obtain ⟨hcz33_0, hcz33_1, hcz33_2, hcz33_3, hcz33_4, hcz33_5, hfz33_0, hfz33_1, hfz33_2, hfz33_3, hfz33_4, hfz33_5⟩ := bz6_ BK263; obtain ⟨hcz34_0, hcz34_1, hcz34_2, hcz34_3, hcz34_4, hcz34_5, hfz34_0, hfz34_1, hfz34_2, hfz34_3, hfz34_4, hfz34_5⟩ := bz6_ BK264))
  go_ret
  exact ⟨by first | rfl | (simp [errW_none, errW_some] <;> rfl) | (simp [*, errW_none, errW_some] <;> rfl), bf_ HB⟩

/-! ### laws_eqKidS: function 41 -/
def laws_eqKidS.l0 : Nat → List (S46) → List (S46) → Int → Option (Bool)
  | 0, _, _, _ => none
  | k + 1, x0, x1, x5 => if x5 < (x0.length : Int) then (if 0 ≤ x5 then (if x5 < (x1.length : Int) then ((laws_eqKid.f ((rd_T46 x0 x5).f0) ((rd_T46 x0 x5).f1) ((rd_T46 x0 x5).f2) ((rd_T46 x0 x5).f3.f0) ((rd_T46 x0 x5).f3.f1) ((rd_T46 x0 x5).f3.f2) ((rd_T46 x1 x5).f0) ((rd_T46 x1 x5).f1) ((rd_T46 x1 x5).f2) ((rd_T46 x1 x5).f3.f0) ((rd_T46 x1 x5).f3.f1) ((rd_T46 x1 x5).f3.f2)).bind fun t268 => (if t268 = true then (laws_eqKidS.l0 k x0 x1 (wrap64 (x5 + 1))) else (some false))) else (none)) else (none)) else (some true)
def laws_eqKidS.f (k : Nat) (l0 : List (S46)) (l1 : List (S46)) : Option (Bool) := if (l0.length : Int) = (l1.length : Int) then (laws_eqKidS.l0 k l0 l1 0) else (some false)
theorem laws_eqKidS.mono_l : ∀ k, (∀ y0 y1 y2, LeO (laws_eqKidS.l0 k y0 y1 y2) (laws_eqKidS.l0 (k + 1) y0 y1 y2))
 | 0 => fun _ _ _ r h => by simp [laws_eqKidS.l0] at h
 | k + 1 => by
  have ih0 := laws_eqKidS.mono_l k
  ·intro y0 y1 y2
   unfold laws_eqKidS.l0
   repeat' (first | (with_reducible exact ih0 ..) | (with_reducible exact LeO.refl _) | (with_reducible exact LeO.none _) | (with_reducible refine LeO.ite ?_ ?_) | (with_reducible refine LeO.bind ?_ (fun _ => ?_)) | exact ih0 .. | exact LeO.none _ | refine LeO.ite ?_ ?_ | refine LeO.bind ?_ (fun _ => ?_))
theorem laws_eqKidS.mono : ∀ a0 a1 k, LeO (laws_eqKidS.f k a0 a1) (laws_eqKidS.f (k + 1) a0 a1) := by
 intro a0 a1 k
 have ih0 := laws_eqKidS.mono_l k
 unfold laws_eqKidS.f
 repeat' (first | (with_reducible exact ih0 ..) | (with_reducible exact LeO.refl _) | (with_reducible exact LeO.none _) | (with_reducible refine LeO.ite ?_ ?_) | (with_reducible refine LeO.bind ?_ (fun _ => ?_)) | exact ih0 .. | exact LeO.none _ | refine LeO.ite ?_ ?_ | refine LeO.bind ?_ (fun _ => ?_))
def laws_eqKidS.T6 : Bool × List (List Nat × List Nat) := (true, [([], []), ([], []), ([0, 1], [0, 1]), ([2], [2]), ([], []), ([], []), ([4, 5], [4, 5]), ([6], [6]), ([3, 7], [3, 7]), ([8], [8])])
def laws_eqKidS.B6 : List Nat := [0, 0, 3, 7, 0, 0, 48, 112, 255, 511]
theorem laws_eqKidS.tab6 : rtab .any (opsOf Try.f41 6) = laws_eqKidS.T6 := by kernel_rfl
theorem laws_eqKidS.bits6 : waitsOk laws_eqKidS.T6.2 laws_eqKidS.B6 = true := by kernel_rfl
set_option maxHeartbeats 8000000 in
set_option maxRecDepth 100000 in
theorem laws_eqKidS.calls (k : Nat) (A0 : Option Addr) (c0 : Nat) (l0 : List (S46)) (A1 : Option Addr) (c1 : Nat) (l1 : List (S46)) (r : Bool) (w : World) (hr0 : Kd.C k46 w A0 l0.length l0) (hc0 : l0.length ≤ c0) (hr1 : Kd.C k46 w A1 l1.length l1) (hc1 : l1.length ≤ c1) (h : laws_eqKidS.f k l0 l1 = some r) :
  Calls Try.prog 41 #[.slice A0 l0.length c0, .slice A1 l1.length c1] w fun e w' => e = .returned (.bool r) ∧ Below w.heap.size w w' := by
 have hu46 := Try.underlying46
 have HR0 := Aside0.mk hr0
 have HC0 := Aside0.mk hc0
 clear hr0 hc0
 have HR1 := Aside0.mk hr1
 have HC1 := Aside0.mk hc1
 clear hr1 hc1; have HB := Aside0.mk (Below.refl w.heap.size w)
 have H := h
 clear h
 unfold laws_eqKidS.f at H
 by_cases c3 : (l0.length : Int) = (l1.length : Int)
 ·rw [if_pos c3] at H
  have c3b0 : ((l0.length : Int) == (l1.length : Int)) = true := beq_iff_eq.mpr c3
  have c3b1 : ((l0.length : Int) != (l1.length : Int)) = false := bne_eq_false_iff_eq.mpr c3
  have c3b2 : (l0.length == l1.length) = true := by first | simpa using c3 | (simp at c3 ⊢; omega)
  clear c3
  have H' := Aside0.mk H
  clear H
  go_enter Try.func41, Try.ntmps41
  go_wp2
  go_loopg [5] k (fun kq v5 w' => ∃ (x5_1 : Int), v5 = .int .i64 x5_1 ∧ Aside0 (laws_eqKidS.l0 kq l0 l1 x5_1 = some r) ∧ Aside0 (kq ≤ k) ∧ Aside0 (Below w.heap.size w w'))
  case atStart => exact ⟨(0), (by first | rfl | (simp; done) | (simp [*]; done)), H', ⟨Nat.le_refl _⟩, ⟨be_ HB⟩⟩
  case round =>
   clear H'
   (try clear c1); (try clear p2); (try clear c3); (try clear c3b0); (try clear c3b1); (try clear c3b2)
   obtain ⟨x5_1, rfl, HA, HK1, HB⟩ := hrel
   cases gk with
   | zero => exact absurd HA.out (by simp [laws_eqKidS.l0])
   | succ k1 =>
    have H := HA.out
    clear HA
    simp only [laws_eqKidS.l0] at H
    by_cases c4 : x5_1 < (l0.length : Int)
    ·rw [if_pos c4] at H
     have c4b0 : decide (x5_1 < (l0.length : Int)) = true := decide_eq_true c4
     clear c4
     by_cases c5 : 0 ≤ x5_1
     ·rw [if_pos c5] at H
      have c5b0 : decide (0 ≤ x5_1) = true := decide_eq_true c5
      clear c5
      by_cases c6 : x5_1 < (l1.length : Int)
      ·rw [if_pos c6] at H
       have c6b0 : decide (x5_1 < (l1.length : Int)) = true := decide_eq_true c6
       clear c6
       replace H := Option.bind_eq_some_iff.mp H
       obtain ⟨t268, A70, H⟩ := H
       have A7 := Aside0.mk A70
       clear A70
       by_cases c8 : t268 = true
       ·subst c8
        rw [if_pos rfl] at H
        have H' := Aside0.mk H
        clear H
        try go_wp2
        replace HB := Aside0.mk (below_drew1 HB.out)
        have p266 : 0 ≤ (x5_1 : Int) := od_
        have q266 : x5_1 < (l0.length : Int) := od_
        obtain ⟨ad266, e266, hx266_0, hx266_1, hx266_2, hx266_3, hx266_4, hx266_5⟩ := at_T46 HR0.out x5_1 p266 q266
        have hw266_5 := hx266_5; have hw266_4 := hx266_4; have hw266_3 := hx266_3; have hw266_2 := hx266_2; have hw266_1 := hx266_1; have hw266_0 := hx266_0
        cases e266
        replace hx266_0 := hb_ HB hx266_0
        replace hx266_1 := hb_ HB hx266_1
        replace hx266_2 := hb_ HB hx266_2
        replace hx266_3 := hb_ HB hx266_3
        replace hx266_4 := hb_ HB hx266_4
        replace hx266_5 := hb_ HB hx266_5
        replace p266 := eq_true p266
        replace q266 := eq_true q266
        have p267 : 0 ≤ (x5_1 : Int) := od_
        have q267 : x5_1 < (l1.length : Int) := od_
        obtain ⟨ad267, e267, hx267_0, hx267_1, hx267_2, hx267_3, hx267_4, hx267_5⟩ := at_T46 HR1.out x5_1 p267 q267
        have hw267_5 := hx267_5; have hw267_4 := hx267_4; have hw267_3 := hx267_3; have hw267_2 := hx267_2; have hw267_1 := hx267_1; have hw267_0 := hx267_0
        cases e267
        replace hx267_0 := hb_ HB hx267_0
        replace hx267_1 := hb_ HB hx267_1
        replace hx267_2 := hb_ HB hx267_2
        replace hx267_3 := hb_ HB hx267_3
        replace hx267_4 := hb_ HB hx267_4
        replace hx267_5 := hb_ HB hx267_5
        replace p267 := eq_true p267
        replace q267 := eq_true q267
        refine start_ (n := 10) (S := fun w' => w'.cell? (ad266.add ((x5_1).toNat * 6)) = some (.int .i64 ((rd_T46 l0 x5_1).f0)) ∧ w'.cell? ⟨(ad266.add ((x5_1).toNat * 6)).block, (ad266.add ((x5_1).toNat * 6)).off + 1, none⟩ = some (.int .i64 ((rd_T46 l0 x5_1).f1)) ∧ w'.cell? ⟨(ad266.add ((x5_1).toNat * 6)).block, (ad266.add ((x5_1).toNat * 6)).off + 2, none⟩ = some (.bool ((rd_T46 l0 x5_1).f2)) ∧ w'.cell? ⟨(ad266.add ((x5_1).toNat * 6)).block, (ad266.add ((x5_1).toNat * 6)).off + 3, none⟩ = some (.int .i64 ((rd_T46 l0 x5_1).f3.f0)) ∧ w'.cell? ⟨(ad266.add ((x5_1).toNat * 6)).block, (ad266.add ((x5_1).toNat * 6)).off + 4, none⟩ = some (.int .i64 ((rd_T46 l0 x5_1).f3.f1)) ∧ w'.cell? ⟨(ad266.add ((x5_1).toNat * 6)).block, (ad266.add ((x5_1).toNat * 6)).off + 5, none⟩ = some (.int .i64 ((rd_T46 l0 x5_1).f3.f2)) ∧ w'.cell? (ad267.add ((x5_1).toNat * 6)) = some (.int .i64 ((rd_T46 l1 x5_1).f0)) ∧ w'.cell? ⟨(ad267.add ((x5_1).toNat * 6)).block, (ad267.add ((x5_1).toNat * 6)).off + 1, none⟩ = some (.int .i64 ((rd_T46 l1 x5_1).f1)) ∧ w'.cell? ⟨(ad267.add ((x5_1).toNat * 6)).block, (ad267.add ((x5_1).toNat * 6)).off + 2, none⟩ = some (.bool ((rd_T46 l1 x5_1).f2)) ∧ w'.cell? ⟨(ad267.add ((x5_1).toNat * 6)).block, (ad267.add ((x5_1).toNat * 6)).off + 3, none⟩ = some (.int .i64 ((rd_T46 l1 x5_1).f3.f0)) ∧ w'.cell? ⟨(ad267.add ((x5_1).toNat * 6)).block, (ad267.add ((x5_1).toNat * 6)).off + 4, none⟩ = some (.int .i64 ((rd_T46 l1 x5_1).f3.f1)) ∧ w'.cell? ⟨(ad267.add ((x5_1).toNat * 6)).block, (ad267.add ((x5_1).toNat * 6)).off + 5, none⟩ = some (.int .i64 ((rd_T46 l1 x5_1).f3.f2))) (ds := []) (bs 10 0) (by kernel_rfl) rfl rfl ⟨(hd_ HB hw266_0), (hd_ HB hw266_1), (hd_ HB hw266_2), (hd_ HB hw266_3), (hd_ HB hw266_4), (hd_ HB hw266_5), (hd_ HB hw267_0), (hd_ HB hw267_1), (hd_ HB hw267_2), (hd_ HB hw267_3), (hd_ HB hw267_4), (hd_ HB hw267_5)⟩ (fun hHeld => ?_); refine with_tabW laws_eqKidS.tab6 laws_eqKidS.bits6 (fun HT_ HW_ => ?_)
        generalize wr.drew = w9 at HB hx266_0 hx266_1 hx266_2 hx266_3 hx266_4 hx266_5 hx267_0 hx267_1 hx267_2 hx267_3 hx267_4 hx267_5 hHeld ⊢
        iterate 3 (refine psn_ HT_ ?_)
        refine ps_ 4 21 (bm 10 23) HT_ ?_
        refine ps_ 5 22 (bm 10 55) HT_ ?_
        refine ps_ 6 23 (bm 10 119) HT_ ?_
        refine tk_ 3 20 (bs 10 7) HT_ HW_ hHeld ?_
        refine tkn_ HT_ HW_ hHeld ?_
        refine on_ 8 (some 25) (bs 10 9) HT_ (fun K hK => ?_)
        refine gs_ Try.func70 #[.agg #[.int .i64 ((rd_T46 l0 x5_1).f0), .int .i64 ((rd_T46 l0 x5_1).f1), .bool ((rd_T46 l0 x5_1).f2), .int .i64 ((rd_T46 l0 x5_1).f3.f0), .int .i64 ((rd_T46 l0 x5_1).f3.f1), .int .i64 ((rd_T46 l0 x5_1).f3.f2)], .agg #[.int .i64 ((rd_T46 l1 x5_1).f0), .int .i64 ((rd_T46 l1 x5_1).f1), .bool ((rd_T46 l1 x5_1).f2), .int .i64 ((rd_T46 l1 x5_1).f3.f0), .int .i64 ((rd_T46 l1 x5_1).f3.f1), .int .i64 ((rd_T46 l1 x5_1).f3.f2)]] ?_
        with_reducible refine (laws_eqKid.calls ((rd_T46 l0 x5_1).f0) ((rd_T46 l0 x5_1).f1) ((rd_T46 l0 x5_1).f2) ((rd_T46 l0 x5_1).f3.f0) ((rd_T46 l0 x5_1).f3.f1) ((rd_T46 l0 x5_1).f3.f2) ((rd_T46 l1 x5_1).f0) ((rd_T46 l1 x5_1).f1) ((rd_T46 l1 x5_1).f2) ((rd_T46 l1 x5_1).f3.f0) ((rd_T46 l1 x5_1).f3.f1) ((rd_T46 l1 x5_1).f3.f2) true _ A7.out).mono ?_
        rintro e w10 ⟨rfl, hb⟩
        refine ⟨_, rfl, ?_⟩
        replace HB := Aside0.mk (below_step (be_ HB) hb); (try clear hb); (try clear hb2); (try clear hk); (try clear hi)
        refine hK.out _ _ ⟨(hd_ HB hw266_0), (hd_ HB hw266_1), (hd_ HB hw266_2), (hd_ HB hw266_3), (hd_ HB hw266_4), (hd_ HB hw266_5), (hd_ HB hw267_0), (hd_ HB hw267_1), (hd_ HB hw267_2), (hd_ HB hw267_3), (hd_ HB hw267_4), (hd_ HB hw267_5)⟩ (fun hHeld => ?_)
        clear hK K
        refine norm_ (a' := ?_) ?_ ?_
        rotate_left
        ·show Act.put _ (some 25) _ = _
         simp only [Act.put, ls0_, ls1_, ls2_, i64_w, i32_w]
         rfl
        refine psn_ HT_ ?_
        refine done_ (done_of HT_.out (by kernel_rfl)) ?_
        try go_wp2
        go_roundg k1
        case measure => have := HK1.out; omega
        case rel => exact ⟨(wrap64 (x5_1 + 1)), (by first | rfl | (simp; done) | (simp [*]; done)), H', ⟨by have := HK1.out; omega⟩, ⟨be_ HB⟩⟩
       ·replace c8 := Bool.eq_false_iff.mpr c8
        subst c8
        rw [if_neg (show ¬ (false = true) by decide)] at H
        obtain rfl := Option.some.inj H
        try go_wp2
        replace HB := Aside0.mk (below_drew1 HB.out)
        have p266 : 0 ≤ (x5_1 : Int) := od_
        have q266 : x5_1 < (l0.length : Int) := od_
        obtain ⟨ad266, e266, hx266_0, hx266_1, hx266_2, hx266_3, hx266_4, hx266_5⟩ := at_T46 HR0.out x5_1 p266 q266
        have hw266_5 := hx266_5; have hw266_4 := hx266_4; have hw266_3 := hx266_3; have hw266_2 := hx266_2; have hw266_1 := hx266_1; have hw266_0 := hx266_0
        cases e266
        replace hx266_0 := hb_ HB hx266_0
        replace hx266_1 := hb_ HB hx266_1
        replace hx266_2 := hb_ HB hx266_2
        replace hx266_3 := hb_ HB hx266_3
        replace hx266_4 := hb_ HB hx266_4
        replace hx266_5 := hb_ HB hx266_5
        replace p266 := eq_true p266
        replace q266 := eq_true q266
        have p267 : 0 ≤ (x5_1 : Int) := od_
        have q267 : x5_1 < (l1.length : Int) := od_
        obtain ⟨ad267, e267, hx267_0, hx267_1, hx267_2, hx267_3, hx267_4, hx267_5⟩ := at_T46 HR1.out x5_1 p267 q267
        have hw267_5 := hx267_5; have hw267_4 := hx267_4; have hw267_3 := hx267_3; have hw267_2 := hx267_2; have hw267_1 := hx267_1; have hw267_0 := hx267_0
        cases e267
        replace hx267_0 := hb_ HB hx267_0
        replace hx267_1 := hb_ HB hx267_1
        replace hx267_2 := hb_ HB hx267_2
        replace hx267_3 := hb_ HB hx267_3
        replace hx267_4 := hb_ HB hx267_4
        replace hx267_5 := hb_ HB hx267_5
        replace p267 := eq_true p267
        replace q267 := eq_true q267
        refine start_ (n := 10) (S := fun w' => w'.cell? (ad266.add ((x5_1).toNat * 6)) = some (.int .i64 ((rd_T46 l0 x5_1).f0)) ∧ w'.cell? ⟨(ad266.add ((x5_1).toNat * 6)).block, (ad266.add ((x5_1).toNat * 6)).off + 1, none⟩ = some (.int .i64 ((rd_T46 l0 x5_1).f1)) ∧ w'.cell? ⟨(ad266.add ((x5_1).toNat * 6)).block, (ad266.add ((x5_1).toNat * 6)).off + 2, none⟩ = some (.bool ((rd_T46 l0 x5_1).f2)) ∧ w'.cell? ⟨(ad266.add ((x5_1).toNat * 6)).block, (ad266.add ((x5_1).toNat * 6)).off + 3, none⟩ = some (.int .i64 ((rd_T46 l0 x5_1).f3.f0)) ∧ w'.cell? ⟨(ad266.add ((x5_1).toNat * 6)).block, (ad266.add ((x5_1).toNat * 6)).off + 4, none⟩ = some (.int .i64 ((rd_T46 l0 x5_1).f3.f1)) ∧ w'.cell? ⟨(ad266.add ((x5_1).toNat * 6)).block, (ad266.add ((x5_1).toNat * 6)).off + 5, none⟩ = some (.int .i64 ((rd_T46 l0 x5_1).f3.f2)) ∧ w'.cell? (ad267.add ((x5_1).toNat * 6)) = some (.int .i64 ((rd_T46 l1 x5_1).f0)) ∧ w'.cell? ⟨(ad267.add ((x5_1).toNat * 6)).block, (ad267.add ((x5_1).toNat * 6)).off + 1, none⟩ = some (.int .i64 ((rd_T46 l1 x5_1).f1)) ∧ w'.cell? ⟨(ad267.add ((x5_1).toNat * 6)).block, (ad267.add ((x5_1).toNat * 6)).off + 2, none⟩ = some (.bool ((rd_T46 l1 x5_1).f2)) ∧ w'.cell? ⟨(ad267.add ((x5_1).toNat * 6)).block, (ad267.add ((x5_1).toNat * 6)).off + 3, none⟩ = some (.int .i64 ((rd_T46 l1 x5_1).f3.f0)) ∧ w'.cell? ⟨(ad267.add ((x5_1).toNat * 6)).block, (ad267.add ((x5_1).toNat * 6)).off + 4, none⟩ = some (.int .i64 ((rd_T46 l1 x5_1).f3.f1)) ∧ w'.cell? ⟨(ad267.add ((x5_1).toNat * 6)).block, (ad267.add ((x5_1).toNat * 6)).off + 5, none⟩ = some (.int .i64 ((rd_T46 l1 x5_1).f3.f2))) (ds := []) (bs 10 0) (by kernel_rfl) rfl rfl ⟨(hd_ HB hw266_0), (hd_ HB hw266_1), (hd_ HB hw266_2), (hd_ HB hw266_3), (hd_ HB hw266_4), (hd_ HB hw266_5), (hd_ HB hw267_0), (hd_ HB hw267_1), (hd_ HB hw267_2), (hd_ HB hw267_3), (hd_ HB hw267_4), (hd_ HB hw267_5)⟩ (fun hHeld => ?_); refine with_tabW laws_eqKidS.tab6 laws_eqKidS.bits6 (fun HT_ HW_ => ?_)
        generalize wr.drew = w11 at HB hx266_0 hx266_1 hx266_2 hx266_3 hx266_4 hx266_5 hx267_0 hx267_1 hx267_2 hx267_3 hx267_4 hx267_5 hHeld ⊢
        iterate 3 (refine psn_ HT_ ?_)
        refine ps_ 4 21 (bm 10 23) HT_ ?_
        refine ps_ 5 22 (bm 10 55) HT_ ?_
        refine ps_ 6 23 (bm 10 119) HT_ ?_
        refine tk_ 3 20 (bs 10 7) HT_ HW_ hHeld ?_
        refine tkn_ HT_ HW_ hHeld ?_
        refine on_ 8 (some 25) (bs 10 9) HT_ (fun K hK => ?_)
        refine gs_ Try.func70 #[.agg #[.int .i64 ((rd_T46 l0 x5_1).f0), .int .i64 ((rd_T46 l0 x5_1).f1), .bool ((rd_T46 l0 x5_1).f2), .int .i64 ((rd_T46 l0 x5_1).f3.f0), .int .i64 ((rd_T46 l0 x5_1).f3.f1), .int .i64 ((rd_T46 l0 x5_1).f3.f2)], .agg #[.int .i64 ((rd_T46 l1 x5_1).f0), .int .i64 ((rd_T46 l1 x5_1).f1), .bool ((rd_T46 l1 x5_1).f2), .int .i64 ((rd_T46 l1 x5_1).f3.f0), .int .i64 ((rd_T46 l1 x5_1).f3.f1), .int .i64 ((rd_T46 l1 x5_1).f3.f2)]] ?_
        with_reducible refine (laws_eqKid.calls ((rd_T46 l0 x5_1).f0) ((rd_T46 l0 x5_1).f1) ((rd_T46 l0 x5_1).f2) ((rd_T46 l0 x5_1).f3.f0) ((rd_T46 l0 x5_1).f3.f1) ((rd_T46 l0 x5_1).f3.f2) ((rd_T46 l1 x5_1).f0) ((rd_T46 l1 x5_1).f1) ((rd_T46 l1 x5_1).f2) ((rd_T46 l1 x5_1).f3.f0) ((rd_T46 l1 x5_1).f3.f1) ((rd_T46 l1 x5_1).f3.f2) false _ A7.out).mono ?_
        rintro e w12 ⟨rfl, hb⟩
        refine ⟨_, rfl, ?_⟩
        replace HB := Aside0.mk (below_step (be_ HB) hb); (try clear hb); (try clear hb2); (try clear hk); (try clear hi)
        refine hK.out _ _ ⟨(hd_ HB hw266_0), (hd_ HB hw266_1), (hd_ HB hw266_2), (hd_ HB hw266_3), (hd_ HB hw266_4), (hd_ HB hw266_5), (hd_ HB hw267_0), (hd_ HB hw267_1), (hd_ HB hw267_2), (hd_ HB hw267_3), (hd_ HB hw267_4), (hd_ HB hw267_5)⟩ (fun hHeld => ?_)
        clear hK K
        refine norm_ (a' := ?_) ?_ ?_
        rotate_left
        ·show Act.put _ (some 25) _ = _
         simp only [Act.put, ls0_, ls1_, ls2_, i64_w, i32_w]
         rfl
        refine psn_ HT_ ?_
        refine done_ (done_of HT_.out (by kernel_rfl)) ?_
        try go_wp2
        go_ret
        exact ⟨by first | rfl | (simp [errW_none, errW_some] <;> rfl) | (simp [*, errW_none, errW_some] <;> rfl), be_ HB⟩
      ·rw [if_neg c6] at H
       exact absurd H (by simp)
     ·rw [if_neg c5] at H
      exact absurd H (by simp)
    ·rw [if_neg c4] at H
     have c4b0 : decide (x5_1 < (l0.length : Int)) = false := decide_eq_false c4
     clear c4
     obtain rfl := Option.some.inj H
     go_wp2
     go_ret
     exact ⟨by first | rfl | (simp [errW_none, errW_some] <;> rfl) | (simp [*, errW_none, errW_some] <;> rfl), be_ HB⟩
 ·rw [if_neg c3] at H
  have c3b0 : ((l0.length : Int) == (l1.length : Int)) = false := beq_eq_false_iff_ne.mpr c3
  have c3b1 : ((l0.length : Int) != (l1.length : Int)) = true := bne_iff_ne.mpr c3
  have c3b2 : (l0.length == l1.length) = false := by first | simpa using c3 | (simp at c3 ⊢; omega)
  obtain rfl := Option.some.inj H
  go_enter Try.func41, Try.ntmps41
  go_wp2
  go_ret
  exact ⟨by first | rfl | (simp [errW_none, errW_some] <;> rfl) | (simp [*, errW_none, errW_some] <;> rfl), be_ HB⟩

/-! ### laws_eqFair: function 11 -/
def laws_eqFair.f (k : Nat) (a0_0 : Int) (a0_1 : Int) (a0_2 : Int) (a0_3 : Int) (l0_4 : List (S46)) (a1_0 : Int) (a1_1 : Int) (a1_2 : Int) (a1_3 : Int) (l1_4 : List (S46)) : Option (Bool) := if a0_0 = a1_0 then ((laws_eqVec.f a0_1 a0_2 a0_3 a1_1 a1_2 a1_3).bind fun t271 => (if t271 = true then ((laws_eqKidS.f k l0_4 l1_4).bind fun t272 => (if t272 = true then (some true) else (some false))) else (some false))) else (some false)
theorem laws_eqFair.mono : ∀ a0 a1 a2 a3 a4 a5 a6 a7 a8 a9 k, LeO (laws_eqFair.f k a0 a1 a2 a3 a4 a5 a6 a7 a8 a9) (laws_eqFair.f (k + 1) a0 a1 a2 a3 a4 a5 a6 a7 a8 a9) := by
 intro a0 a1 a2 a3 a4 a5 a6 a7 a8 a9 k
 unfold laws_eqFair.f
 repeat' (first | (with_reducible exact laws_eqKidS.mono _ _ _) | (with_reducible exact LeO.refl _) | (with_reducible exact LeO.none _) | (with_reducible refine LeO.ite ?_ ?_) | (with_reducible refine LeO.bind ?_ (fun _ => ?_)) | exact laws_eqKidS.mono _ _ _ | exact LeO.none _ | refine LeO.ite ?_ ?_ | refine LeO.bind ?_ (fun _ => ?_))
set_option maxHeartbeats 8000000 in
set_option maxRecDepth 100000 in
theorem laws_eqFair.calls (k : Nat) (a0_0 : Int) (a0_1 : Int) (a0_2 : Int) (a0_3 : Int) (A0_4 : Option Addr) (c0_4 : Nat) (l0_4 : List (S46)) (a1_0 : Int) (a1_1 : Int) (a1_2 : Int) (a1_3 : Int) (A1_4 : Option Addr) (c1_4 : Nat) (l1_4 : List (S46)) (r : Bool) (w : World) (hr0_4 : Kd.C k46 w A0_4 l0_4.length l0_4) (hc0_4 : l0_4.length ≤ c0_4) (hr1_4 : Kd.C k46 w A1_4 l1_4.length l1_4) (hc1_4 : l1_4.length ≤ c1_4) (h : laws_eqFair.f k a0_0 a0_1 a0_2 a0_3 l0_4 a1_0 a1_1 a1_2 a1_3 l1_4 = some r) :
  Calls Try.prog 11 #[.agg #[.int .i64 a0_0, .int .i64 a0_1, .int .i64 a0_2, .int .i64 a0_3, .slice A0_4 l0_4.length c0_4], .agg #[.int .i64 a1_0, .int .i64 a1_1, .int .i64 a1_2, .int .i64 a1_3, .slice A1_4 l1_4.length c1_4]] w fun e w' => e = .returned (.bool r) ∧ Below w.heap.size w w' := by
 have hu31 := Try.underlying31; have hu28 := Try.underlying28
 have HR0_4 := Aside0.mk hr0_4
 have HC0_4 := Aside0.mk hc0_4
 clear hr0_4 hc0_4
 have HR1_4 := Aside0.mk hr1_4
 have HC1_4 := Aside0.mk hc1_4
 clear hr1_4 hc1_4; have HB := Aside0.mk (Below.refl w.heap.size w)
 have H := h
 clear h
 unfold laws_eqFair.f at H
 by_cases c3 : a0_0 = a1_0
 ·rw [if_pos c3] at H
  have c3b0 : (a0_0 == a1_0) = true := beq_iff_eq.mpr c3
  have c3b1 : (a0_0 != a1_0) = false := bne_eq_false_iff_eq.mpr c3
  clear c3
  replace H := Option.bind_eq_some_iff.mp H
  obtain ⟨t271, A40, H⟩ := H
  have A4 := Aside0.mk A40
  clear A40
  by_cases c5 : t271 = true
  ·subst c5
   rw [if_pos rfl] at H
   replace H := Option.bind_eq_some_iff.mp H
   obtain ⟨t272, A60, H⟩ := H
   have A6 := Aside0.mk A60
   clear A60
   by_cases c7 : t272 = true
   ·subst c7
    rw [if_pos rfl] at H
    obtain rfl := Option.some.inj H
    go_enter Try.func11, Try.ntmps11
    go_wp2_with (first | ((with_reducible refine gd_ 2 rfl ?_); refine bv_ 2 #[.int .i64 a0_0, .int .i64 a0_1, .int .i64 a0_2, .int .i64 a0_3, .slice A0_4 l0_4.length c0_4] 31 ?_; intro gb269 hg w8 hbox hb; have BK269 := Aside0.mk (hbox); have GW269 := gw_ HB hg; have GE269 := gw_ HB hg; replace HB := Aside0.mk (below_step (be_ HB) hb); clear hb hbox hg) | ((with_reducible refine gd_ 3 rfl ?_); refine bv_ 3 #[.int .i64 a1_0, .int .i64 a1_1, .int .i64 a1_2, .int .i64 a1_3, .slice A1_4 l1_4.length c1_4] 31 ?_; intro gb270 hg w9 hbox hb; have BK270 := Aside0.mk (hbox); have GW270 := gw_ HB hg; have GE270 := gw_ HB hg; replace HB := Aside0.mk (below_step (bf_ HB) hb); have NB269_270 := nl_ BK269 hg; have NB270_269 := ng_ BK269 hg; replace BK269 := bb_ BK269 hb; clear hb hbox hg; have hnb10 := NB269_270.out; have hnc10 := NB270_269.out; obtain ⟨hcz11_0, hcz11_1, hcz11_2, hcz11_3, hcz11_4, hfz11_0, hfz11_1, hfz11_2, hfz11_3, hfz11_4⟩ := bz5_ BK269; obtain ⟨hcz12_0, hcz12_1, hcz12_2, hcz12_3, hcz12_4, hfz12_0, hfz12_1, hfz12_2, hfz12_3, hfz12_4⟩ := bz5_ BK270) | ((with_reducible refine gc_ 40 rfl ?_); refine gl_ 14 Try.func40 #[.agg #[.int .i64 a0_1, .int .i64 a0_2, .int .i64 a0_3], .agg #[.int .i64 a1_1, .int .i64 a1_2, .int .i64 a1_3]] ?_; (with_reducible refine (laws_eqVec.calls a0_1 a0_2 a0_3 a1_1 a1_2 a1_3 true _ A4.out).mono ?_); rintro e w13 ⟨rfl, hb⟩; refine ⟨_, rfl, ?_⟩; replace BK269 := bb_ BK269 hb; replace BK270 := bb_ BK270 hb; replace HB := Aside0.mk (below_step (bf_ HB) hb); (try clear hb); (try clear hb2); (try clear hk); (try clear hi); obtain ⟨hcz14_0, hcz14_1, hcz14_2, hcz14_3, hcz14_4, hfz14_0, hfz14_1, hfz14_2, hfz14_3, hfz14_4⟩ := bz5_ BK269; obtain ⟨hcz15_0, hcz15_1, hcz15_2, hcz15_3, hcz15_4, hfz15_0, hfz15_1, hfz15_2, hfz15_3, hfz15_4⟩ := bz5_ BK270) | ((with_reducible refine gc_ 41 rfl ?_); refine gl_ 20 Try.func41 #[.slice A0_4 l0_4.length c0_4, .slice A1_4 l1_4.length c1_4] ?_; (with_reducible refine (laws_eqKidS.calls k _ _ l0_4 _ _ l1_4 true _ ?side1 ?side2 ?side3 ?side4 A6.out).mono ?_); (case side1 => repeat (first | exact (Kd.C_below HR0_4.out HB.out) | (with_reducible refine Kd.C_alloc ?_ _) | (with_reducible refine Kd.C_drewN ?_ _) | (with_reducible refine Kd.C_drew ?_))); (case side2 => exact HC0_4.out); (case side3 => repeat (first | exact (Kd.C_below HR1_4.out HB.out) | (with_reducible refine Kd.C_alloc ?_ _) | (with_reducible refine Kd.C_drewN ?_ _) | (with_reducible refine Kd.C_drew ?_))); (case side4 => exact HC1_4.out); rintro e w16 ⟨rfl, hb⟩; refine ⟨_, rfl, ?_⟩; replace BK269 := bb_ BK269 hb; replace BK270 := bb_ BK270 hb; replace HB := Aside0.mk (below_step (bf_ HB) hb); (try clear hb); (try clear hb2); (try clear hk); (try clear hi)))
    go_ret
    exact ⟨by first | rfl | (simp [errW_none, errW_some] <;> rfl) | (simp [*, errW_none, errW_some] <;> rfl), bf_ HB⟩
   ·replace c7 := Bool.eq_false_iff.mpr c7
    subst c7
    rw [if_neg (show ¬ (false = true) by decide)] at H
    obtain rfl := Option.some.inj H
    go_enter Try.func11, Try.ntmps11
    go_wp2_with (first | ((with_reducible refine gd_ 2 rfl ?_); refine bv_ 2 #[.int .i64 a0_0, .int .i64 a0_1, .int .i64 a0_2, .int .i64 a0_3, .slice A0_4 l0_4.length c0_4] 31 ?_; intro gb269 hg w17 hbox hb; have BK269 := Aside0.mk (hbox); have GW269 := gw_ HB hg; have GE269 := gw_ HB hg; replace HB := Aside0.mk (below_step (be_ HB) hb); clear hb hbox hg) | ((with_reducible refine gd_ 3 rfl ?_); refine bv_ 3 #[.int .i64 a1_0, .int .i64 a1_1, .int .i64 a1_2, .int .i64 a1_3, .slice A1_4 l1_4.length c1_4] 31 ?_; intro gb270 hg w18 hbox hb; have BK270 := Aside0.mk (hbox); have GW270 := gw_ HB hg; have GE270 := gw_ HB hg; replace HB := Aside0.mk (below_step (bf_ HB) hb); have NB269_270 := nl_ BK269 hg; have NB270_269 := ng_ BK269 hg; replace BK269 := bb_ BK269 hb; clear hb hbox hg; have hnb19 := NB269_270.out; have hnc19 := NB270_269.out; obtain ⟨hcz20_0, hcz20_1, hcz20_2, hcz20_3, hcz20_4, hfz20_0, hfz20_1, hfz20_2, hfz20_3, hfz20_4⟩ := bz5_ BK269; obtain ⟨hcz21_0, hcz21_1, hcz21_2, hcz21_3, hcz21_4, hfz21_0, hfz21_1, hfz21_2, hfz21_3, hfz21_4⟩ := bz5_ BK270) | ((with_reducible refine gc_ 40 rfl ?_); refine gl_ 14 Try.func40 #[.agg #[.int .i64 a0_1, .int .i64 a0_2, .int .i64 a0_3], .agg #[.int .i64 a1_1, .int .i64 a1_2, .int .i64 a1_3]] ?_; (with_reducible refine (laws_eqVec.calls a0_1 a0_2 a0_3 a1_1 a1_2 a1_3 true _ A4.out).mono ?_); rintro e w22 ⟨rfl, hb⟩; refine ⟨_, rfl, ?_⟩; replace BK269 := bb_ BK269 hb; replace BK270 := bb_ BK270 hb; replace HB := Aside0.mk (below_step (bf_ HB) hb); (try clear hb); (try clear hb2); (try clear hk); (try clear hi); obtain ⟨hcz23_0, hcz23_1, hcz23_2, hcz23_3, hcz23_4, hfz23_0, hfz23_1, hfz23_2, hfz23_3, hfz23_4⟩ := bz5_ BK269; obtain ⟨hcz24_0, hcz24_1, hcz24_2, hcz24_3, hcz24_4, hfz24_0, hfz24_1, hfz24_2, hfz24_3, hfz24_4⟩ := bz5_ BK270) | ((with_reducible refine gc_ 41 rfl ?_); refine gl_ 20 Try.func41 #[.slice A0_4 l0_4.length c0_4, .slice A1_4 l1_4.length c1_4] ?_; (with_reducible refine (laws_eqKidS.calls k _ _ l0_4 _ _ l1_4 false _ ?side1 ?side2 ?side3 ?side4 A6.out).mono ?_); (case side1 => repeat (first | exact (Kd.C_below HR0_4.out HB.out) | (with_reducible refine Kd.C_alloc ?_ _) | (with_reducible refine Kd.C_drewN ?_ _) | (with_reducible refine Kd.C_drew ?_))); (case side2 => exact HC0_4.out); (case side3 => repeat (first | exact (Kd.C_below HR1_4.out HB.out) | (with_reducible refine Kd.C_alloc ?_ _) | (with_reducible refine Kd.C_drewN ?_ _) | (with_reducible refine Kd.C_drew ?_))); (case side4 => exact HC1_4.out); rintro e w25 ⟨rfl, hb⟩; refine ⟨_, rfl, ?_⟩; replace BK269 := bb_ BK269 hb; replace BK270 := bb_ BK270 hb; replace HB := Aside0.mk (below_step (bf_ HB) hb); (try clear hb); (try clear hb2); (try clear hk); (try clear hi)))
    go_ret
    exact ⟨by first | rfl | (simp [errW_none, errW_some] <;> rfl) | (simp [*, errW_none, errW_some] <;> rfl), bf_ HB⟩
  ·replace c5 := Bool.eq_false_iff.mpr c5
   subst c5
   rw [if_neg (show ¬ (false = true) by decide)] at H
   obtain rfl := Option.some.inj H
   go_enter Try.func11, Try.ntmps11
   go_wp2_with (first | ((with_reducible refine gd_ 2 rfl ?_); refine bv_ 2 #[.int .i64 a0_0, .int .i64 a0_1, .int .i64 a0_2, .int .i64 a0_3, .slice A0_4 l0_4.length c0_4] 31 ?_; intro gb269 hg w26 hbox hb; have BK269 := Aside0.mk (hbox); have GW269 := gw_ HB hg; have GE269 := gw_ HB hg; replace HB := Aside0.mk (below_step (be_ HB) hb); clear hb hbox hg) | ((with_reducible refine gd_ 3 rfl ?_); refine bv_ 3 #[.int .i64 a1_0, .int .i64 a1_1, .int .i64 a1_2, .int .i64 a1_3, .slice A1_4 l1_4.length c1_4] 31 ?_; intro gb270 hg w27 hbox hb; have BK270 := Aside0.mk (hbox); have GW270 := gw_ HB hg; have GE270 := gw_ HB hg; replace HB := Aside0.mk (below_step (bf_ HB) hb); have NB269_270 := nl_ BK269 hg; have NB270_269 := ng_ BK269 hg; replace BK269 := bb_ BK269 hb; clear hb hbox hg; have hnb28 := NB269_270.out; have hnc28 := NB270_269.out; obtain ⟨hcz29_0, hcz29_1, hcz29_2, hcz29_3, hcz29_4, hfz29_0, hfz29_1, hfz29_2, hfz29_3, hfz29_4⟩ := bz5_ BK269; obtain ⟨hcz30_0, hcz30_1, hcz30_2, hcz30_3, hcz30_4, hfz30_0, hfz30_1, hfz30_2, hfz30_3, hfz30_4⟩ := bz5_ BK270) | ((with_reducible refine gc_ 40 rfl ?_); refine gl_ 14 Try.func40 #[.agg #[.int .i64 a0_1, .int .i64 a0_2, .int .i64 a0_3], .agg #[.int .i64 a1_1, .int .i64 a1_2, .int .i64 a1_3]] ?_; (with_reducible refine (laws_eqVec.calls a0_1 a0_2 a0_3 a1_1 a1_2 a1_3 false _ A4.out).mono ?_); rintro e w31 ⟨rfl, hb⟩; refine ⟨_, rfl, ?_⟩; replace BK269 := bb_ BK269 hb; replace BK270 := bb_ BK270 hb; replace HB := Aside0.mk (below_step (bf_ HB) hb); (try clear hb); (try clear hb2); (try clear hk); (try clear hi)))
   go_ret
   exact ⟨by first | rfl | (simp [errW_none, errW_some] <;> rfl) | (simp [*, errW_none, errW_some] <;> rfl), bf_ HB⟩
 ·rw [if_neg c3] at H
  have c3b0 : (a0_0 == a1_0) = false := beq_eq_false_iff_ne.mpr c3
  have c3b1 : (a0_0 != a1_0) = true := bne_iff_ne.mpr c3
  obtain rfl := Option.some.inj H
  go_enter Try.func11, Try.ntmps11
  go_wp2_with (first | ((with_reducible refine gd_ 2 rfl ?_); refine bv_ 2 #[.int .i64 a0_0, .int .i64 a0_1, .int .i64 a0_2, .int .i64 a0_3, .slice A0_4 l0_4.length c0_4] 31 ?_; intro gb269 hg w32 hbox hb; have BK269 := Aside0.mk (hbox); have GW269 := gw_ HB hg; have GE269 := gw_ HB hg; replace HB := Aside0.mk (below_step (be_ HB) hb); clear hb hbox hg) | ((with_reducible refine gd_ 3 rfl ?_); refine bv_ 3 #[.int .i64 a1_0, .int .i64 a1_1, .int .i64 a1_2, .int .i64 a1_3, .slice A1_4 l1_4.length c1_4] 31 ?_; intro gb270 hg w33 hbox hb; have BK270 := Aside0.mk (hbox); have GW270 := gw_ HB hg; have GE270 := gw_ HB hg; replace HB := Aside0.mk (below_step (bf_ HB) hb); have NB269_270 := nl_ BK269 hg; have NB270_269 := ng_ BK269 hg; replace BK269 := bb_ BK269 hb; clear hb hbox hg; have hnb34 := NB269_270.out; have hnc34 := NB270_269.out; obtain ⟨hcz35_0, hcz35_1, hcz35_2, hcz35_3, hcz35_4, hfz35_0, hfz35_1, hfz35_2, hfz35_3, hfz35_4⟩ := bz5_ BK269; obtain ⟨hcz36_0, hcz36_1, hcz36_2, hcz36_3, hcz36_4, hfz36_0, hfz36_1, hfz36_2, hfz36_3, hfz36_4⟩ := bz5_ BK270))
  go_ret
  exact ⟨by first | rfl | (simp [errW_none, errW_some] <;> rfl) | (simp [*, errW_none, errW_some] <;> rfl), bf_ HB⟩

/-! ### laws_markKidS: function 42 -/
def laws_markKidS.l0 : Nat → List (S46) → Int → Int → Option (Int × (List (S46)))
  | 0, _, _, _ => none
  | k + 1, x0, x1, x5 => if x5 < (x0.length : Int) then (if 0 ≤ x5 then ((some (x0.set (x5 : Int).toNat (⟨x1, (rd_T46 x0 x5).f1, (rd_T46 x0 x5).f2, (⟨(rd_T46 x0 x5).f3.f0, (rd_T46 x0 x5).f3.f1, (rd_T46 x0 x5).f3.f2⟩ : S28)⟩ : S46) : List (S46))).bind fun y273 => ((some (y273.set (x5 : Int).toNat (⟨(rd_T46 y273 x5).f0, wrap64 (x1 + 1), (rd_T46 y273 x5).f2, (⟨(rd_T46 y273 x5).f3.f0, (rd_T46 y273 x5).f3.f1, (rd_T46 y273 x5).f3.f2⟩ : S28)⟩ : S46) : List (S46))).bind fun y274 => ((some (y274.set (x5 : Int).toNat (⟨(rd_T46 y274 x5).f0, (rd_T46 y274 x5).f1, ((Int.tmod (wrap64 ((wrap64 (x1 + 1)) + 1)) 3) == 0), (⟨(rd_T46 y274 x5).f3.f0, (rd_T46 y274 x5).f3.f1, (rd_T46 y274 x5).f3.f2⟩ : S28)⟩ : S46) : List (S46))).bind fun y275 => ((some (y275.set (x5 : Int).toNat (⟨(rd_T46 y275 x5).f0, (rd_T46 y275 x5).f1, (rd_T46 y275 x5).f2, (⟨wrap64 ((wrap64 ((wrap64 (x1 + 1)) + 1)) + 1), (rd_T46 y275 x5).f3.f1, (rd_T46 y275 x5).f3.f2⟩ : S28)⟩ : S46) : List (S46))).bind fun y276 => ((some (y276.set (x5 : Int).toNat (⟨(rd_T46 y276 x5).f0, (rd_T46 y276 x5).f1, (rd_T46 y276 x5).f2, (⟨(rd_T46 y276 x5).f3.f0, wrap64 ((wrap64 ((wrap64 ((wrap64 (x1 + 1)) + 1)) + 1)) + 1), (rd_T46 y276 x5).f3.f2⟩ : S28)⟩ : S46) : List (S46))).bind fun y277 => (laws_markKidS.l0 k (y277.set (x5 : Int).toNat (⟨(rd_T46 y277 x5).f0, (rd_T46 y277 x5).f1, (rd_T46 y277 x5).f2, (⟨(rd_T46 y277 x5).f3.f0, (rd_T46 y277 x5).f3.f1, wrap64 ((wrap64 ((wrap64 ((wrap64 ((wrap64 (x1 + 1)) + 1)) + 1)) + 1)) + 1)⟩ : S28)⟩ : S46)) (wrap64 ((wrap64 ((wrap64 ((wrap64 ((wrap64 ((wrap64 (x1 + 1)) + 1)) + 1)) + 1)) + 1)) + 1)) (wrap64 (x5 + 1)))))))) else (none)) else (some (x1, x0))
def laws_markKidS.f (k : Nat) (l0 : List (S46)) (a1 : Int) : Option (Int × (List (S46))) := laws_markKidS.l0 k l0 a1 0
theorem laws_markKidS.mono_l : ∀ k, (∀ y0 y1 y2, LeO (laws_markKidS.l0 k y0 y1 y2) (laws_markKidS.l0 (k + 1) y0 y1 y2))
 | 0 => fun _ _ _ r h => by simp [laws_markKidS.l0] at h
 | k + 1 => by
  have ih0 := laws_markKidS.mono_l k
  ·intro y0 y1 y2
   unfold laws_markKidS.l0
   repeat' (first | (with_reducible exact ih0 ..) | (with_reducible exact LeO.refl _) | (with_reducible exact LeO.none _) | (with_reducible refine LeO.ite ?_ ?_) | (with_reducible refine LeO.bind ?_ (fun _ => ?_)) | exact ih0 .. | exact LeO.none _ | refine LeO.ite ?_ ?_ | refine LeO.bind ?_ (fun _ => ?_))
theorem laws_markKidS.mono : ∀ a0 a1 k, LeO (laws_markKidS.f k a0 a1) (laws_markKidS.f (k + 1) a0 a1) := by
 intro a0 a1 k
 have ih0 := laws_markKidS.mono_l k
 unfold laws_markKidS.f
 repeat' (first | (with_reducible exact ih0 ..) | (with_reducible exact LeO.refl _) | (with_reducible exact LeO.none _) | (with_reducible refine LeO.ite ?_ ?_) | (with_reducible refine LeO.bind ?_ (fun _ => ?_)) | exact ih0 .. | exact LeO.none _ | refine LeO.ite ?_ ?_ | refine LeO.bind ?_ (fun _ => ?_))
set_option maxHeartbeats 8000000 in
set_option maxRecDepth 100000 in
theorem laws_markKidS.calls (k : Nat) (P0_ : Nat → Prop) (u9000_ : Value) (l0 : List (S46)) (a1 : Int) (r1 : Int) (r2 : List (S46)) (w0 w : World) (hB : Below w0.heap.size w0 w) (ho0 : Kd.R k46 46 w w0.heap.size P0_ u9000_ l0) (h : laws_markKidS.f k l0 a1 = some (r1, r2)) :
  Calls Try.prog 42 #[u9000_, .int .i64 a1] w fun e w' => e = .returned (.int .i64 r1) ∧ Kd.R k46 46 w' w0.heap.size (fun k_ => (P0_ k_ ∨ w.heap.size ≤ k_)) u9000_ r2 ∧ Below w0.heap.size w0 w' ∧ Kept w w' (fun k_ => P0_ k_) := by
 have HO0 := Aside0.mk (show Kd.R k46 46 w w0.heap.size (fun k_ => (P0_ k_ ∨ w.heap.size ≤ k_)) u9000_ l0 from Kd.R_mono ho0 (fun k_ hk => by first | exact (.inl hk) | grind))
 have HK := Aside0.mk (Kept.refl w (fun k_ => P0_ k_))
 have HW0 := Aside0.mk hB.size
 have HB := Aside0.mk hB; clear hB
 have H := h
 clear h
 unfold laws_markKidS.f at H
 have H' := Aside0.mk H
 clear H
 go_enter Try.func42, Try.ntmps42
 go_wp2
 go_loopg [1, 5] k (fun kq v1 v5 w' => ∃ (x0_1 : List (S46)) (x1_1 : Int) (x5_1 : Int), v1 = .int .i64 x1_1 ∧ v5 = .int .i64 x5_1 ∧ Aside0 (laws_markKidS.l0 kq x0_1 x1_1 x5_1 = some (r1, r2)) ∧ Aside0 (kq ≤ k) ∧ Aside0 (Kd.R k46 46 w' w0.heap.size (fun k_ => (P0_ k_ ∨ w.heap.size ≤ k_)) u9000_ x0_1) ∧ Aside0 (Kept w w' (fun k_ => P0_ k_)) ∧ Aside0 (Below w0.heap.size w0 w'))
 case atStart => exact ⟨(l0), (a1), (0), (by first | rfl | (simp; done) | (simp [*]; done)), (by first | rfl | (simp; done) | (simp [*]; done)), H', ⟨Nat.le_refl _⟩, ⟨kr_ HO0⟩, ⟨by repeat (first | (with_reducible first | exact HK.out | apply Kept.alloc | apply Kept.drewN | apply Kept.drew) | exact HK.out)⟩, ⟨be_ HB⟩⟩
 case round =>
  clear H'
  (try clear p2)
  obtain ⟨x0_1, x1_1, x5_1, rfl, rfl, HA, HK1, HO_0, HK, HB⟩ := hrel
  cases gk with
  | zero => exact absurd HA.out (by simp [laws_markKidS.l0])
  | succ k1 =>
   have H := HA.out
   clear HA
   simp only [laws_markKidS.l0] at H
   by_cases c3 : x5_1 < (x0_1.length : Int)
   ·rw [if_pos c3] at H
    have c3b0 : decide (x5_1 < (x0_1.length : Int)) = true := decide_eq_true c3
    clear c3
    by_cases c4 : 0 ≤ x5_1
    ·rw [if_pos c4] at H
     have c4b0 : decide (0 ≤ x5_1) = true := decide_eq_true c4
     clear c4
     obtain ⟨y273, hy273⟩ : ∃ y_ : List (S46), y_ = (x0_1.set (x5_1 : Int).toNat (⟨x1_1, (rd_T46 x0_1 x5_1).f1, (rd_T46 x0_1 x5_1).f2, (⟨(rd_T46 x0_1 x5_1).f3.f0, (rd_T46 x0_1 x5_1).f3.f1, (rd_T46 x0_1 x5_1).f3.f2⟩ : S28)⟩ : S46)) := ⟨_, rfl⟩
     replace H : ((some (y273.set (x5_1 : Int).toNat (⟨(rd_T46 y273 x5_1).f0, wrap64 (x1_1 + 1), (rd_T46 y273 x5_1).f2, (⟨(rd_T46 y273 x5_1).f3.f0, (rd_T46 y273 x5_1).f3.f1, (rd_T46 y273 x5_1).f3.f2⟩ : S28)⟩ : S46) : List (S46))).bind fun y274 => ((some (y274.set (x5_1 : Int).toNat (⟨(rd_T46 y274 x5_1).f0, (rd_T46 y274 x5_1).f1, ((Int.tmod (wrap64 ((wrap64 (x1_1 + 1)) + 1)) 3) == 0), (⟨(rd_T46 y274 x5_1).f3.f0, (rd_T46 y274 x5_1).f3.f1, (rd_T46 y274 x5_1).f3.f2⟩ : S28)⟩ : S46) : List (S46))).bind fun y275 => ((some (y275.set (x5_1 : Int).toNat (⟨(rd_T46 y275 x5_1).f0, (rd_T46 y275 x5_1).f1, (rd_T46 y275 x5_1).f2, (⟨wrap64 ((wrap64 ((wrap64 (x1_1 + 1)) + 1)) + 1), (rd_T46 y275 x5_1).f3.f1, (rd_T46 y275 x5_1).f3.f2⟩ : S28)⟩ : S46) : List (S46))).bind fun y276 => ((some (y276.set (x5_1 : Int).toNat (⟨(rd_T46 y276 x5_1).f0, (rd_T46 y276 x5_1).f1, (rd_T46 y276 x5_1).f2, (⟨(rd_T46 y276 x5_1).f3.f0, wrap64 ((wrap64 ((wrap64 ((wrap64 (x1_1 + 1)) + 1)) + 1)) + 1), (rd_T46 y276 x5_1).f3.f2⟩ : S28)⟩ : S46) : List (S46))).bind fun y277 => (laws_markKidS.l0 k1 (y277.set (x5_1 : Int).toNat (⟨(rd_T46 y277 x5_1).f0, (rd_T46 y277 x5_1).f1, (rd_T46 y277 x5_1).f2, (⟨(rd_T46 y277 x5_1).f3.f0, (rd_T46 y277 x5_1).f3.f1, wrap64 ((wrap64 ((wrap64 ((wrap64 ((wrap64 (x1_1 + 1)) + 1)) + 1)) + 1)) + 1)⟩ : S28)⟩ : S46)) (wrap64 ((wrap64 ((wrap64 ((wrap64 ((wrap64 ((wrap64 (x1_1 + 1)) + 1)) + 1)) + 1)) + 1)) + 1)) (wrap64 (x5_1 + 1))))))) = some (r1, r2) := by first | (rw [hy273]; with_reducible exact H) | (have H2_ := (Option.bind_some _ _).symm.trans H; rw [hy273]; with_reducible exact H2_) | (have H2_ := (Option.bind_some _ _).symm.trans H; with_reducible exact H2_) | with_reducible exact H | (rw [hy273]; exact H) | exact H
     have Ny273 := Aside0.mk hy273
     clear hy273
     obtain ⟨y274, hy274⟩ : ∃ y_ : List (S46), y_ = (y273.set (x5_1 : Int).toNat (⟨(rd_T46 y273 x5_1).f0, wrap64 (x1_1 + 1), (rd_T46 y273 x5_1).f2, (⟨(rd_T46 y273 x5_1).f3.f0, (rd_T46 y273 x5_1).f3.f1, (rd_T46 y273 x5_1).f3.f2⟩ : S28)⟩ : S46)) := ⟨_, rfl⟩
     replace H : ((some (y274.set (x5_1 : Int).toNat (⟨(rd_T46 y274 x5_1).f0, (rd_T46 y274 x5_1).f1, ((Int.tmod (wrap64 ((wrap64 (x1_1 + 1)) + 1)) 3) == 0), (⟨(rd_T46 y274 x5_1).f3.f0, (rd_T46 y274 x5_1).f3.f1, (rd_T46 y274 x5_1).f3.f2⟩ : S28)⟩ : S46) : List (S46))).bind fun y275 => ((some (y275.set (x5_1 : Int).toNat (⟨(rd_T46 y275 x5_1).f0, (rd_T46 y275 x5_1).f1, (rd_T46 y275 x5_1).f2, (⟨wrap64 ((wrap64 ((wrap64 (x1_1 + 1)) + 1)) + 1), (rd_T46 y275 x5_1).f3.f1, (rd_T46 y275 x5_1).f3.f2⟩ : S28)⟩ : S46) : List (S46))).bind fun y276 => ((some (y276.set (x5_1 : Int).toNat (⟨(rd_T46 y276 x5_1).f0, (rd_T46 y276 x5_1).f1, (rd_T46 y276 x5_1).f2, (⟨(rd_T46 y276 x5_1).f3.f0, wrap64 ((wrap64 ((wrap64 ((wrap64 (x1_1 + 1)) + 1)) + 1)) + 1), (rd_T46 y276 x5_1).f3.f2⟩ : S28)⟩ : S46) : List (S46))).bind fun y277 => (laws_markKidS.l0 k1 (y277.set (x5_1 : Int).toNat (⟨(rd_T46 y277 x5_1).f0, (rd_T46 y277 x5_1).f1, (rd_T46 y277 x5_1).f2, (⟨(rd_T46 y277 x5_1).f3.f0, (rd_T46 y277 x5_1).f3.f1, wrap64 ((wrap64 ((wrap64 ((wrap64 ((wrap64 (x1_1 + 1)) + 1)) + 1)) + 1)) + 1)⟩ : S28)⟩ : S46)) (wrap64 ((wrap64 ((wrap64 ((wrap64 ((wrap64 ((wrap64 (x1_1 + 1)) + 1)) + 1)) + 1)) + 1)) + 1)) (wrap64 (x5_1 + 1)))))) = some (r1, r2) := by first | (rw [hy274]; with_reducible exact H) | (have H2_ := (Option.bind_some _ _).symm.trans H; rw [hy274]; with_reducible exact H2_) | (have H2_ := (Option.bind_some _ _).symm.trans H; with_reducible exact H2_) | with_reducible exact H | (rw [hy274]; exact H) | exact H
     have Ny274 := Aside0.mk hy274
     clear hy274
     obtain ⟨y275, hy275⟩ : ∃ y_ : List (S46), y_ = (y274.set (x5_1 : Int).toNat (⟨(rd_T46 y274 x5_1).f0, (rd_T46 y274 x5_1).f1, ((Int.tmod (wrap64 ((wrap64 (x1_1 + 1)) + 1)) 3) == 0), (⟨(rd_T46 y274 x5_1).f3.f0, (rd_T46 y274 x5_1).f3.f1, (rd_T46 y274 x5_1).f3.f2⟩ : S28)⟩ : S46)) := ⟨_, rfl⟩
     replace H : ((some (y275.set (x5_1 : Int).toNat (⟨(rd_T46 y275 x5_1).f0, (rd_T46 y275 x5_1).f1, (rd_T46 y275 x5_1).f2, (⟨wrap64 ((wrap64 ((wrap64 (x1_1 + 1)) + 1)) + 1), (rd_T46 y275 x5_1).f3.f1, (rd_T46 y275 x5_1).f3.f2⟩ : S28)⟩ : S46) : List (S46))).bind fun y276 => ((some (y276.set (x5_1 : Int).toNat (⟨(rd_T46 y276 x5_1).f0, (rd_T46 y276 x5_1).f1, (rd_T46 y276 x5_1).f2, (⟨(rd_T46 y276 x5_1).f3.f0, wrap64 ((wrap64 ((wrap64 ((wrap64 (x1_1 + 1)) + 1)) + 1)) + 1), (rd_T46 y276 x5_1).f3.f2⟩ : S28)⟩ : S46) : List (S46))).bind fun y277 => (laws_markKidS.l0 k1 (y277.set (x5_1 : Int).toNat (⟨(rd_T46 y277 x5_1).f0, (rd_T46 y277 x5_1).f1, (rd_T46 y277 x5_1).f2, (⟨(rd_T46 y277 x5_1).f3.f0, (rd_T46 y277 x5_1).f3.f1, wrap64 ((wrap64 ((wrap64 ((wrap64 ((wrap64 (x1_1 + 1)) + 1)) + 1)) + 1)) + 1)⟩ : S28)⟩ : S46)) (wrap64 ((wrap64 ((wrap64 ((wrap64 ((wrap64 ((wrap64 (x1_1 + 1)) + 1)) + 1)) + 1)) + 1)) + 1)) (wrap64 (x5_1 + 1))))) = some (r1, r2) := by first | (rw [hy275]; with_reducible exact H) | (have H2_ := (Option.bind_some _ _).symm.trans H; rw [hy275]; with_reducible exact H2_) | (have H2_ := (Option.bind_some _ _).symm.trans H; with_reducible exact H2_) | with_reducible exact H | (rw [hy275]; exact H) | exact H
     have Ny275 := Aside0.mk hy275
     clear hy275
     obtain ⟨y276, hy276⟩ : ∃ y_ : List (S46), y_ = (y275.set (x5_1 : Int).toNat (⟨(rd_T46 y275 x5_1).f0, (rd_T46 y275 x5_1).f1, (rd_T46 y275 x5_1).f2, (⟨wrap64 ((wrap64 ((wrap64 (x1_1 + 1)) + 1)) + 1), (rd_T46 y275 x5_1).f3.f1, (rd_T46 y275 x5_1).f3.f2⟩ : S28)⟩ : S46)) := ⟨_, rfl⟩
     replace H : ((some (y276.set (x5_1 : Int).toNat (⟨(rd_T46 y276 x5_1).f0, (rd_T46 y276 x5_1).f1, (rd_T46 y276 x5_1).f2, (⟨(rd_T46 y276 x5_1).f3.f0, wrap64 ((wrap64 ((wrap64 ((wrap64 (x1_1 + 1)) + 1)) + 1)) + 1), (rd_T46 y276 x5_1).f3.f2⟩ : S28)⟩ : S46) : List (S46))).bind fun y277 => (laws_markKidS.l0 k1 (y277.set (x5_1 : Int).toNat (⟨(rd_T46 y277 x5_1).f0, (rd_T46 y277 x5_1).f1, (rd_T46 y277 x5_1).f2, (⟨(rd_T46 y277 x5_1).f3.f0, (rd_T46 y277 x5_1).f3.f1, wrap64 ((wrap64 ((wrap64 ((wrap64 ((wrap64 (x1_1 + 1)) + 1)) + 1)) + 1)) + 1)⟩ : S28)⟩ : S46)) (wrap64 ((wrap64 ((wrap64 ((wrap64 ((wrap64 ((wrap64 (x1_1 + 1)) + 1)) + 1)) + 1)) + 1)) + 1)) (wrap64 (x5_1 + 1)))) = some (r1, r2) := by first | (rw [hy276]; with_reducible exact H) | (have H2_ := (Option.bind_some _ _).symm.trans H; rw [hy276]; with_reducible exact H2_) | (have H2_ := (Option.bind_some _ _).symm.trans H; with_reducible exact H2_) | with_reducible exact H | (rw [hy276]; exact H) | exact H
     have Ny276 := Aside0.mk hy276
     clear hy276
     obtain ⟨y277, hy277⟩ : ∃ y_ : List (S46), y_ = (y276.set (x5_1 : Int).toNat (⟨(rd_T46 y276 x5_1).f0, (rd_T46 y276 x5_1).f1, (rd_T46 y276 x5_1).f2, (⟨(rd_T46 y276 x5_1).f3.f0, wrap64 ((wrap64 ((wrap64 ((wrap64 (x1_1 + 1)) + 1)) + 1)) + 1), (rd_T46 y276 x5_1).f3.f2⟩ : S28)⟩ : S46)) := ⟨_, rfl⟩
     replace H : (laws_markKidS.l0 k1 (y277.set (x5_1 : Int).toNat (⟨(rd_T46 y277 x5_1).f0, (rd_T46 y277 x5_1).f1, (rd_T46 y277 x5_1).f2, (⟨(rd_T46 y277 x5_1).f3.f0, (rd_T46 y277 x5_1).f3.f1, wrap64 ((wrap64 ((wrap64 ((wrap64 ((wrap64 (x1_1 + 1)) + 1)) + 1)) + 1)) + 1)⟩ : S28)⟩ : S46)) (wrap64 ((wrap64 ((wrap64 ((wrap64 ((wrap64 ((wrap64 (x1_1 + 1)) + 1)) + 1)) + 1)) + 1)) + 1)) (wrap64 (x5_1 + 1))) = some (r1, r2) := by first | (rw [hy277]; with_reducible exact H) | (have H2_ := (Option.bind_some _ _).symm.trans H; rw [hy277]; with_reducible exact H2_) | (have H2_ := (Option.bind_some _ _).symm.trans H; with_reducible exact H2_) | with_reducible exact H | (rw [hy277]; exact H) | exact H
     have Ny277 := Aside0.mk hy277
     clear hy277
     obtain ⟨y278, hy278⟩ : ∃ y_ : List (S46), y_ = (y277.set (x5_1 : Int).toNat (⟨(rd_T46 y277 x5_1).f0, (rd_T46 y277 x5_1).f1, (rd_T46 y277 x5_1).f2, (⟨(rd_T46 y277 x5_1).f3.f0, (rd_T46 y277 x5_1).f3.f1, wrap64 ((wrap64 ((wrap64 ((wrap64 ((wrap64 (x1_1 + 1)) + 1)) + 1)) + 1)) + 1)⟩ : S28)⟩ : S46)) := ⟨_, rfl⟩
     replace H : (laws_markKidS.l0 k1 y278 (wrap64 ((wrap64 ((wrap64 ((wrap64 ((wrap64 ((wrap64 (x1_1 + 1)) + 1)) + 1)) + 1)) + 1)) + 1)) (wrap64 (x5_1 + 1))) = some (r1, r2) := by first | (rw [hy278]; with_reducible exact H) | (have H2_ := (Option.bind_some _ _).symm.trans H; rw [hy278]; with_reducible exact H2_) | (have H2_ := (Option.bind_some _ _).symm.trans H; with_reducible exact H2_) | with_reducible exact H | (rw [hy278]; exact H) | exact H
     have Ny278 := Aside0.mk hy278
     clear hy278
     have H' := Aside0.mk H
     clear H
     obtain ⟨Ao11, co11, eo11⟩ := Kd.R_slice HO_0.out
     subst eo11
     have p5 : 0 ≤ (x5_1 : Int) := od_
     have q5 : (x5_1 : Int) < ((x0_1.length : Int) : Int) := od_
     obtain ⟨go5, co5, eo5, gb5, gl5, cl5, HG5⟩ := Kd.R_form HO_0.out (by omega)
     (first | cases eo5 | (injection eo5 with ea_ en_ ec_; (first | subst ea_ | (injection ea_ with ea_; subst ea_)); subst ec_; clear en_))
     have GB5 := Aside0.mk gb5
     have GG5 := Aside0.mk HG5
     clear gb5 gl5 HG5
     have HMgo5 := Aside0.mk (show (P0_ go5 ∨ w.heap.size ≤ go5) from (HO_0.out.1 _ rfl))
     obtain ⟨ce5, hcl5, hM5, hcc5, hfr5⟩ := Kd.R_elem HO_0.out z46 (x5_1 : Int) p5 q5
     obtain rfl := k46_openM hM5
     have hx5_0 : wr.cell? ⟨go5, (x5_1 : Int).toNat * 6, none⟩ = some (.int .i64 ((rd_T46 x0_1 x5_1).f0)) := hcc5 0 _ rfl
     have hx5_1 : wr.cell? ⟨go5, (x5_1 : Int).toNat * 6 + 1, none⟩ = some (.int .i64 ((rd_T46 x0_1 x5_1).f1)) := hcc5 1 _ rfl
     have hx5_2 : wr.cell? ⟨go5, (x5_1 : Int).toNat * 6 + 2, none⟩ = some (.bool ((rd_T46 x0_1 x5_1).f2)) := hcc5 2 _ rfl
     have hx5_3 : wr.cell? ⟨go5, (x5_1 : Int).toNat * 6 + 3, none⟩ = some (.int .i64 ((rd_T46 x0_1 x5_1).f3.f0)) := hcc5 3 _ rfl
     have hx5_4 : wr.cell? ⟨go5, (x5_1 : Int).toNat * 6 + 4, none⟩ = some (.int .i64 ((rd_T46 x0_1 x5_1).f3.f1)) := hcc5 4 _ rfl
     have hx5_5 : wr.cell? ⟨go5, (x5_1 : Int).toNat * 6 + 5, none⟩ = some (.int .i64 ((rd_T46 x0_1 x5_1).f3.f2)) := hcc5 5 _ rfl
     have hf5_0 : wr.frozen? ⟨go5, (x5_1 : Int).toNat * 6, none⟩ = false := hfr5 0
     have hf5_1 : wr.frozen? ⟨go5, (x5_1 : Int).toNat * 6 + 1, none⟩ = false := hfr5 1
     have hf5_2 : wr.frozen? ⟨go5, (x5_1 : Int).toNat * 6 + 2, none⟩ = false := hfr5 2
     have hf5_3 : wr.frozen? ⟨go5, (x5_1 : Int).toNat * 6 + 3, none⟩ = false := hfr5 3
     have hf5_4 : wr.frozen? ⟨go5, (x5_1 : Int).toNat * 6 + 4, none⟩ = false := hfr5 4
     have hf5_5 : wr.frozen? ⟨go5, (x5_1 : Int).toNat * 6 + 5, none⟩ = false := hfr5 5
     clear hcl5 hcc5 hfr5 hM5
     replace p5 := eq_true p5
     replace q5 := eq_true q5
     have HX12 := Aside0.mk (show Kd.R k46 46 wr w0.heap.size (fun k_ => (P0_ k_ ∨ w.heap.size ≤ k_)) (.slice (some ⟨go5, 0, none⟩) x0_1.length co11) x0_1 from (kr_ HO_0))
     obtain ⟨ce12, hcl12, hM12, hcc12, hfr12⟩ := Kd.R_elem HX12.out z46 (x5_1 : Int) (od_) (by have h_ : (x5_1 : Int) < ((x0_1.length : Int) : Int) := od_; first | exact h_ | (have e_ := (Kd.R_reads' HO_0.out).1; omega) | simpa using h_)
     obtain rfl := k46_openM hM12
     have HP12 := Kd.R_seg HX12.out (x5_1 : Int) (od_) (by have h_ : (x5_1 : Int) < ((x0_1.length : Int) : Int) := od_; first | exact h_ | (have e_ := (Kd.R_reads' HO_0.out).1; omega) | simpa using h_) (seg := [.int .i64 x1_1]) (j := 0) hcl12 hcc12 (show 1 ≤ 6 from by decide) (x' := (⟨x1_1, (rd_T46 x0_1 x5_1).f1, (rd_T46 x0_1 x5_1).f2, (⟨(rd_T46 x0_1 x5_1).f3.f0, (rd_T46 x0_1 x5_1).f3.f1, (rd_T46 x0_1 x5_1).f3.f2⟩ : S28)⟩ : S46)) (k46_mkM _ _ _ (⟨x1_1, (rd_T46 x0_1 x5_1).f1, (rd_T46 x0_1 x5_1).f2, (⟨(rd_T46 x0_1 x5_1).f3.f0, (rd_T46 x0_1 x5_1).f3.f1, (rd_T46 x0_1 x5_1).f3.f2⟩ : S28)⟩ : S46) ) (fun _ hk => by first | exact hk | grind)
     have hx12_0 := hcc12 0 _ rfl
     (try simp only [show (k46).sz = 6 from rfl, Nat.mul_one, Nat.add_zero] at hx12_0)
     have hf12_0 := hfr12 0
     (try simp only [show (k46).sz = 6 from rfl, Nat.mul_one, Nat.add_zero] at hf12_0)
     clear hcl12 hcc12 hfr12 hM12
     go_wp2_with (first | ((with_reducible refine gate_store (t := 3) (p := 16) rfl ?_); refine store_event (t := 3) (p := 16) (v := ?vo_w13) (w1 := (wr.setCell ⟨go5, (x5_1 : Int).toNat * 6, none⟩ (.int .i64 x1_1))) ?hg ?ho ?hn ?hr ?_; (case ho => rfl); (case hg => rfl); (case hn => rfl); (case hr => first | (go_simp; done) | (go_simp; rfl)); intro w13 hw; have hg : wr.grownBy w13 (some go5) := (by rw [hw]; exact HP12.2); have hp_ : Kd.R k46 46 w13 w0.heap.size (fun k_ => (P0_ k_ ∨ w.heap.size ≤ k_)) (.slice (some ⟨go5, 0, none⟩) x0_1.length co11) y273 := (by rw [hw, Ny273.out]; exact HP12.1); clear HP12; replace HB := Aside0.mk ((by rw [hw]; exact below_set (HB.out) GB5.out : Below w0.heap.size w0 w13)); replace HK := Aside0.mk (Kept.of_grown (S := (fun k_ => P0_ k_)) hg (by repeat (first | (with_reducible first | exact HK.out | apply Kept.alloc | apply Kept.drewN | apply Kept.drew) | exact HK.out)) (fun k_ e_ => (HO_0.out.1 k_ e_))); replace HO_0 := Aside0.mk (hp_); clear hg hw hp_; have p6 : 0 ≤ (x5_1 : Int) := od_; have q6 : (x5_1 : Int) < ((x0_1.length : Int) : Int) := od_; obtain ⟨ce6, hcl6, hM6, hcc6, hfr6⟩ := Kd.R_elem HO_0.out z46 (x5_1 : Int) p6 q6; obtain rfl := k46_openM hM6; have hx6_0 : w13.cell? ⟨go5, (x5_1 : Int).toNat * 6, none⟩ = some (.int .i64 ((rd_T46 y273 x5_1).f0)) := hcc6 0 _ rfl; have hx6_1 : w13.cell? ⟨go5, (x5_1 : Int).toNat * 6 + 1, none⟩ = some (.int .i64 ((rd_T46 y273 x5_1).f1)) := hcc6 1 _ rfl; have hx6_2 : w13.cell? ⟨go5, (x5_1 : Int).toNat * 6 + 2, none⟩ = some (.bool ((rd_T46 y273 x5_1).f2)) := hcc6 2 _ rfl; have hx6_3 : w13.cell? ⟨go5, (x5_1 : Int).toNat * 6 + 3, none⟩ = some (.int .i64 ((rd_T46 y273 x5_1).f3.f0)) := hcc6 3 _ rfl; have hx6_4 : w13.cell? ⟨go5, (x5_1 : Int).toNat * 6 + 4, none⟩ = some (.int .i64 ((rd_T46 y273 x5_1).f3.f1)) := hcc6 4 _ rfl; have hx6_5 : w13.cell? ⟨go5, (x5_1 : Int).toNat * 6 + 5, none⟩ = some (.int .i64 ((rd_T46 y273 x5_1).f3.f2)) := hcc6 5 _ rfl; have hf6_0 : w13.frozen? ⟨go5, (x5_1 : Int).toNat * 6, none⟩ = false := hfr6 0; have hf6_1 : w13.frozen? ⟨go5, (x5_1 : Int).toNat * 6 + 1, none⟩ = false := hfr6 1; have hf6_2 : w13.frozen? ⟨go5, (x5_1 : Int).toNat * 6 + 2, none⟩ = false := hfr6 2; have hf6_3 : w13.frozen? ⟨go5, (x5_1 : Int).toNat * 6 + 3, none⟩ = false := hfr6 3; have hf6_4 : w13.frozen? ⟨go5, (x5_1 : Int).toNat * 6 + 4, none⟩ = false := hfr6 4; have hf6_5 : w13.frozen? ⟨go5, (x5_1 : Int).toNat * 6 + 5, none⟩ = false := hfr6 5; clear hcl6 hcc6 hfr6 hM6; replace p6 := eq_true p6; replace q6 := eq_true q6; have HX14 := Aside0.mk (show Kd.R k46 46 w13 w0.heap.size (fun k_ => (P0_ k_ ∨ w.heap.size ≤ k_)) (.slice (some ⟨go5, 0, none⟩) x0_1.length co11) y273 from (kr_ HO_0)); obtain ⟨ce14, hcl14, hM14, hcc14, hfr14⟩ := Kd.R_elem HX14.out z46 (x5_1 : Int) (od_) (by have h_ : (x5_1 : Int) < ((x0_1.length : Int) : Int) := od_; first | exact h_ | (have e_ := (Kd.R_reads' HO_0.out).1; omega) | simpa using h_); obtain rfl := k46_openM hM14; have HP14 := Kd.R_seg HX14.out (x5_1 : Int) (od_) (by have h_ : (x5_1 : Int) < ((x0_1.length : Int) : Int) := od_; first | exact h_ | (have e_ := (Kd.R_reads' HO_0.out).1; omega) | simpa using h_) (seg := [.int .i64 (wrap64 (x1_1 + 1))]) (j := 1) hcl14 hcc14 (show 2 ≤ 6 from by decide) (x' := (⟨(rd_T46 y273 x5_1).f0, wrap64 (x1_1 + 1), (rd_T46 y273 x5_1).f2, (⟨(rd_T46 y273 x5_1).f3.f0, (rd_T46 y273 x5_1).f3.f1, (rd_T46 y273 x5_1).f3.f2⟩ : S28)⟩ : S46)) (k46_mkM _ _ _ (⟨(rd_T46 y273 x5_1).f0, wrap64 (x1_1 + 1), (rd_T46 y273 x5_1).f2, (⟨(rd_T46 y273 x5_1).f3.f0, (rd_T46 y273 x5_1).f3.f1, (rd_T46 y273 x5_1).f3.f2⟩ : S28)⟩ : S46) ) (fun _ hk => by first | exact hk | grind); have hx14_1 := hcc14 1 _ rfl; (try simp only [show (k46).sz = 6 from rfl, Nat.mul_one, Nat.add_zero] at hx14_1); have hf14_1 := hfr14 1; (try simp only [show (k46).sz = 6 from rfl, Nat.mul_one, Nat.add_zero] at hf14_1); clear hcl14 hcc14 hfr14 hM14) | ((with_reducible refine gate_store (t := 3) (p := 23) rfl ?_); refine store_event (t := 3) (p := 23) (v := ?vo_w15) (w1 := (w13.setCell ⟨go5, (x5_1 : Int).toNat * 6 + 1, none⟩ (.int .i64 (wrap64 (x1_1 + 1))))) ?hg ?ho ?hn ?hr ?_; (case ho => rfl); (case hg => rfl); (case hn => rfl); (case hr => first | (go_simp; done) | (go_simp; rfl)); intro w15 hw; have hg : w13.grownBy w15 (some go5) := (by rw [hw]; exact HP14.2); have hp_ : Kd.R k46 46 w15 w0.heap.size (fun k_ => (P0_ k_ ∨ w.heap.size ≤ k_)) (.slice (some ⟨go5, 0, none⟩) x0_1.length co11) y274 := (by rw [hw, Ny274.out]; exact HP14.1); clear HP14; replace HB := Aside0.mk ((by rw [hw]; exact below_set (HB.out) GB5.out : Below w0.heap.size w0 w15)); replace HK := Aside0.mk (Kept.of_grown (S := (fun k_ => P0_ k_)) hg (by repeat (first | (with_reducible first | exact HK.out | apply Kept.alloc | apply Kept.drewN | apply Kept.drew) | exact HK.out)) (fun k_ e_ => (HO_0.out.1 k_ e_))); replace HO_0 := Aside0.mk (hp_); clear hg hw hp_; have p7 : 0 ≤ (x5_1 : Int) := od_; have q7 : (x5_1 : Int) < ((x0_1.length : Int) : Int) := od_; obtain ⟨ce7, hcl7, hM7, hcc7, hfr7⟩ := Kd.R_elem HO_0.out z46 (x5_1 : Int) p7 q7; obtain rfl := k46_openM hM7; have hx7_0 : w15.cell? ⟨go5, (x5_1 : Int).toNat * 6, none⟩ = some (.int .i64 ((rd_T46 y274 x5_1).f0)) := hcc7 0 _ rfl; have hx7_1 : w15.cell? ⟨go5, (x5_1 : Int).toNat * 6 + 1, none⟩ = some (.int .i64 ((rd_T46 y274 x5_1).f1)) := hcc7 1 _ rfl; have hx7_2 : w15.cell? ⟨go5, (x5_1 : Int).toNat * 6 + 2, none⟩ = some (.bool ((rd_T46 y274 x5_1).f2)) := hcc7 2 _ rfl; have hx7_3 : w15.cell? ⟨go5, (x5_1 : Int).toNat * 6 + 3, none⟩ = some (.int .i64 ((rd_T46 y274 x5_1).f3.f0)) := hcc7 3 _ rfl; have hx7_4 : w15.cell? ⟨go5, (x5_1 : Int).toNat * 6 + 4, none⟩ = some (.int .i64 ((rd_T46 y274 x5_1).f3.f1)) := hcc7 4 _ rfl; have hx7_5 : w15.cell? ⟨go5, (x5_1 : Int).toNat * 6 + 5, none⟩ = some (.int .i64 ((rd_T46 y274 x5_1).f3.f2)) := hcc7 5 _ rfl; have hf7_0 : w15.frozen? ⟨go5, (x5_1 : Int).toNat * 6, none⟩ = false := hfr7 0; have hf7_1 : w15.frozen? ⟨go5, (x5_1 : Int).toNat * 6 + 1, none⟩ = false := hfr7 1; have hf7_2 : w15.frozen? ⟨go5, (x5_1 : Int).toNat * 6 + 2, none⟩ = false := hfr7 2; have hf7_3 : w15.frozen? ⟨go5, (x5_1 : Int).toNat * 6 + 3, none⟩ = false := hfr7 3; have hf7_4 : w15.frozen? ⟨go5, (x5_1 : Int).toNat * 6 + 4, none⟩ = false := hfr7 4; have hf7_5 : w15.frozen? ⟨go5, (x5_1 : Int).toNat * 6 + 5, none⟩ = false := hfr7 5; clear hcl7 hcc7 hfr7 hM7; replace p7 := eq_true p7; replace q7 := eq_true q7; have HX16 := Aside0.mk (show Kd.R k46 46 w15 w0.heap.size (fun k_ => (P0_ k_ ∨ w.heap.size ≤ k_)) (.slice (some ⟨go5, 0, none⟩) x0_1.length co11) y274 from (kr_ HO_0)); obtain ⟨ce16, hcl16, hM16, hcc16, hfr16⟩ := Kd.R_elem HX16.out z46 (x5_1 : Int) (od_) (by have h_ : (x5_1 : Int) < ((x0_1.length : Int) : Int) := od_; first | exact h_ | (have e_ := (Kd.R_reads' HO_0.out).1; omega) | simpa using h_); obtain rfl := k46_openM hM16; have HP16 := Kd.R_seg HX16.out (x5_1 : Int) (od_) (by have h_ : (x5_1 : Int) < ((x0_1.length : Int) : Int) := od_; first | exact h_ | (have e_ := (Kd.R_reads' HO_0.out).1; omega) | simpa using h_) (seg := [.bool ((Int.tmod (wrap64 ((wrap64 (x1_1 + 1)) + 1)) 3) == 0)]) (j := 2) hcl16 hcc16 (show 3 ≤ 6 from by decide) (x' := (⟨(rd_T46 y274 x5_1).f0, (rd_T46 y274 x5_1).f1, ((Int.tmod (wrap64 ((wrap64 (x1_1 + 1)) + 1)) 3) == 0), (⟨(rd_T46 y274 x5_1).f3.f0, (rd_T46 y274 x5_1).f3.f1, (rd_T46 y274 x5_1).f3.f2⟩ : S28)⟩ : S46)) (k46_mkM _ _ _ (⟨(rd_T46 y274 x5_1).f0, (rd_T46 y274 x5_1).f1, ((Int.tmod (wrap64 ((wrap64 (x1_1 + 1)) + 1)) 3) == 0), (⟨(rd_T46 y274 x5_1).f3.f0, (rd_T46 y274 x5_1).f3.f1, (rd_T46 y274 x5_1).f3.f2⟩ : S28)⟩ : S46) ) (fun _ hk => by first | exact hk | grind); have hx16_2 := hcc16 2 _ rfl; (try simp only [show (k46).sz = 6 from rfl, Nat.mul_one, Nat.add_zero] at hx16_2); have hf16_2 := hfr16 2; (try simp only [show (k46).sz = 6 from rfl, Nat.mul_one, Nat.add_zero] at hf16_2); clear hcl16 hcc16 hfr16 hM16) | ((with_reducible refine gate_store (t := 4) (p := 32) rfl ?_); refine store_event (t := 4) (p := 32) (v := ?vo_w17) (w1 := (w15.setCell ⟨go5, (x5_1 : Int).toNat * 6 + 2, none⟩ (.bool ((Int.tmod (wrap64 ((wrap64 (x1_1 + 1)) + 1)) 3) == 0)))) ?hg ?ho ?hn ?hr ?_; (case ho => rfl); (case hg => rfl); (case hn => rfl); (case hr => first | (go_simp; done) | (go_simp; rfl)); intro w17 hw; have hg : w15.grownBy w17 (some go5) := (by rw [hw]; exact HP16.2); have hp_ : Kd.R k46 46 w17 w0.heap.size (fun k_ => (P0_ k_ ∨ w.heap.size ≤ k_)) (.slice (some ⟨go5, 0, none⟩) x0_1.length co11) y275 := (by rw [hw, Ny275.out]; exact HP16.1); clear HP16; replace HB := Aside0.mk ((by rw [hw]; exact below_set (HB.out) GB5.out : Below w0.heap.size w0 w17)); replace HK := Aside0.mk (Kept.of_grown (S := (fun k_ => P0_ k_)) hg (by repeat (first | (with_reducible first | exact HK.out | apply Kept.alloc | apply Kept.drewN | apply Kept.drew) | exact HK.out)) (fun k_ e_ => (HO_0.out.1 k_ e_))); replace HO_0 := Aside0.mk (hp_); clear hg hw hp_; have p8 : 0 ≤ (x5_1 : Int) := od_; have q8 : (x5_1 : Int) < ((x0_1.length : Int) : Int) := od_; obtain ⟨ce8, hcl8, hM8, hcc8, hfr8⟩ := Kd.R_elem HO_0.out z46 (x5_1 : Int) p8 q8; obtain rfl := k46_openM hM8; have hx8_0 : w17.cell? ⟨go5, (x5_1 : Int).toNat * 6, none⟩ = some (.int .i64 ((rd_T46 y275 x5_1).f0)) := hcc8 0 _ rfl; have hx8_1 : w17.cell? ⟨go5, (x5_1 : Int).toNat * 6 + 1, none⟩ = some (.int .i64 ((rd_T46 y275 x5_1).f1)) := hcc8 1 _ rfl; have hx8_2 : w17.cell? ⟨go5, (x5_1 : Int).toNat * 6 + 2, none⟩ = some (.bool ((rd_T46 y275 x5_1).f2)) := hcc8 2 _ rfl; have hx8_3 : w17.cell? ⟨go5, (x5_1 : Int).toNat * 6 + 3, none⟩ = some (.int .i64 ((rd_T46 y275 x5_1).f3.f0)) := hcc8 3 _ rfl; have hx8_4 : w17.cell? ⟨go5, (x5_1 : Int).toNat * 6 + 4, none⟩ = some (.int .i64 ((rd_T46 y275 x5_1).f3.f1)) := hcc8 4 _ rfl; have hx8_5 : w17.cell? ⟨go5, (x5_1 : Int).toNat * 6 + 5, none⟩ = some (.int .i64 ((rd_T46 y275 x5_1).f3.f2)) := hcc8 5 _ rfl; have hf8_0 : w17.frozen? ⟨go5, (x5_1 : Int).toNat * 6, none⟩ = false := hfr8 0; have hf8_1 : w17.frozen? ⟨go5, (x5_1 : Int).toNat * 6 + 1, none⟩ = false := hfr8 1; have hf8_2 : w17.frozen? ⟨go5, (x5_1 : Int).toNat * 6 + 2, none⟩ = false := hfr8 2; have hf8_3 : w17.frozen? ⟨go5, (x5_1 : Int).toNat * 6 + 3, none⟩ = false := hfr8 3; have hf8_4 : w17.frozen? ⟨go5, (x5_1 : Int).toNat * 6 + 4, none⟩ = false := hfr8 4; have hf8_5 : w17.frozen? ⟨go5, (x5_1 : Int).toNat * 6 + 5, none⟩ = false := hfr8 5; clear hcl8 hcc8 hfr8 hM8; replace p8 := eq_true p8; replace q8 := eq_true q8; have HX18 := Aside0.mk (show Kd.R k46 46 w17 w0.heap.size (fun k_ => (P0_ k_ ∨ w.heap.size ≤ k_)) (.slice (some ⟨go5, 0, none⟩) x0_1.length co11) y275 from (kr_ HO_0)); obtain ⟨ce18, hcl18, hM18, hcc18, hfr18⟩ := Kd.R_elem HX18.out z46 (x5_1 : Int) (od_) (by have h_ : (x5_1 : Int) < ((x0_1.length : Int) : Int) := od_; first | exact h_ | (have e_ := (Kd.R_reads' HO_0.out).1; omega) | simpa using h_); obtain rfl := k46_openM hM18; have HP18 := Kd.R_seg HX18.out (x5_1 : Int) (od_) (by have h_ : (x5_1 : Int) < ((x0_1.length : Int) : Int) := od_; first | exact h_ | (have e_ := (Kd.R_reads' HO_0.out).1; omega) | simpa using h_) (seg := [.int .i64 (wrap64 ((wrap64 ((wrap64 (x1_1 + 1)) + 1)) + 1))]) (j := 3) hcl18 hcc18 (show 4 ≤ 6 from by decide) (x' := (⟨(rd_T46 y275 x5_1).f0, (rd_T46 y275 x5_1).f1, (rd_T46 y275 x5_1).f2, (⟨wrap64 ((wrap64 ((wrap64 (x1_1 + 1)) + 1)) + 1), (rd_T46 y275 x5_1).f3.f1, (rd_T46 y275 x5_1).f3.f2⟩ : S28)⟩ : S46)) (k46_mkM _ _ _ (⟨(rd_T46 y275 x5_1).f0, (rd_T46 y275 x5_1).f1, (rd_T46 y275 x5_1).f2, (⟨wrap64 ((wrap64 ((wrap64 (x1_1 + 1)) + 1)) + 1), (rd_T46 y275 x5_1).f3.f1, (rd_T46 y275 x5_1).f3.f2⟩ : S28)⟩ : S46) ) (fun _ hk => by first | exact hk | grind); have hx18_3 := hcc18 3 _ rfl; (try simp only [show (k46).sz = 6 from rfl, Nat.mul_one, Nat.add_zero] at hx18_3); have hf18_3 := hfr18 3; (try simp only [show (k46).sz = 6 from rfl, Nat.mul_one, Nat.add_zero] at hf18_3); clear hcl18 hcc18 hfr18 hM18) | ((with_reducible refine gate_store (t := 3) (p := 40) rfl ?_); refine store_event (t := 3) (p := 40) (v := ?vo_w19) (w1 := (w17.setCell ⟨go5, (x5_1 : Int).toNat * 6 + 3, none⟩ (.int .i64 (wrap64 ((wrap64 ((wrap64 (x1_1 + 1)) + 1)) + 1))))) ?hg ?ho ?hn ?hr ?_; (case ho => rfl); (case hg => rfl); (case hn => rfl); (case hr => first | (go_simp; done) | (go_simp; rfl)); intro w19 hw; have hg : w17.grownBy w19 (some go5) := (by rw [hw]; exact HP18.2); have hp_ : Kd.R k46 46 w19 w0.heap.size (fun k_ => (P0_ k_ ∨ w.heap.size ≤ k_)) (.slice (some ⟨go5, 0, none⟩) x0_1.length co11) y276 := (by rw [hw, Ny276.out]; exact HP18.1); clear HP18; replace HB := Aside0.mk ((by rw [hw]; exact below_set (HB.out) GB5.out : Below w0.heap.size w0 w19)); replace HK := Aside0.mk (Kept.of_grown (S := (fun k_ => P0_ k_)) hg (by repeat (first | (with_reducible first | exact HK.out | apply Kept.alloc | apply Kept.drewN | apply Kept.drew) | exact HK.out)) (fun k_ e_ => (HO_0.out.1 k_ e_))); replace HO_0 := Aside0.mk (hp_); clear hg hw hp_; have p9 : 0 ≤ (x5_1 : Int) := od_; have q9 : (x5_1 : Int) < ((x0_1.length : Int) : Int) := od_; obtain ⟨ce9, hcl9, hM9, hcc9, hfr9⟩ := Kd.R_elem HO_0.out z46 (x5_1 : Int) p9 q9; obtain rfl := k46_openM hM9; have hx9_0 : w19.cell? ⟨go5, (x5_1 : Int).toNat * 6, none⟩ = some (.int .i64 ((rd_T46 y276 x5_1).f0)) := hcc9 0 _ rfl; have hx9_1 : w19.cell? ⟨go5, (x5_1 : Int).toNat * 6 + 1, none⟩ = some (.int .i64 ((rd_T46 y276 x5_1).f1)) := hcc9 1 _ rfl; have hx9_2 : w19.cell? ⟨go5, (x5_1 : Int).toNat * 6 + 2, none⟩ = some (.bool ((rd_T46 y276 x5_1).f2)) := hcc9 2 _ rfl; have hx9_3 : w19.cell? ⟨go5, (x5_1 : Int).toNat * 6 + 3, none⟩ = some (.int .i64 ((rd_T46 y276 x5_1).f3.f0)) := hcc9 3 _ rfl; have hx9_4 : w19.cell? ⟨go5, (x5_1 : Int).toNat * 6 + 4, none⟩ = some (.int .i64 ((rd_T46 y276 x5_1).f3.f1)) := hcc9 4 _ rfl; have hx9_5 : w19.cell? ⟨go5, (x5_1 : Int).toNat * 6 + 5, none⟩ = some (.int .i64 ((rd_T46 y276 x5_1).f3.f2)) := hcc9 5 _ rfl; have hf9_0 : w19.frozen? ⟨go5, (x5_1 : Int).toNat * 6, none⟩ = false := hfr9 0; have hf9_1 : w19.frozen? ⟨go5, (x5_1 : Int).toNat * 6 + 1, none⟩ = false := hfr9 1; have hf9_2 : w19.frozen? ⟨go5, (x5_1 : Int).toNat * 6 + 2, none⟩ = false := hfr9 2; have hf9_3 : w19.frozen? ⟨go5, (x5_1 : Int).toNat * 6 + 3, none⟩ = false := hfr9 3; have hf9_4 : w19.frozen? ⟨go5, (x5_1 : Int).toNat * 6 + 4, none⟩ = false := hfr9 4; have hf9_5 : w19.frozen? ⟨go5, (x5_1 : Int).toNat * 6 + 5, none⟩ = false := hfr9 5; clear hcl9 hcc9 hfr9 hM9; replace p9 := eq_true p9; replace q9 := eq_true q9; have HX20 := Aside0.mk (show Kd.R k46 46 w19 w0.heap.size (fun k_ => (P0_ k_ ∨ w.heap.size ≤ k_)) (.slice (some ⟨go5, 0, none⟩) x0_1.length co11) y276 from (kr_ HO_0)); obtain ⟨ce20, hcl20, hM20, hcc20, hfr20⟩ := Kd.R_elem HX20.out z46 (x5_1 : Int) (od_) (by have h_ : (x5_1 : Int) < ((x0_1.length : Int) : Int) := od_; first | exact h_ | (have e_ := (Kd.R_reads' HO_0.out).1; omega) | simpa using h_); obtain rfl := k46_openM hM20; have HP20 := Kd.R_seg HX20.out (x5_1 : Int) (od_) (by have h_ : (x5_1 : Int) < ((x0_1.length : Int) : Int) := od_; first | exact h_ | (have e_ := (Kd.R_reads' HO_0.out).1; omega) | simpa using h_) (seg := [.int .i64 (wrap64 ((wrap64 ((wrap64 ((wrap64 (x1_1 + 1)) + 1)) + 1)) + 1))]) (j := 4) hcl20 hcc20 (show 5 ≤ 6 from by decide) (x' := (⟨(rd_T46 y276 x5_1).f0, (rd_T46 y276 x5_1).f1, (rd_T46 y276 x5_1).f2, (⟨(rd_T46 y276 x5_1).f3.f0, wrap64 ((wrap64 ((wrap64 ((wrap64 (x1_1 + 1)) + 1)) + 1)) + 1), (rd_T46 y276 x5_1).f3.f2⟩ : S28)⟩ : S46)) (k46_mkM _ _ _ (⟨(rd_T46 y276 x5_1).f0, (rd_T46 y276 x5_1).f1, (rd_T46 y276 x5_1).f2, (⟨(rd_T46 y276 x5_1).f3.f0, wrap64 ((wrap64 ((wrap64 ((wrap64 (x1_1 + 1)) + 1)) + 1)) + 1), (rd_T46 y276 x5_1).f3.f2⟩ : S28)⟩ : S46) ) (fun _ hk => by first | exact hk | grind); have hx20_4 := hcc20 4 _ rfl; (try simp only [show (k46).sz = 6 from rfl, Nat.mul_one, Nat.add_zero] at hx20_4); have hf20_4 := hfr20 4; (try simp only [show (k46).sz = 6 from rfl, Nat.mul_one, Nat.add_zero] at hf20_4); clear hcl20 hcc20 hfr20 hM20) | ((with_reducible refine gate_store (t := 3) (p := 48) rfl ?_); refine store_event (t := 3) (p := 48) (v := ?vo_w21) (w1 := (w19.setCell ⟨go5, (x5_1 : Int).toNat * 6 + 4, none⟩ (.int .i64 (wrap64 ((wrap64 ((wrap64 ((wrap64 (x1_1 + 1)) + 1)) + 1)) + 1))))) ?hg ?ho ?hn ?hr ?_; (case ho => rfl); (case hg => rfl); (case hn => rfl); (case hr => first | (go_simp; done) | (go_simp; rfl)); intro w21 hw; have hg : w19.grownBy w21 (some go5) := (by rw [hw]; exact HP20.2); have hp_ : Kd.R k46 46 w21 w0.heap.size (fun k_ => (P0_ k_ ∨ w.heap.size ≤ k_)) (.slice (some ⟨go5, 0, none⟩) x0_1.length co11) y277 := (by rw [hw, Ny277.out]; exact HP20.1); clear HP20; replace HB := Aside0.mk ((by rw [hw]; exact below_set (HB.out) GB5.out : Below w0.heap.size w0 w21)); replace HK := Aside0.mk (Kept.of_grown (S := (fun k_ => P0_ k_)) hg (by repeat (first | (with_reducible first | exact HK.out | apply Kept.alloc | apply Kept.drewN | apply Kept.drew) | exact HK.out)) (fun k_ e_ => (HO_0.out.1 k_ e_))); replace HO_0 := Aside0.mk (hp_); clear hg hw hp_; have p10 : 0 ≤ (x5_1 : Int) := od_; have q10 : (x5_1 : Int) < ((x0_1.length : Int) : Int) := od_; obtain ⟨ce10, hcl10, hM10, hcc10, hfr10⟩ := Kd.R_elem HO_0.out z46 (x5_1 : Int) p10 q10; obtain rfl := k46_openM hM10; have hx10_0 : w21.cell? ⟨go5, (x5_1 : Int).toNat * 6, none⟩ = some (.int .i64 ((rd_T46 y277 x5_1).f0)) := hcc10 0 _ rfl; have hx10_1 : w21.cell? ⟨go5, (x5_1 : Int).toNat * 6 + 1, none⟩ = some (.int .i64 ((rd_T46 y277 x5_1).f1)) := hcc10 1 _ rfl; have hx10_2 : w21.cell? ⟨go5, (x5_1 : Int).toNat * 6 + 2, none⟩ = some (.bool ((rd_T46 y277 x5_1).f2)) := hcc10 2 _ rfl; have hx10_3 : w21.cell? ⟨go5, (x5_1 : Int).toNat * 6 + 3, none⟩ = some (.int .i64 ((rd_T46 y277 x5_1).f3.f0)) := hcc10 3 _ rfl; have hx10_4 : w21.cell? ⟨go5, (x5_1 : Int).toNat * 6 + 4, none⟩ = some (.int .i64 ((rd_T46 y277 x5_1).f3.f1)) := hcc10 4 _ rfl; have hx10_5 : w21.cell? ⟨go5, (x5_1 : Int).toNat * 6 + 5, none⟩ = some (.int .i64 ((rd_T46 y277 x5_1).f3.f2)) := hcc10 5 _ rfl; have hf10_0 : w21.frozen? ⟨go5, (x5_1 : Int).toNat * 6, none⟩ = false := hfr10 0; have hf10_1 : w21.frozen? ⟨go5, (x5_1 : Int).toNat * 6 + 1, none⟩ = false := hfr10 1; have hf10_2 : w21.frozen? ⟨go5, (x5_1 : Int).toNat * 6 + 2, none⟩ = false := hfr10 2; have hf10_3 : w21.frozen? ⟨go5, (x5_1 : Int).toNat * 6 + 3, none⟩ = false := hfr10 3; have hf10_4 : w21.frozen? ⟨go5, (x5_1 : Int).toNat * 6 + 4, none⟩ = false := hfr10 4; have hf10_5 : w21.frozen? ⟨go5, (x5_1 : Int).toNat * 6 + 5, none⟩ = false := hfr10 5; clear hcl10 hcc10 hfr10 hM10; replace p10 := eq_true p10; replace q10 := eq_true q10; have HX22 := Aside0.mk (show Kd.R k46 46 w21 w0.heap.size (fun k_ => (P0_ k_ ∨ w.heap.size ≤ k_)) (.slice (some ⟨go5, 0, none⟩) x0_1.length co11) y277 from (kr_ HO_0)); obtain ⟨ce22, hcl22, hM22, hcc22, hfr22⟩ := Kd.R_elem HX22.out z46 (x5_1 : Int) (od_) (by have h_ : (x5_1 : Int) < ((x0_1.length : Int) : Int) := od_; first | exact h_ | (have e_ := (Kd.R_reads' HO_0.out).1; omega) | simpa using h_); obtain rfl := k46_openM hM22; have HP22 := Kd.R_seg HX22.out (x5_1 : Int) (od_) (by have h_ : (x5_1 : Int) < ((x0_1.length : Int) : Int) := od_; first | exact h_ | (have e_ := (Kd.R_reads' HO_0.out).1; omega) | simpa using h_) (seg := [.int .i64 (wrap64 ((wrap64 ((wrap64 ((wrap64 ((wrap64 (x1_1 + 1)) + 1)) + 1)) + 1)) + 1))]) (j := 5) hcl22 hcc22 (show 6 ≤ 6 from by decide) (x' := (⟨(rd_T46 y277 x5_1).f0, (rd_T46 y277 x5_1).f1, (rd_T46 y277 x5_1).f2, (⟨(rd_T46 y277 x5_1).f3.f0, (rd_T46 y277 x5_1).f3.f1, wrap64 ((wrap64 ((wrap64 ((wrap64 ((wrap64 (x1_1 + 1)) + 1)) + 1)) + 1)) + 1)⟩ : S28)⟩ : S46)) (k46_mkM _ _ _ (⟨(rd_T46 y277 x5_1).f0, (rd_T46 y277 x5_1).f1, (rd_T46 y277 x5_1).f2, (⟨(rd_T46 y277 x5_1).f3.f0, (rd_T46 y277 x5_1).f3.f1, wrap64 ((wrap64 ((wrap64 ((wrap64 ((wrap64 (x1_1 + 1)) + 1)) + 1)) + 1)) + 1)⟩ : S28)⟩ : S46) ) (fun _ hk => by first | exact hk | grind); have hx22_5 := hcc22 5 _ rfl; (try simp only [show (k46).sz = 6 from rfl, Nat.mul_one, Nat.add_zero] at hx22_5); have hf22_5 := hfr22 5; (try simp only [show (k46).sz = 6 from rfl, Nat.mul_one, Nat.add_zero] at hf22_5); clear hcl22 hcc22 hfr22 hM22) | ((with_reducible refine gate_store (t := 3) (p := 56) rfl ?_); refine store_event (t := 3) (p := 56) (v := ?vo_w23) (w1 := (w21.setCell ⟨go5, (x5_1 : Int).toNat * 6 + 5, none⟩ (.int .i64 (wrap64 ((wrap64 ((wrap64 ((wrap64 ((wrap64 (x1_1 + 1)) + 1)) + 1)) + 1)) + 1))))) ?hg ?ho ?hn ?hr ?_; (case ho => rfl); (case hg => rfl); (case hn => rfl); (case hr => first | (go_simp; done) | (go_simp; rfl)); intro w23 hw; have hg : w21.grownBy w23 (some go5) := (by rw [hw]; exact HP22.2); have hp_ : Kd.R k46 46 w23 w0.heap.size (fun k_ => (P0_ k_ ∨ w.heap.size ≤ k_)) (.slice (some ⟨go5, 0, none⟩) x0_1.length co11) y278 := (by rw [hw, Ny278.out]; exact HP22.1); clear HP22; replace HB := Aside0.mk ((by rw [hw]; exact below_set (HB.out) GB5.out : Below w0.heap.size w0 w23)); replace HK := Aside0.mk (Kept.of_grown (S := (fun k_ => P0_ k_)) hg (by repeat (first | (with_reducible first | exact HK.out | apply Kept.alloc | apply Kept.drewN | apply Kept.drew) | exact HK.out)) (fun k_ e_ => (HO_0.out.1 k_ e_))); replace HO_0 := Aside0.mk (hp_); clear hg hw hp_))
     go_roundg k1
     case measure => have := HK1.out; omega
     case rel => exact ⟨(y278), (wrap64 ((wrap64 ((wrap64 ((wrap64 ((wrap64 ((wrap64 (x1_1 + 1)) + 1)) + 1)) + 1)) + 1)) + 1)), (wrap64 (x5_1 + 1)), (by first | rfl | (simp; done) | (simp [*]; done)), (by first | rfl | (simp; done) | (simp [*]; done)), H', ⟨by have := HK1.out; omega⟩, ⟨kr_ HO_0⟩, ⟨by repeat (first | (with_reducible first | exact HK.out | apply Kept.alloc | apply Kept.drewN | apply Kept.drew) | exact HK.out)⟩, ⟨be_ HB⟩⟩
    ·rw [if_neg c4] at H
     exact absurd H (by simp)
   ·rw [if_neg c3] at H
    have c3b0 : decide (x5_1 < (x0_1.length : Int)) = false := decide_eq_false c3
    clear c3
    simp only [Option.some.injEq, Prod.mk.injEq] at H
    obtain ⟨rfl, rfl⟩ := H
    obtain ⟨Ao24, co24, eo24⟩ := Kd.R_slice HO_0.out
    subst eo24
    go_wp2
    go_ret
    exact ⟨by first | rfl | (simp [errW_none, errW_some] <;> rfl) | (simp [*, errW_none, errW_some] <;> rfl), by (with_reducible repeat (first | apply Kd.R_alloc | apply Kd.R_drewN | apply Kd.R_drew)); exact HO_0.out, by repeat (first | (with_reducible first | exact HB.out | apply below_alloc | apply pw_below_drewN | apply below_drew1) | exact HB.out), by repeat (first | (with_reducible first | exact HK.out | apply Kept.alloc | apply Kept.drewN | apply Kept.drew) | exact HK.out)⟩

/-! ### laws_markFair: function 12 -/
def laws_markFair.f (k : Nat) (a0_0 : Int) (a0_1 : Int) (a0_2 : Int) (a0_3 : Int) (l0_4 : List (S46)) (a1 : Int) : Option (Int × (List (S46))) := (laws_markKidS.f k l0_4 a1).bind fun bt280 => (some (bt280.1, bt280.2))
theorem laws_markFair.mono : ∀ a0 a1 a2 a3 a4 a5 k, LeO (laws_markFair.f k a0 a1 a2 a3 a4 a5) (laws_markFair.f (k + 1) a0 a1 a2 a3 a4 a5) := by
 intro a0 a1 a2 a3 a4 a5 k
 unfold laws_markFair.f
 repeat' (first | (with_reducible exact laws_markKidS.mono _ _ _) | (with_reducible exact LeO.refl _) | (with_reducible exact LeO.none _) | (with_reducible refine LeO.ite ?_ ?_) | (with_reducible refine LeO.bind ?_ (fun _ => ?_)) | exact laws_markKidS.mono _ _ _ | exact LeO.none _ | refine LeO.ite ?_ ?_ | refine LeO.bind ?_ (fun _ => ?_))
set_option maxHeartbeats 8000000 in
set_option maxRecDepth 100000 in
theorem laws_markFair.calls (k : Nat) (a0_0 : Int) (a0_1 : Int) (a0_2 : Int) (a0_3 : Int) (P0_4_ : Nat → Prop) (u9000_ : Value) (l0_4 : List (S46)) (a1 : Int) (r1 : Int) (r2 : List (S46)) (w0 w : World) (hB : Below w0.heap.size w0 w) (ho0_4 : Kd.R k46 46 w w0.heap.size P0_4_ u9000_ l0_4) (h : laws_markFair.f k a0_0 a0_1 a0_2 a0_3 l0_4 a1 = some (r1, r2)) :
  Calls Try.prog 12 #[.agg #[.int .i64 a0_0, .int .i64 a0_1, .int .i64 a0_2, .int .i64 a0_3, u9000_], .int .i64 a1] w fun e w' => e = .returned (.int .i64 r1) ∧ Kd.R k46 46 w' w0.heap.size (fun k_ => (P0_4_ k_ ∨ w.heap.size ≤ k_)) u9000_ r2 ∧ Below w0.heap.size w0 w' ∧ Kept w w' (fun k_ => P0_4_ k_) := by
 have hu31 := Try.underlying31
 have HO0_4 := Aside0.mk (show Kd.R k46 46 w w0.heap.size (fun k_ => (P0_4_ k_ ∨ w.heap.size ≤ k_)) u9000_ l0_4 from Kd.R_mono ho0_4 (fun k_ hk => by first | exact (.inl hk) | grind))
 have HK := Aside0.mk (Kept.refl w (fun k_ => P0_4_ k_))
 have HW0 := Aside0.mk hB.size
 have HB := Aside0.mk hB; clear hB
 have H := h
 clear h
 unfold laws_markFair.f at H
 replace H := Option.bind_eq_some_iff.mp H
 obtain ⟨⟨t280, t281⟩, A30, H⟩ := H
 have A3 := Aside0.mk A30
 clear A30
 simp only [Option.some.injEq, Prod.mk.injEq] at H
 obtain ⟨rfl, rfl⟩ := H
 obtain ⟨Ao4, co4, eo4⟩ := Kd.R_slice HO0_4.out
 subst eo4
 go_enter Try.func12, Try.ntmps12
 go_wp2_with (first | ((with_reducible refine gd_ 2 rfl ?_); refine bv_ 2 #[.int .i64 a0_0, .int .i64 a0_1, .int .i64 a0_2, .int .i64 a0_3, .slice Ao4 l0_4.length co4] 31 ?_; intro gb279 hg w5 hbox hb; replace HO0_4 := Aside0.mk (Kd.R_below (kr_ HO0_4) hb); have BK279 := Aside0.mk (hbox); have GW279 := Aside0.mk ((by rw [hg]; exact (by first | exact HK.out.1 | exact (show Kept w _ (fun k_ => P0_4_ k_) from by repeat (first | (with_reducible first | exact HK.out | apply Kept.alloc | apply Kept.drewN | apply Kept.drew) | exact HK.out)).1) : w.heap.size ≤ gb279)); replace HK := Aside0.mk (Kept.below (S := (fun k_ => P0_4_ k_)) (by repeat (first | (with_reducible first | exact HK.out | apply Kept.alloc | apply Kept.drewN | apply Kept.drew) | exact HK.out)) hb); have GE279 := Aside0.mk ((by rw [hg]; exact (below_size (be_ HB)) : w0.heap.size ≤ gb279)); replace HB := Aside0.mk (below_step (be_ HB) hb); clear hb hbox hg; obtain ⟨hcz6_0, hcz6_1, hcz6_2, hcz6_3, hcz6_4, hfz6_0, hfz6_1, hfz6_2, hfz6_3, hfz6_4⟩ := bz5_ BK279) | ((with_reducible refine gc_ 42 rfl ?_); refine gl_ 8 Try.func42 #[.slice Ao4 l0_4.length co4, .int .i64 a1] ?_; (with_reducible refine (laws_markKidS.calls k (fun k_ => some k_ = (.slice Ao4 l0_4.length co4 : Value).ownBlock) (.slice Ao4 l0_4.length co4) l0_4 a1 t280 t281 w0 _ ?side1 ?side2 A3.out).mono ?_); (case side1 => repeat (first | (with_reducible first | exact HB.out | apply below_alloc | apply pw_below_drewN | apply below_drew1 | refine below_set ?_ GE279.out) | exact HB.out)); (case side2 => exact Kd.R_tight rfl HO0_4.out); rintro e w7 ⟨rfl, hy0, hb, hkp⟩; refine ⟨_, rfl, ?_⟩; replace BK279 := Aside0.mk (blk_kept (bk_ BK279) hkp (fun hs_ => (fun e_ => (Kd.R_ne HO0_4.out BK279.out (by decide)) e_) hs_)); replace HK := Aside0.mk (Kept.then_ (S := (fun k_ => P0_4_ k_)) (by repeat (first | (with_reducible first | exact HK.out | apply Kept.alloc | apply Kept.drewN | apply Kept.drew | refine Kept.setCell ?_ (.inr GW279.out) _) | exact HK.out)) hkp (fun k_ hs_ => (fun e_ => (HO0_4.out.1 k_ e_.symm)) hs_)); replace HO0_4 := Aside0.mk (Kd.R_reok rfl hy0 (fun k_ e_ => HO0_4.out.1 k_ e_)); replace HB := Aside0.mk (hb); (try clear hb); (try clear hkp); (try clear hy0)))
 go_ret
 exact ⟨by first | rfl | (simp [errW_none, errW_some] <;> rfl) | (simp [*, errW_none, errW_some] <;> rfl), by (with_reducible repeat (first | apply Kd.R_alloc | apply Kd.R_drewN | apply Kd.R_drew)); exact HO0_4.out, by repeat (first | (with_reducible first | exact HB.out | apply below_alloc | apply pw_below_drewN | apply below_drew1 | refine below_set ?_ GE279.out) | exact HB.out), by repeat (first | (with_reducible first | exact HK.out | apply Kept.alloc | apply Kept.drewN | apply Kept.drew | refine Kept.setCell ?_ (.inr GW279.out) _) | exact HK.out)⟩

end Go.Proofs.Ytppmbdfbhahngaa.PFnExactFairLeave
