-- printed by a program of this session (wip/printx) out of the translation; Lean checks it
import Derived.Test.YtljhaoiopokmfaaPFnExactFairWakex0
import Derived.Test.YtljhaoiopokmfaaPFnExactFairWakex5
import Derived.Test.YtljhaoiopokmfaaPFnExactFairWakex6
namespace Go.Proofs.Ytljhaoiopokmfaa.PFnExactFairWake
open Go.RowKit Go.Proofs.YtljhaoiopokmfaaW.PrintWords Go.Proofs.YtljhaoiopokmfaaW.PrintLast Go.Proofs.YtljhaoiopokmfaaW.PrintMore
attribute [local go_sem] max2_int min2_int max_two min_two max_three min_three max_four min_four   -- for this text's walks alone
set_option linter.unusedVariables false
set_option linter.unusedSimpArgs false

/-! ### impl_FairOk: function 18 -/
mutual
def impl_FairOk.j0 : Nat → Bool → Int → Int → Int → Int → List (S38) → Option (Bool)
  | 0, _, _, _, _, _, _ => none
  | k + 1, x22, x241000, x241001, x241002, x241003, x241004 => if x22 = true then (some false) else (impl_FairOk.l0 k x241004 (x241004.length : Int) 0 x241000 x241001 x241002 x241003 x241004)
def impl_FairOk.l0 : Nat → List (S38) → Int → Int → Int → Int → Int → Int → List (S38) → Option (Bool)
  | 0, _, _, _, _, _, _, _, _ => none
  | k + 1, x24, x25, x26, x241000, x241001, x241002, x241003, x241004 => if x26 < x25 then (if 0 ≤ x26 then (if x26 < (x24.length : Int) then ((impl_Fair_kidOk.f x241000 x241001 x241002 x241003 x241004 ((rd_T38 x24 x26).f0) ((rd_T38 x24 x26).f1) ((rd_T38 x24 x26).f2) ((rd_T38 x24 x26).f3.f0) ((rd_T38 x24 x26).f3.f1) ((rd_T38 x24 x26).f3.f2)).bind fun t245 => (if t245 = true then (if x26 > 0 then (if 0 ≤ (wrap64 (x26 - 1)) then (if (wrap64 (x26 - 1)) < (x241004.length : Int) then (if ((rd_T38 x241004 (wrap64 (x26 - 1))).f0) ≥ ((rd_T38 x24 x26).f0) then (some false) else (impl_FairOk.l0 k x24 x25 (wrap64 (x26 + 1)) x241000 x241001 x241002 x241003 x241004)) else (none)) else (none)) else (impl_FairOk.l0 k x24 x25 (wrap64 (x26 + 1)) x241000 x241001 x241002 x241003 x241004)) else (some false))) else (none)) else (none)) else (some true)
end
def impl_FairOk.f (k : Nat) (a0_0 : Int) (a0_1 : Int) (a0_2 : Int) (a0_3 : Int) (l0_4 : List (S38)) : Option (Bool) := (impl_Narrow.f a0_1 a0_2 a0_3 a0_0).bind fun t241 => (if t241 = true then ((impl_VecTop.f a0_1 a0_2 a0_3).bind fun t242 => (if t242 > 100000000000 then (impl_FairOk.j0 k true a0_0 a0_1 a0_2 a0_3 l0_4) else (impl_FairOk.j0 k (decide ((l0_4.length : Int) > 48)) a0_0 a0_1 a0_2 a0_3 l0_4))) else (impl_FairOk.j0 k true a0_0 a0_1 a0_2 a0_3 l0_4))
theorem impl_FairOk.mono_l : ∀ k, (∀ y0 y1 y2 y3 y4 y5, LeO (impl_FairOk.j0 k y0 y1 y2 y3 y4 y5) (impl_FairOk.j0 (k + 1) y0 y1 y2 y3 y4 y5)) ∧ (∀ y0 y1 y2 y3 y4 y5 y6 y7, LeO (impl_FairOk.l0 k y0 y1 y2 y3 y4 y5 y6 y7) (impl_FairOk.l0 (k + 1) y0 y1 y2 y3 y4 y5 y6 y7))
 | 0 => ⟨fun _ _ _ _ _ _ r h => by simp [impl_FairOk.j0] at h, fun _ _ _ _ _ _ _ _ r h => by simp [impl_FairOk.l0] at h⟩
 | k + 1 => by
  obtain ⟨ih0, ih1⟩ := impl_FairOk.mono_l k
  refine ⟨?_, ?_⟩
  ·intro y0 y1 y2 y3 y4 y5
   unfold impl_FairOk.j0
   repeat' first
   | (with_reducible exact ih0 _ _ _ _ _ _)
   | (with_reducible exact ih1 _ _ _ _ _ _ _ _)
   | (with_reducible exact LeO.refl _)
   | (with_reducible exact LeO.none _)
   | (with_reducible refine LeO.ite ?_ ?_)
   | (with_reducible refine LeO.bind ?_ (fun _ => ?_))
   | exact ih0 _ _ _ _ _ _
   | exact ih1 _ _ _ _ _ _ _ _
   | exact LeO.none _
   | refine LeO.ite ?_ ?_
   | refine LeO.bind ?_ (fun _ => ?_)
  ·intro y0 y1 y2 y3 y4 y5 y6 y7
   unfold impl_FairOk.l0
   repeat' first
   | (with_reducible exact ih0 _ _ _ _ _ _)
   | (with_reducible exact ih1 _ _ _ _ _ _ _ _)
   | (with_reducible exact LeO.refl _)
   | (with_reducible exact LeO.none _)
   | (with_reducible refine LeO.ite ?_ ?_)
   | (with_reducible refine LeO.bind ?_ (fun _ => ?_))
   | exact ih0 _ _ _ _ _ _
   | exact ih1 _ _ _ _ _ _ _ _
   | exact LeO.none _
   | refine LeO.ite ?_ ?_
   | refine LeO.bind ?_ (fun _ => ?_)
theorem impl_FairOk.mono : ∀ a0 a1 a2 a3 a4 k, LeO (impl_FairOk.f k a0 a1 a2 a3 a4) (impl_FairOk.f (k + 1) a0 a1 a2 a3 a4) := by
 intro a0 a1 a2 a3 a4 k
 obtain ⟨ih0, ih1⟩ := impl_FairOk.mono_l k
 unfold impl_FairOk.f
 repeat' first
   | (with_reducible exact ih0 _ _ _ _ _ _)
   | (with_reducible exact ih1 _ _ _ _ _ _ _ _)
   | (with_reducible exact LeO.refl _)
   | (with_reducible exact LeO.none _)
   | (with_reducible refine LeO.ite ?_ ?_)
   | (with_reducible refine LeO.bind ?_ (fun _ => ?_))
   | exact ih0 _ _ _ _ _ _
   | exact ih1 _ _ _ _ _ _ _ _
   | exact LeO.none _
   | refine LeO.ite ?_ ?_
   | refine LeO.bind ?_ (fun _ => ?_)
def impl_FairOk.T6 : Bool × List (List Nat × List Nat) := (true, [([], []), ([], []), ([0, 1], [0, 1]), ([2], [2]), ([3, 2], [3]), ([4], [4]), ([5, 4], [4, 5]), ([6, 4, 4], [4, 6]), ([7], [7]), ([8, 7], [7, 8]), ([7], [7]), ([10, 7], [7, 10]), ([9, 11, 7], [7, 9, 11]), ([12, 7], [7, 12]), ([13, 7], [7, 13]), ([7], [7]), ([15, 7], [7, 15]), ([14, 16, 7], [7, 14, 16]), ([7, 17, 4], [4, 7, 17]), ([4, 18], [4, 18])])
def impl_FairOk.B6 : List Nat := [0, 0, 3, 7, 15, 31, 63, 127, 255, 511, 255, 1279, 4095, 8191, 16383, 255, 33023, 131071, 262143, 524287]
theorem impl_FairOk.tab6 : rtab .any (opsOf Try.f18 6) = impl_FairOk.T6 := by kernel_rfl
theorem impl_FairOk.bits6 : waitsOk impl_FairOk.T6.2 impl_FairOk.B6 = true := by kernel_rfl
set_option maxHeartbeats 8000000 in
set_option maxRecDepth 100000 in
theorem impl_FairOk.calls (k : Nat) (a0_0 : Int) (a0_1 : Int) (a0_2 : Int) (a0_3 : Int) (A0_4 : Option Addr) (c0_4 : Nat) (l0_4 : List (S38)) (r : Bool) (w : World) (hr0_4 : Kd.C k38 w A0_4 l0_4.length l0_4) (hc0_4 : l0_4.length ≤ c0_4) (h : impl_FairOk.f k a0_0 a0_1 a0_2 a0_3 l0_4 = some r) :
  Calls Try.prog 18 #[.agg #[.int .i64 a0_0, .int .i64 a0_1, .int .i64 a0_2, .int .i64 a0_3, .slice A0_4 l0_4.length c0_4]] w fun e w' => e = .returned (.bool r) ∧ Below w.heap.size w w' := by
 have hu32 := Try.underlying32; have hu29 := Try.underlying29; have hu38 := Try.underlying38
 have HR0_4 := Aside0.mk hr0_4
 have HC0_4 := Aside0.mk hc0_4
 clear hr0_4 hc0_4; have HB := Aside0.mk (Below.refl w.heap.size w)
 have H : ((impl_Narrow.f a0_1 a0_2 a0_3 a0_0).bind fun t241 => (if t241 = true then ((impl_VecTop.f a0_1 a0_2 a0_3).bind fun t242 => (if t242 > 100000000000 then (impl_FairOk.j0 k true a0_0 a0_1 a0_2 a0_3 l0_4) else (impl_FairOk.j0 k (decide ((l0_4.length : Int) > 48)) a0_0 a0_1 a0_2 a0_3 l0_4))) else (impl_FairOk.j0 k true a0_0 a0_1 a0_2 a0_3 l0_4))) = some r := h
 clear h
 have HC2 := Aside0.mk H
 clear H
 go_enter Try.func18, Try.ntmps18
 go_upto_region 1 with (first | ((with_reducible refine gate_dst (N := 1) rfl ?_); (try (refine gate_guard (by rfl) ?_; dsimp only)); refine box_event ?hg (N := 1) ?hd (cs := #[.int .i64 a0_0, .int .i64 a0_1, .int .i64 a0_2, .int .i64 a0_3, .slice A0_4 l0_4.length c0_4]) (t := 32) ?hr ?_; (case hd => rfl); (case hg => rfl); (case hr => first | (go_simp; done) | (go_simp; rfl)); intro gb240 hg w3 hbox hb; have n0_ := Aside0.mk (below_step (be_ HB) hb); have n1_ := Aside0.mk (hbox); have n2_ := gw_ HB hg; have n3_ := gw_ HB hg; clear HB; have HB := n0_; have BK240 := n1_; have GW240 := n2_; have GE240 := n3_; clear n0_ n1_ n2_ n3_; clear hb hbox hg))
 (try simp only [Act.put, List.setIfInBounds_toArray, List.set_cons_zero, List.set_cons_succ])
 go_cut [22] (fun v22 wc => ∃ (kq : Nat) (x22_1 : Bool), v22 = .bool x22_1 ∧ Aside0 (impl_FairOk.j0 kq x22_1 a0_0 a0_1 a0_2 a0_3 l0_4 = some r) ∧ Aside0 (kq ≤ k) ∧ Aside0 (wc.heap[gb240]? = some (.cells #[.int .i64 a0_0, .int .i64 a0_1, .int .i64 a0_2, .int .i64 a0_3, (.slice A0_4 l0_4.length c0_4)] 32 (0, 0))) ∧ Aside0 (Below w.heap.size w wc))
 case first =>
  have H := HC2.out
  clear HC2
  replace H := Option.bind_eq_some_iff.mp H
  obtain ⟨t241, A40, H⟩ := H
  replace H : (if t241 = true then ((impl_VecTop.f a0_1 a0_2 a0_3).bind fun t242 => (if t242 > 100000000000 then (impl_FairOk.j0 k true a0_0 a0_1 a0_2 a0_3 l0_4) else (impl_FairOk.j0 k (decide ((l0_4.length : Int) > 48)) a0_0 a0_1 a0_2 a0_3 l0_4))) else (impl_FairOk.j0 k true a0_0 a0_1 a0_2 a0_3 l0_4)) = some r := H
  have A4 := Aside0.mk A40
  clear A40
  by_cases c5 : t241 = true
  ·subst c5
   have H1 : ((impl_VecTop.f a0_1 a0_2 a0_3).bind fun t242 => (if t242 > 100000000000 then (impl_FairOk.j0 k true a0_0 a0_1 a0_2 a0_3 l0_4) else (impl_FairOk.j0 k (decide ((l0_4.length : Int) > 48)) a0_0 a0_1 a0_2 a0_3 l0_4))) = some r := by rw [if_pos rfl] at H; exact H
   clear H
   have H := H1
   clear H1
   replace H := Option.bind_eq_some_iff.mp H
   obtain ⟨t242, A60, H⟩ := H
   replace H : (if t242 > 100000000000 then (impl_FairOk.j0 k true a0_0 a0_1 a0_2 a0_3 l0_4) else (impl_FairOk.j0 k (decide ((l0_4.length : Int) > 48)) a0_0 a0_1 a0_2 a0_3 l0_4)) = some r := H
   have A6 := Aside0.mk A60
   clear A60
   by_cases c7 : t242 > 100000000000
   ·rw [if_pos c7] at H
    have c7b0 : decide (100000000000 < t242) = true := decide_eq_true c7
    clear c7
    (first | rw [c7b0] | (simp only [i64_w, i32_w]; rw [c7b0]) | skip)
    have H' := Aside0.mk H
    clear H; have hcz8_0 := bc_ BK240 0 (.int .i64 a0_0) rfl; have hcz8_1 := bc_ BK240 1 (.int .i64 a0_1) rfl; have hcz8_2 := bc_ BK240 2 (.int .i64 a0_2) rfl; have hcz8_3 := bc_ BK240 3 (.int .i64 a0_3) rfl; have hcz8_4 := bc_ BK240 4 (.slice A0_4 l0_4.length c0_4) rfl; have hfz8_0 := blk_frozen BK240.out 0; have hfz8_1 := blk_frozen BK240.out 1; have hfz8_2 := blk_frozen BK240.out 2; have hfz8_3 := blk_frozen BK240.out 3; have hfz8_4 := blk_frozen BK240.out 4
    go_wp2_with (first | ((with_reducible refine gate_callee (f := 51) rfl ?_); refine goesL_ (some 9) rfl rfl Try.func51 (by kernel_rfl) rfl #[.agg #[.int .i64 a0_1, .int .i64 a0_2, .int .i64 a0_3], .int .i64 a0_0] rfl mt_ ?_; (with_reducible refine (impl_Narrow.calls a0_1 a0_2 a0_3 a0_0 true _ A4.out).mono ?_); rintro e w9 ⟨rfl, hb⟩; refine ⟨_, rfl, ?_⟩; have n0_ := bb_ BK240 hb; have n1_ := Aside0.mk (below_step (bf_ HB) hb); clear BK240; clear HB; have BK240 := n0_; have HB := n1_; clear n0_ n1_; (try clear hb); (try clear hb2); (try clear hk); (try clear hi); have hcz10_0 := bc_ BK240 0 (.int .i64 a0_0) rfl; have hcz10_1 := bc_ BK240 1 (.int .i64 a0_1) rfl; have hcz10_2 := bc_ BK240 2 (.int .i64 a0_2) rfl; have hcz10_3 := bc_ BK240 3 (.int .i64 a0_3) rfl; have hcz10_4 := bc_ BK240 4 (.slice A0_4 l0_4.length c0_4) rfl; have hfz10_0 := blk_frozen BK240.out 0; have hfz10_1 := blk_frozen BK240.out 1; have hfz10_2 := blk_frozen BK240.out 2; have hfz10_3 := blk_frozen BK240.out 3; have hfz10_4 := blk_frozen BK240.out 4) | (go_at_call 52; (with_reducible refine (impl_VecTop.calls a0_1 a0_2 a0_3 t242 _ A6.out).mono ?_); rintro e w11 ⟨rfl, hb⟩; have n0_ := bb_ BK240 hb; have n1_ := Aside0.mk (below_step (bf_ HB) hb); clear BK240; clear HB; have BK240 := n0_; have HB := n1_; clear n0_ n1_; (try clear hb); (try clear hb2); (try clear hk); (try clear hi)))
    go_meet
    case rel => exact ⟨_, (true), (by first | rfl | (simp; done) | (simp [*]; done)), H', ⟨by first | omega | exact Nat.le_refl _⟩, ⟨bk_ BK240⟩, ⟨bf_ HB⟩⟩
   ·rw [if_neg c7] at H
    have c7b0 : decide (100000000000 < t242) = false := decide_eq_false c7
    clear c7
    (first | rw [c7b0] | (simp only [i64_w, i32_w]; rw [c7b0]) | skip)
    have H' := Aside0.mk H
    clear H; have hcz12_0 := bc_ BK240 0 (.int .i64 a0_0) rfl; have hcz12_1 := bc_ BK240 1 (.int .i64 a0_1) rfl; have hcz12_2 := bc_ BK240 2 (.int .i64 a0_2) rfl; have hcz12_3 := bc_ BK240 3 (.int .i64 a0_3) rfl; have hcz12_4 := bc_ BK240 4 (.slice A0_4 l0_4.length c0_4) rfl; have hfz12_0 := blk_frozen BK240.out 0; have hfz12_1 := blk_frozen BK240.out 1; have hfz12_2 := blk_frozen BK240.out 2; have hfz12_3 := blk_frozen BK240.out 3; have hfz12_4 := blk_frozen BK240.out 4
    go_wp2_with (first | ((with_reducible refine gate_callee (f := 51) rfl ?_); refine goesL_ (some 9) rfl rfl Try.func51 (by kernel_rfl) rfl #[.agg #[.int .i64 a0_1, .int .i64 a0_2, .int .i64 a0_3], .int .i64 a0_0] rfl mt_ ?_; (with_reducible refine (impl_Narrow.calls a0_1 a0_2 a0_3 a0_0 true _ A4.out).mono ?_); rintro e w13 ⟨rfl, hb⟩; refine ⟨_, rfl, ?_⟩; have n0_ := bb_ BK240 hb; have n1_ := Aside0.mk (below_step (bf_ HB) hb); clear BK240; clear HB; have BK240 := n0_; have HB := n1_; clear n0_ n1_; (try clear hb); (try clear hb2); (try clear hk); (try clear hi); have hcz14_0 := bc_ BK240 0 (.int .i64 a0_0) rfl; have hcz14_1 := bc_ BK240 1 (.int .i64 a0_1) rfl; have hcz14_2 := bc_ BK240 2 (.int .i64 a0_2) rfl; have hcz14_3 := bc_ BK240 3 (.int .i64 a0_3) rfl; have hcz14_4 := bc_ BK240 4 (.slice A0_4 l0_4.length c0_4) rfl; have hfz14_0 := blk_frozen BK240.out 0; have hfz14_1 := blk_frozen BK240.out 1; have hfz14_2 := blk_frozen BK240.out 2; have hfz14_3 := blk_frozen BK240.out 3; have hfz14_4 := blk_frozen BK240.out 4) | (go_at_call 52; (with_reducible refine (impl_VecTop.calls a0_1 a0_2 a0_3 t242 _ A6.out).mono ?_); rintro e w15 ⟨rfl, hb⟩; have n0_ := bb_ BK240 hb; have n1_ := Aside0.mk (below_step (bf_ HB) hb); clear BK240; clear HB; have BK240 := n0_; have HB := n1_; clear n0_ n1_; (try clear hb); (try clear hb2); (try clear hk); (try clear hi); have hcz16_0 := bc_ BK240 0 (.int .i64 a0_0) rfl; have hcz16_1 := bc_ BK240 1 (.int .i64 a0_1) rfl; have hcz16_2 := bc_ BK240 2 (.int .i64 a0_2) rfl; have hcz16_3 := bc_ BK240 3 (.int .i64 a0_3) rfl; have hcz16_4 := bc_ BK240 4 (.slice A0_4 l0_4.length c0_4) rfl; have hfz16_0 := blk_frozen BK240.out 0; have hfz16_1 := blk_frozen BK240.out 1; have hfz16_2 := blk_frozen BK240.out 2; have hfz16_3 := blk_frozen BK240.out 3; have hfz16_4 := blk_frozen BK240.out 4))
    go_meet
    case rel => exact ⟨_, (decide ((l0_4.length : Int) > 48)), (by first | rfl | (simp; done) | (simp [*]; done)), H', ⟨by first | omega | exact Nat.le_refl _⟩, ⟨bk_ BK240⟩, ⟨bf_ HB⟩⟩
  ·replace c5 := Bool.eq_false_iff.mpr c5
   subst c5
   have H1 : (impl_FairOk.j0 k true a0_0 a0_1 a0_2 a0_3 l0_4) = some r := by rw [if_neg (show ¬ (false = true) by decide)] at H; exact H
   clear H
   have H := H1
   clear H1
   have H' := Aside0.mk H
   clear H; have hcz17_0 := bc_ BK240 0 (.int .i64 a0_0) rfl; have hcz17_1 := bc_ BK240 1 (.int .i64 a0_1) rfl; have hcz17_2 := bc_ BK240 2 (.int .i64 a0_2) rfl; have hcz17_3 := bc_ BK240 3 (.int .i64 a0_3) rfl; have hcz17_4 := bc_ BK240 4 (.slice A0_4 l0_4.length c0_4) rfl; have hfz17_0 := blk_frozen BK240.out 0; have hfz17_1 := blk_frozen BK240.out 1; have hfz17_2 := blk_frozen BK240.out 2; have hfz17_3 := blk_frozen BK240.out 3; have hfz17_4 := blk_frozen BK240.out 4
   go_wp2_with (first | ((with_reducible refine gate_callee (f := 51) rfl ?_); refine goesL_ (some 9) rfl rfl Try.func51 (by kernel_rfl) rfl #[.agg #[.int .i64 a0_1, .int .i64 a0_2, .int .i64 a0_3], .int .i64 a0_0] rfl mt_ ?_; (with_reducible refine (impl_Narrow.calls a0_1 a0_2 a0_3 a0_0 false _ A4.out).mono ?_); rintro e w18 ⟨rfl, hb⟩; refine ⟨_, rfl, ?_⟩; have n0_ := bb_ BK240 hb; have n1_ := Aside0.mk (below_step (bf_ HB) hb); clear BK240; clear HB; have BK240 := n0_; have HB := n1_; clear n0_ n1_; (try clear hb); (try clear hb2); (try clear hk); (try clear hi)))
   go_meet
   case rel => exact ⟨_, (true), (by first | rfl | (simp; done) | (simp [*]; done)), H', ⟨by first | omega | exact Nat.le_refl _⟩, ⟨bk_ BK240⟩, ⟨bf_ HB⟩⟩
 case rest =>
  clear HC2; (try clear c1); (try clear p2); (try clear c5); (try clear c7); (try clear c7b0); (try clear c18); (try clear hcz10_0 hcz10_1 hcz10_2 hcz10_3 hcz10_4 hfz10_0 hfz10_1 hfz10_2 hfz10_3 hfz10_4); (try clear hcz12_0 hcz12_1 hcz12_2 hcz12_3 hcz12_4 hfz12_0 hfz12_1 hfz12_2 hfz12_3 hfz12_4); (try clear hcz14_0 hcz14_1 hcz14_2 hcz14_3 hcz14_4 hfz14_0 hfz14_1 hfz14_2 hfz14_3 hfz14_4); (try clear hcz16_0 hcz16_1 hcz16_2 hcz16_3 hcz16_4 hfz16_0 hfz16_1 hfz16_2 hfz16_3 hfz16_4); (try clear hcz17_0 hcz17_1 hcz17_2 hcz17_3 hcz17_4 hfz17_0 hfz17_1 hfz17_2 hfz17_3 hfz17_4); (try clear hcz8_0 hcz8_1 hcz8_2 hcz8_3 hcz8_4 hfz8_0 hfz8_1 hfz8_2 hfz8_3 hfz8_4)
  obtain ⟨kq, x22_1, rfl, HA, HJ1, BK240, HB⟩ := hcut
  cases kq with
  | zero => exact absurd HA.out (by simp [impl_FairOk.j0])
  | succ kj1 =>
   have H := HA.out
   clear HA
   simp only [impl_FairOk.j0] at H
   by_cases c19 : x22_1 = true
   ·subst c19
    have H1 : (some false) = some r := by rw [if_pos rfl] at H; exact H
    clear H
    have H := H1
    clear H1
    obtain rfl := Option.some.inj H
    go_wp2
    go_ret
    exact ⟨by first | rfl | (simp [errW_none, errW_some] <;> rfl) | (simp [*, errW_none, errW_some] <;> rfl), bf_ HB⟩
   ·replace c19 := Bool.eq_false_iff.mpr c19
    subst c19
    have H1 : (impl_FairOk.l0 kj1 l0_4 (l0_4.length : Int) 0 a0_0 a0_1 a0_2 a0_3 l0_4) = some r := by rw [if_neg (show ¬ (false = true) by decide)] at H; exact H
    clear H
    have H := H1
    clear H1
    have H' := Aside0.mk H
    clear H; have hcz20_0 := bc_ BK240 0 (.int .i64 a0_0) rfl; have hcz20_1 := bc_ BK240 1 (.int .i64 a0_1) rfl; have hcz20_2 := bc_ BK240 2 (.int .i64 a0_2) rfl; have hcz20_3 := bc_ BK240 3 (.int .i64 a0_3) rfl; have hcz20_4 := bc_ BK240 4 (.slice A0_4 l0_4.length c0_4) rfl; have hfz20_0 := blk_frozen BK240.out 0; have hfz20_1 := blk_frozen BK240.out 1; have hfz20_2 := blk_frozen BK240.out 2; have hfz20_3 := blk_frozen BK240.out 3; have hfz20_4 := blk_frozen BK240.out 4
    go_wp2
    go_loopg [26] kj1 (fun kq v26 w' => ∃ (x26_2 : Int), v26 = .int .i64 x26_2 ∧ Aside0 (impl_FairOk.l0 kq l0_4 (l0_4.length : Int) x26_2 a0_0 a0_1 a0_2 a0_3 l0_4 = some r) ∧ Aside0 (kq ≤ kj1) ∧ Aside0 (w'.heap[gb240]? = some (.cells #[.int .i64 a0_0, .int .i64 a0_1, .int .i64 a0_2, .int .i64 a0_3, (.slice A0_4 l0_4.length c0_4)] 32 (0, 0))) ∧ Aside0 (Below w.heap.size w w'))
    case atStart => exact ⟨(0), (by first | rfl | (simp; done) | (simp [*]; done)), H', ⟨Nat.le_refl _⟩, ⟨bk_ BK240⟩, ⟨bf_ HB⟩⟩
    case round =>
     clear H'
     (try clear c1); (try clear p2 p2); (try clear c5); (try clear c7); (try clear c7b0); (try clear c18); (try clear c19); (try clear hcz10_0 hcz10_1 hcz10_2 hcz10_3 hcz10_4 hfz10_0 hfz10_1 hfz10_2 hfz10_3 hfz10_4); (try clear hcz12_0 hcz12_1 hcz12_2 hcz12_3 hcz12_4 hfz12_0 hfz12_1 hfz12_2 hfz12_3 hfz12_4); (try clear hcz14_0 hcz14_1 hcz14_2 hcz14_3 hcz14_4 hfz14_0 hfz14_1 hfz14_2 hfz14_3 hfz14_4); (try clear hcz16_0 hcz16_1 hcz16_2 hcz16_3 hcz16_4 hfz16_0 hfz16_1 hfz16_2 hfz16_3 hfz16_4); (try clear hcz17_0 hcz17_1 hcz17_2 hcz17_3 hcz17_4 hfz17_0 hfz17_1 hfz17_2 hfz17_3 hfz17_4); (try clear hcz20_0 hcz20_1 hcz20_2 hcz20_3 hcz20_4 hfz20_0 hfz20_1 hfz20_2 hfz20_3 hfz20_4); (try clear hcz8_0 hcz8_1 hcz8_2 hcz8_3 hcz8_4 hfz8_0 hfz8_1 hfz8_2 hfz8_3 hfz8_4)
     obtain ⟨x26_2, rfl, HA, HK2, BK240, HB⟩ := hrel
     cases gk with
     | zero => exact absurd HA.out (by simp [impl_FairOk.l0])
     | succ k2 =>
      have H := HA.out
      clear HA
      simp only [impl_FairOk.l0] at H
      by_cases c21 : x26_2 < (l0_4.length : Int)
      ·rw [if_pos c21] at H
       have c21b0 : decide (x26_2 < (l0_4.length : Int)) = true := decide_eq_true c21
       clear c21
       by_cases c22 : 0 ≤ x26_2
       ·rw [if_pos c22] at H
        have c22b0 : decide (0 ≤ x26_2) = true := decide_eq_true c22
        clear c22
        by_cases c23 : x26_2 < (l0_4.length : Int)
        ·rw [if_pos c23] at H
         have c23b0 : decide (x26_2 < (l0_4.length : Int)) = true := decide_eq_true c23
         clear c23
         replace H := Option.bind_eq_some_iff.mp H
         obtain ⟨t245, A240, H⟩ := H
         replace H : (if t245 = true then (if x26_2 > 0 then (if 0 ≤ (wrap64 (x26_2 - 1)) then (if (wrap64 (x26_2 - 1)) < (l0_4.length : Int) then (if ((rd_T38 l0_4 (wrap64 (x26_2 - 1))).f0) ≥ ((rd_T38 l0_4 x26_2).f0) then (some false) else (impl_FairOk.l0 k2 l0_4 (l0_4.length : Int) (wrap64 (x26_2 + 1)) a0_0 a0_1 a0_2 a0_3 l0_4)) else (none)) else (none)) else (impl_FairOk.l0 k2 l0_4 (l0_4.length : Int) (wrap64 (x26_2 + 1)) a0_0 a0_1 a0_2 a0_3 l0_4)) else (some false)) = some r := H
         have A24 := Aside0.mk A240
         clear A240
         by_cases c25 : t245 = true
         ·subst c25
          have H1 : (if x26_2 > 0 then (if 0 ≤ (wrap64 (x26_2 - 1)) then (if (wrap64 (x26_2 - 1)) < (l0_4.length : Int) then (if ((rd_T38 l0_4 (wrap64 (x26_2 - 1))).f0) ≥ ((rd_T38 l0_4 x26_2).f0) then (some false) else (impl_FairOk.l0 k2 l0_4 (l0_4.length : Int) (wrap64 (x26_2 + 1)) a0_0 a0_1 a0_2 a0_3 l0_4)) else (none)) else (none)) else (impl_FairOk.l0 k2 l0_4 (l0_4.length : Int) (wrap64 (x26_2 + 1)) a0_0 a0_1 a0_2 a0_3 l0_4)) = some r := by rw [if_pos rfl] at H; exact H
          clear H
          have H := H1
          clear H1
          by_cases c26 : x26_2 > 0
          ·rw [if_pos c26] at H
           have c26b0 : decide (0 < x26_2) = true := decide_eq_true c26
           clear c26
           obtain ⟨ji27, hji27⟩ : ∃ j_ : Int, (wrap64 (x26_2 - 1)) = j_ := ⟨_, rfl⟩
           replace H : (if 0 ≤ (ji27) then (if (ji27) < (l0_4.length : Int) then (if ((rd_T38 l0_4 (ji27)).f0) ≥ ((rd_T38 l0_4 x26_2).f0) then (some false) else (impl_FairOk.l0 k2 l0_4 (l0_4.length : Int) (wrap64 (x26_2 + 1)) a0_0 a0_1 a0_2 a0_3 l0_4)) else (none)) else (none)) = some r := by first | (rw [hji27] at H; exact H) | (simp only [hji27] at H ⊢; exact H)
           (try rw [hji27] at A24)
           have hji27w : (IntKind.i64.wrap (x26_2 - 1)) = ji27 := (i64_w _).trans hji27
           by_cases c28 : 0 ≤ (ji27)
           ·rw [if_pos c28] at H
            have c28b0 : decide (0 ≤ (ji27)) = true := decide_eq_true c28
            clear c28
            by_cases c29 : (ji27) < (l0_4.length : Int)
            ·rw [if_pos c29] at H
             have c29b0 : decide ((ji27) < (l0_4.length : Int)) = true := decide_eq_true c29
             clear c29
             by_cases c30 : ((rd_T38 l0_4 (ji27)).f0) ≥ ((rd_T38 l0_4 x26_2).f0)
             ·rw [if_pos c30] at H
              have c30b0 : decide (((rd_T38 l0_4 x26_2).f0) ≤ ((rd_T38 l0_4 (ji27)).f0)) = true := decide_eq_true c30
              clear c30
              obtain rfl := Option.some.inj H
              have p243 : 0 ≤ (x26_2 : Int) := of_decide_eq_true (by first | (with_reducible assumption) | assumption)
              have q243 : x26_2 < (l0_4.length : Int) := of_decide_eq_true (by first | (with_reducible assumption) | assumption)
              obtain ⟨ad243, e243, hx243_0, hx243_1, hx243_2, hx243_3, hx243_4, hx243_5⟩ := at_T38 HR0_4.out x26_2 p243 q243
              cases e243
              replace hx243_0 := (HB.out.cell (World.block_lt_of_cell? w _ hx243_0)).trans hx243_0
              replace hx243_1 := (HB.out.cell (World.block_lt_of_cell? w _ hx243_1)).trans hx243_1
              replace hx243_2 := (HB.out.cell (World.block_lt_of_cell? w _ hx243_2)).trans hx243_2
              replace hx243_3 := (HB.out.cell (World.block_lt_of_cell? w _ hx243_3)).trans hx243_3
              replace hx243_4 := (HB.out.cell (World.block_lt_of_cell? w _ hx243_4)).trans hx243_4
              replace hx243_5 := (HB.out.cell (World.block_lt_of_cell? w _ hx243_5)).trans hx243_5
              replace p243 := eq_true p243
              replace q243 := eq_true q243
              try go_wp2_with (first | ((with_reducible refine gate_dst (N := 4) rfl ?_); (try (refine gate_guard (by rfl) ?_; dsimp only)); refine box_event ?hg (N := 4) ?hd (cs := #[.int .i64 0, .int .i64 0, .bool false, .int .i64 0, .int .i64 0, .int .i64 0]) (t := 38) ?hr ?_; (case hd => rfl); (case hg => rfl); (case hr => first | (go_simp; done) | (go_simp; rfl)); intro gb244 hg w31 hbox hb; have n0_ := bb_ BK240 hb; have n1_ := Aside0.mk (below_step (bf_ HB) hb); have n2_ := Aside0.mk (hbox); have n3_ := gw_ HB hg; have n4_ := gw_ HB hg; have n5_ := nl_ BK240 hg; have n6_ := ng_ BK240 hg; clear BK240; clear HB; have BK240 := n0_; have HB := n1_; have BK244 := n2_; have GW244 := n3_; have GE244 := n4_; have NB240_244 := n5_; have NB244_240 := n6_; clear n0_ n1_ n2_ n3_ n4_ n5_ n6_; clear hb hbox hg; have hnb32 := NB244_240.out; have hnc32 := NB240_244.out; have hcz33_0 := bc_ BK244 0 (.int .i64 0) rfl; have hcz33_1 := bc_ BK244 1 (.int .i64 0) rfl; have hcz33_2 := bc_ BK244 2 (.bool false) rfl; have hcz33_3 := bc_ BK244 3 (.int .i64 0) rfl; have hcz33_4 := bc_ BK244 4 (.int .i64 0) rfl; have hcz33_5 := bc_ BK244 5 (.int .i64 0) rfl; have hfz33_0 := blk_frozen BK244.out 0; have hfz33_1 := blk_frozen BK244.out 1; have hfz33_2 := blk_frozen BK244.out 2; have hfz33_3 := blk_frozen BK244.out 3; have hfz33_4 := blk_frozen BK244.out 4; have hfz33_5 := blk_frozen BK244.out 5))
              have n0_ : Aside0 (((((((w31.setCell ⟨gb244, 0, none⟩ (.int .i64 ((rd_T38 l0_4 x26_2).f0))).setCell ⟨gb244, 1, none⟩ (.int .i64 ((rd_T38 l0_4 x26_2).f1))).setCell ⟨gb244, 2, none⟩ (.bool ((rd_T38 l0_4 x26_2).f2))).setCell ⟨gb244, 3, none⟩ (.int .i64 ((rd_T38 l0_4 x26_2).f3.f0))).setCell ⟨gb244, 4, none⟩ (.int .i64 ((rd_T38 l0_4 x26_2).f3.f1))).setCell ⟨gb244, 5, none⟩ (.int .i64 ((rd_T38 l0_4 x26_2).f3.f2))).heap[gb240]? = some (.cells #[.int .i64 a0_0, .int .i64 a0_1, .int .i64 a0_2, .int .i64 a0_3, .slice (some ad243) l0_4.length c0_4] 32 (0, 0))) := ⟨by (with_reducible repeat (first | refine blk_drewN ?_ _ | refine blk_drew ?_ | refine blk_alloc ?_ _)); refine blk_far ?_ NB240_244.out _; (with_reducible repeat (first | refine blk_drewN ?_ _ | refine blk_drew ?_ | refine blk_alloc ?_ _)); refine blk_far ?_ NB240_244.out _; (with_reducible repeat (first | refine blk_drewN ?_ _ | refine blk_drew ?_ | refine blk_alloc ?_ _)); refine blk_far ?_ NB240_244.out _; (with_reducible repeat (first | refine blk_drewN ?_ _ | refine blk_drew ?_ | refine blk_alloc ?_ _)); refine blk_far ?_ NB240_244.out _; (with_reducible repeat (first | refine blk_drewN ?_ _ | refine blk_drew ?_ | refine blk_alloc ?_ _)); refine blk_far ?_ NB240_244.out _; (with_reducible repeat (first | refine blk_drewN ?_ _ | refine blk_drew ?_ | refine blk_alloc ?_ _)); refine blk_far ?_ NB240_244.out _; exact bk_ BK240⟩
              have n1_ : Aside0 (((((((w31.setCell ⟨gb244, 0, none⟩ (.int .i64 ((rd_T38 l0_4 x26_2).f0))).setCell ⟨gb244, 1, none⟩ (.int .i64 ((rd_T38 l0_4 x26_2).f1))).setCell ⟨gb244, 2, none⟩ (.bool ((rd_T38 l0_4 x26_2).f2))).setCell ⟨gb244, 3, none⟩ (.int .i64 ((rd_T38 l0_4 x26_2).f3.f0))).setCell ⟨gb244, 4, none⟩ (.int .i64 ((rd_T38 l0_4 x26_2).f3.f1))).setCell ⟨gb244, 5, none⟩ (.int .i64 ((rd_T38 l0_4 x26_2).f3.f2))).heap[gb244]? = some (.cells #[.int .i64 ((rd_T38 l0_4 x26_2).f0), .int .i64 ((rd_T38 l0_4 x26_2).f1), .bool ((rd_T38 l0_4 x26_2).f2), .int .i64 ((rd_T38 l0_4 x26_2).f3.f0), .int .i64 ((rd_T38 l0_4 x26_2).f3.f1), .int .i64 ((rd_T38 l0_4 x26_2).f3.f2)] 38 (0, 0))) := ⟨by (with_reducible repeat (first | refine blk_drewN ?_ _ | refine blk_drew ?_ | refine blk_alloc ?_ _)); refine blk_put (cs := #[.int .i64 ((rd_T38 l0_4 x26_2).f0), .int .i64 ((rd_T38 l0_4 x26_2).f1), .bool ((rd_T38 l0_4 x26_2).f2), .int .i64 ((rd_T38 l0_4 x26_2).f3.f0), .int .i64 ((rd_T38 l0_4 x26_2).f3.f1), .int .i64 0]) ?_ 5 _ rfl; (with_reducible repeat (first | refine blk_drewN ?_ _ | refine blk_drew ?_ | refine blk_alloc ?_ _)); refine blk_put (cs := #[.int .i64 ((rd_T38 l0_4 x26_2).f0), .int .i64 ((rd_T38 l0_4 x26_2).f1), .bool ((rd_T38 l0_4 x26_2).f2), .int .i64 ((rd_T38 l0_4 x26_2).f3.f0), .int .i64 0, .int .i64 0]) ?_ 4 _ rfl; (with_reducible repeat (first | refine blk_drewN ?_ _ | refine blk_drew ?_ | refine blk_alloc ?_ _)); refine blk_put (cs := #[.int .i64 ((rd_T38 l0_4 x26_2).f0), .int .i64 ((rd_T38 l0_4 x26_2).f1), .bool ((rd_T38 l0_4 x26_2).f2), .int .i64 0, .int .i64 0, .int .i64 0]) ?_ 3 _ rfl; (with_reducible repeat (first | refine blk_drewN ?_ _ | refine blk_drew ?_ | refine blk_alloc ?_ _)); refine blk_put (cs := #[.int .i64 ((rd_T38 l0_4 x26_2).f0), .int .i64 ((rd_T38 l0_4 x26_2).f1), .bool false, .int .i64 0, .int .i64 0, .int .i64 0]) ?_ 2 _ rfl; (with_reducible repeat (first | refine blk_drewN ?_ _ | refine blk_drew ?_ | refine blk_alloc ?_ _)); refine blk_put (cs := #[.int .i64 ((rd_T38 l0_4 x26_2).f0), .int .i64 0, .bool false, .int .i64 0, .int .i64 0, .int .i64 0]) ?_ 1 _ rfl; (with_reducible repeat (first | refine blk_drewN ?_ _ | refine blk_drew ?_ | refine blk_alloc ?_ _)); refine blk_put (cs := #[.int .i64 0, .int .i64 0, .bool false, .int .i64 0, .int .i64 0, .int .i64 0]) ?_ 0 _ rfl; exact bk_ BK244⟩
              have n2_ : Aside0 (Below w.heap.size w ((((((w31.setCell ⟨gb244, 0, none⟩ (.int .i64 ((rd_T38 l0_4 x26_2).f0))).setCell ⟨gb244, 1, none⟩ (.int .i64 ((rd_T38 l0_4 x26_2).f1))).setCell ⟨gb244, 2, none⟩ (.bool ((rd_T38 l0_4 x26_2).f2))).setCell ⟨gb244, 3, none⟩ (.int .i64 ((rd_T38 l0_4 x26_2).f3.f0))).setCell ⟨gb244, 4, none⟩ (.int .i64 ((rd_T38 l0_4 x26_2).f3.f1))).setCell ⟨gb244, 5, none⟩ (.int .i64 ((rd_T38 l0_4 x26_2).f3.f2)))) := ⟨bf_ HB⟩
              (try clear BK240); (try clear BK244); (try clear HB)
              generalize ((((((w31.setCell ⟨gb244, 0, none⟩ (.int .i64 ((rd_T38 l0_4 x26_2).f0))).setCell ⟨gb244, 1, none⟩ (.int .i64 ((rd_T38 l0_4 x26_2).f1))).setCell ⟨gb244, 2, none⟩ (.bool ((rd_T38 l0_4 x26_2).f2))).setCell ⟨gb244, 3, none⟩ (.int .i64 ((rd_T38 l0_4 x26_2).f3.f0))).setCell ⟨gb244, 4, none⟩ (.int .i64 ((rd_T38 l0_4 x26_2).f3.f1))).setCell ⟨gb244, 5, none⟩ (.int .i64 ((rd_T38 l0_4 x26_2).f3.f2))) = w34 at n0_ n1_ n2_ ⊢
              have BK240 := n0_; have BK244 := n1_; have HB := n2_; clear n0_ n1_ n2_; have n0_ := Aside0.mk (blk_drew BK240.out); have n1_ := Aside0.mk (blk_drew BK244.out); have n2_ := Aside0.mk (below_drew1 HB.out); clear BK240; clear BK244; clear HB; have BK240 := n0_; have BK244 := n1_; have HB := n2_; clear n0_ n1_ n2_
              have p246 : 0 ≤ ((ji27) : Int) := of_decide_eq_true (by first | (with_reducible assumption) | assumption)
              have q246 : (ji27) < (l0_4.length : Int) := of_decide_eq_true (by first | (with_reducible assumption) | assumption)
              obtain ⟨ad246, e246, hx246_0, hx246_1, hx246_2, hx246_3, hx246_4, hx246_5⟩ := at_T38 HR0_4.out (ji27) p246 q246
              have hw246_5 := hx246_5; have hw246_4 := hx246_4; have hw246_3 := hx246_3; have hw246_2 := hx246_2; have hw246_1 := hx246_1; have hw246_0 := hx246_0
              obtain rfl : ad243 = ad246 := (by injection e246)
              replace hx246_0 := (HB.out.cell (World.block_lt_of_cell? w _ hx246_0)).trans hx246_0
              replace hx246_1 := (HB.out.cell (World.block_lt_of_cell? w _ hx246_1)).trans hx246_1
              replace hx246_2 := (HB.out.cell (World.block_lt_of_cell? w _ hx246_2)).trans hx246_2
              replace hx246_3 := (HB.out.cell (World.block_lt_of_cell? w _ hx246_3)).trans hx246_3
              replace hx246_4 := (HB.out.cell (World.block_lt_of_cell? w _ hx246_4)).trans hx246_4
              replace hx246_5 := (HB.out.cell (World.block_lt_of_cell? w _ hx246_5)).trans hx246_5
              replace p246 := eq_true p246
              replace q246 := eq_true q246
              refine start_ (n := 20) (S := fun w' => w'.cell? ⟨gb240, 0, none⟩ = some (.int .i64 a0_0) ∧ w'.cell? ⟨gb240, 1, none⟩ = some (.int .i64 a0_1) ∧ w'.cell? ⟨gb240, 2, none⟩ = some (.int .i64 a0_2) ∧ w'.cell? ⟨gb240, 3, none⟩ = some (.int .i64 a0_3) ∧ w'.cell? ⟨gb240, 4, none⟩ = some (.slice (some ad243) l0_4.length c0_4) ∧ w'.cell? ⟨gb244, 0, none⟩ = some (.int .i64 ((rd_T38 l0_4 x26_2).f0)) ∧ w'.cell? ⟨gb244, 1, none⟩ = some (.int .i64 ((rd_T38 l0_4 x26_2).f1)) ∧ w'.cell? ⟨gb244, 2, none⟩ = some (.bool ((rd_T38 l0_4 x26_2).f2)) ∧ w'.cell? ⟨gb244, 3, none⟩ = some (.int .i64 ((rd_T38 l0_4 x26_2).f3.f0)) ∧ w'.cell? ⟨gb244, 4, none⟩ = some (.int .i64 ((rd_T38 l0_4 x26_2).f3.f1)) ∧ w'.cell? ⟨gb244, 5, none⟩ = some (.int .i64 ((rd_T38 l0_4 x26_2).f3.f2)) ∧ w'.cell? (ad243.add (((ji27)).toNat * 6)) = some (.int .i64 ((rd_T38 l0_4 (ji27)).f0)) ∧ w'.cell? ⟨(ad243.add (((ji27)).toNat * 6)).block, (ad243.add (((ji27)).toNat * 6)).off + 1, none⟩ = some (.int .i64 ((rd_T38 l0_4 (ji27)).f1)) ∧ w'.cell? ⟨(ad243.add (((ji27)).toNat * 6)).block, (ad243.add (((ji27)).toNat * 6)).off + 2, none⟩ = some (.bool ((rd_T38 l0_4 (ji27)).f2)) ∧ w'.cell? ⟨(ad243.add (((ji27)).toNat * 6)).block, (ad243.add (((ji27)).toNat * 6)).off + 3, none⟩ = some (.int .i64 ((rd_T38 l0_4 (ji27)).f3.f0)) ∧ w'.cell? ⟨(ad243.add (((ji27)).toNat * 6)).block, (ad243.add (((ji27)).toNat * 6)).off + 4, none⟩ = some (.int .i64 ((rd_T38 l0_4 (ji27)).f3.f1)) ∧ w'.cell? ⟨(ad243.add (((ji27)).toNat * 6)).block, (ad243.add (((ji27)).toNat * 6)).off + 5, none⟩ = some (.int .i64 ((rd_T38 l0_4 (ji27)).f3.f2))) (ds := []) (bs 20 0) (by kernel_rfl) rfl rfl ⟨bt_ BK240 0, bt_ BK240 1, bt_ BK240 2, bt_ BK240 3, bt_ BK240 4, bt_ BK244 0, bt_ BK244 1, bt_ BK244 2, bt_ BK244 3, bt_ BK244 4, bt_ BK244 5, ((HB.out.cell (World.block_lt_of_cell? w _ hw246_0)).trans hw246_0), ((HB.out.cell (World.block_lt_of_cell? w _ hw246_1)).trans hw246_1), ((HB.out.cell (World.block_lt_of_cell? w _ hw246_2)).trans hw246_2), ((HB.out.cell (World.block_lt_of_cell? w _ hw246_3)).trans hw246_3), ((HB.out.cell (World.block_lt_of_cell? w _ hw246_4)).trans hw246_4), ((HB.out.cell (World.block_lt_of_cell? w _ hw246_5)).trans hw246_5)⟩ (fun hHeld => ?_); refine with_tabW impl_FairOk.tab6 impl_FairOk.bits6 (fun HT_ HW_ => ?_)
              generalize w34.drew = w35 at BK240 BK244 HB hx246_0 hx246_1 hx246_2 hx246_3 hx246_4 hx246_5 hHeld ⊢
              refine take_ (i := 0) (N := some 31) (v := ?_) (a' := ?_) (bs 20 1) rfl rfl (take_ofW HT_.out HW_.out (by kernel_rfl)) (fun _ _ _ h => h) (Or.inl ⟨by rfl, ?_⟩) hHeld ?_ ?_
              rotate_left
              ·rintro w' ⟨s0, s1, s2, s3, s4, s5, s6, s7, s8, s9, s10, s11, s12, s13, s14, s15, s16⟩
               go_simp
               with_reducible rfl
              rotate_left
              ·simp only [Act.put, List.setIfInBounds_toArray, List.set_cons_zero, List.set_cons_succ, i64_w, i32_w]
               rfl
              refine take_ (i := 1) (N := some 32) (v := ?_) (a' := ?_) (bs 20 2) rfl rfl (take_ofW HT_.out HW_.out (by kernel_rfl)) (fun _ _ _ h => h) (Or.inl ⟨by rfl, ?_⟩) hHeld ?_ ?_
              rotate_left
              ·rintro w' ⟨s0, s1, s2, s3, s4, s5, s6, s7, s8, s9, s10, s11, s12, s13, s14, s15, s16⟩
               go_simp
               with_reducible rfl
              rotate_left
              ·simp only [Act.put, List.setIfInBounds_toArray, List.set_cons_zero, List.set_cons_succ, i64_w, i32_w]
               rfl
              refine one_ (i := 2) (N := some 33) (bs 20 3) rfl rfl (one_of HT_.out (by kernel_rfl)) (by decide) (fun K hK => ?_)
              refine goes_ Try.func53 (by kernel_rfl) rfl #[.agg #[.int .i64 a0_0, .int .i64 a0_1, .int .i64 a0_2, .int .i64 a0_3, .slice (some ad243) l0_4.length c0_4], .agg #[.int .i64 ((rd_T38 l0_4 x26_2).f0), .int .i64 ((rd_T38 l0_4 x26_2).f1), .bool ((rd_T38 l0_4 x26_2).f2), .int .i64 ((rd_T38 l0_4 x26_2).f3.f0), .int .i64 ((rd_T38 l0_4 x26_2).f3.f1), .int .i64 ((rd_T38 l0_4 x26_2).f3.f2)]] (by rfl) rfl rfl mt_ ?_
              with_reducible refine (impl_Fair_kidOk.calls a0_0 a0_1 a0_2 a0_3 _ _ l0_4 ((rd_T38 l0_4 x26_2).f0) ((rd_T38 l0_4 x26_2).f1) ((rd_T38 l0_4 x26_2).f2) ((rd_T38 l0_4 x26_2).f3.f0) ((rd_T38 l0_4 x26_2).f3.f1) ((rd_T38 l0_4 x26_2).f3.f2) true _ ?side1 ?side2 A24.out).mono ?_
              (case side1 => repeat (first | exact (Kd.C_below HR0_4.out HB.out) | (with_reducible refine Kd.C_alloc ?_ _) | (with_reducible refine Kd.C_drewN ?_ _) | (with_reducible refine Kd.C_drew ?_)))
              (case side2 => exact HC0_4.out)
              rintro e w36 ⟨rfl, hb⟩
              refine ⟨_, rfl, ?_⟩
              have n0_ := bb_ BK240 hb; have n1_ := bb_ BK244 hb; have n2_ := Aside0.mk (below_step (bf_ HB) hb); clear BK240; clear BK244; clear HB; have BK240 := n0_; have BK244 := n1_; have HB := n2_; clear n0_ n1_ n2_; (try clear hb); (try clear hb2); (try clear hk); (try clear hi)
              refine hK.out _ _ ⟨bt_ BK240 0, bt_ BK240 1, bt_ BK240 2, bt_ BK240 3, bt_ BK240 4, bt_ BK244 0, bt_ BK244 1, bt_ BK244 2, bt_ BK244 3, bt_ BK244 4, bt_ BK244 5, ((HB.out.cell (World.block_lt_of_cell? w _ hw246_0)).trans hw246_0), ((HB.out.cell (World.block_lt_of_cell? w _ hw246_1)).trans hw246_1), ((HB.out.cell (World.block_lt_of_cell? w _ hw246_2)).trans hw246_2), ((HB.out.cell (World.block_lt_of_cell? w _ hw246_3)).trans hw246_3), ((HB.out.cell (World.block_lt_of_cell? w _ hw246_4)).trans hw246_4), ((HB.out.cell (World.block_lt_of_cell? w _ hw246_5)).trans hw246_5)⟩ (fun hHeld => ?_)
              clear hK K
              refine norm_ (a' := ?_) ?_ ?_
              rotate_left
              ·show Act.put _ (some 33) _ = _
               simp only [Act.put, List.setIfInBounds_toArray, List.set_cons_zero, List.set_cons_succ, i64_w, i32_w]
               rfl
              refine pure_s (i := 3) (N := some 34) (bs 20 4) (any_of HT_.out (by kernel_rfl)) (h := ?_)
              refine pure_s (i := 4) (N := some 35) (bs 20 5) (any_of HT_.out (by kernel_rfl)) (h := ?_)
              refine pure_s (i := 5) (N := some 36) (bs 20 6) (any_of HT_.out (by kernel_rfl)) (h := ?_)
              refine pure_s (i := 6) (N := some 37) (bs 20 7) (any_of HT_.out (by kernel_rfl)) (h := ?_)
              refine pure_s (i := 7) (N := some 38) (bs 20 8) (any_of HT_.out (by kernel_rfl)) (h := ?_)
              refine pure_s (i := 8) (N := some 39) (bs 20 9) (any_of HT_.out (by kernel_rfl)) (h := ?_)
              refine pure_s (i := 10) (N := some 41) #[oT,oT,oT,oT,oT,oT,oT,oT,oT,oF,oT,oF,oF,oF,oF,oF,oF,oF,oF,oF] (any_of HT_.out (by kernel_rfl)) (h := ?_)
              refine pure_s (i := 11) (N := some 42) #[oT,oT,oT,oT,oT,oT,oT,oT,oT,oF,oT,oT,oF,oF,oF,oF,oF,oF,oF,oF] (any_of HT_.out (by kernel_rfl)) (h := ?_)
              refine pure_s (i := 15) (N := some 46) #[oT,oT,oT,oT,oT,oT,oT,oT,oT,oF,oT,oT,oF,oF,oF,oT,oF,oF,oF,oF] (any_of HT_.out (by kernel_rfl)) (h := ?_)
              refine take_ (i := 9) (N := some 40) (v := ?_) (a' := ?_) #[oT,oT,oT,oT,oT,oT,oT,oT,oT,oT,oT,oT,oF,oF,oF,oT,oF,oF,oF,oF] rfl rfl (take_ofW HT_.out HW_.out (by kernel_rfl)) (fun _ _ _ h => h) (Or.inl ⟨by rfl, ?_⟩) hHeld ?_ ?_
              rotate_left
              ·rintro w' ⟨s0, s1, s2, s3, s4, s5, s6, s7, s8, s9, s10, s11, s12, s13, s14, s15, s16⟩
               go_simp
               with_reducible rfl
              rotate_left
              ·simp only [Act.put, List.setIfInBounds_toArray, List.set_cons_zero, List.set_cons_succ, i64_w, i32_w]
               rfl
              refine pure_s (i := 12) (N := some 43) #[oT,oT,oT,oT,oT,oT,oT,oT,oT,oT,oT,oT,oT,oF,oF,oT,oF,oF,oF,oF] (any_of HT_.out (by kernel_rfl)) (h := ?_)
              refine pure_s (i := 13) (N := some 44) #[oT,oT,oT,oT,oT,oT,oT,oT,oT,oT,oT,oT,oT,oT,oF,oT,oF,oF,oF,oF] (any_of HT_.out (by kernel_rfl)) (h := ?_)
              refine take_ (i := 14) (N := some 45) (v := ?_) (a' := ?_) (bs 20 16) rfl rfl (take_ofW HT_.out HW_.out (by kernel_rfl)) (fun _ _ _ h => h) (Or.inl ⟨by rfl, ?_⟩) hHeld ?_ ?_
              rotate_left
              ·rintro w' ⟨s0, s1, s2, s3, s4, s5, s6, s7, s8, s9, s10, s11, s12, s13, s14, s15, s16⟩
               go_simp
               with_reducible rfl
              rotate_left
              ·simp only [Act.put, List.setIfInBounds_toArray, List.set_cons_zero, List.set_cons_succ, i64_w, i32_w]
               rfl
              refine take_ (i := 16) (N := some 47) (v := ?_) (a' := ?_) (bs 20 17) rfl rfl (take_ofW HT_.out HW_.out (by kernel_rfl)) (fun _ _ _ h => h) (Or.inl ⟨by rfl, ?_⟩) hHeld ?_ ?_
              rotate_left
              ·rintro w' ⟨s0, s1, s2, s3, s4, s5, s6, s7, s8, s9, s10, s11, s12, s13, s14, s15, s16⟩
               go_simp
               with_reducible rfl
              rotate_left
              ·simp only [Act.put, List.setIfInBounds_toArray, List.set_cons_zero, List.set_cons_succ, i64_w, i32_w]
               rfl
              refine pure_s (i := 17) (N := some 48) (bs 20 18) (any_of HT_.out (by kernel_rfl)) (h := ?_)
              refine pure_s (i := 18) (N := some 49) (bs 20 19) (any_of HT_.out (by kernel_rfl)) (h := ?_)
              refine pure_s (i := 19) (N := some 50) (bs 20 20) (any_of HT_.out (by kernel_rfl)) (h := ?_)
              refine done_ (done_of HT_.out (by kernel_rfl)) ?_
              try go_wp2
              go_ret
              exact ⟨by first | rfl | (simp [errW_none, errW_some] <;> rfl) | (simp only [← hji27]; first | rfl | (simp [errW_none, errW_some] <;> rfl)) | (simp [*, errW_none, errW_some] <;> rfl), bf_ HB⟩
             ·rw [if_neg c30] at H
              have c30b0 : decide (((rd_T38 l0_4 x26_2).f0) ≤ ((rd_T38 l0_4 (ji27)).f0)) = false := decide_eq_false c30
              clear c30
              have H' := Aside0.mk H
              clear H
              have p243 : 0 ≤ (x26_2 : Int) := of_decide_eq_true (by first | (with_reducible assumption) | assumption)
              have q243 : x26_2 < (l0_4.length : Int) := of_decide_eq_true (by first | (with_reducible assumption) | assumption)
              obtain ⟨ad243, e243, hx243_0, hx243_1, hx243_2, hx243_3, hx243_4, hx243_5⟩ := at_T38 HR0_4.out x26_2 p243 q243
              cases e243
              replace hx243_0 := (HB.out.cell (World.block_lt_of_cell? w _ hx243_0)).trans hx243_0
              replace hx243_1 := (HB.out.cell (World.block_lt_of_cell? w _ hx243_1)).trans hx243_1
              replace hx243_2 := (HB.out.cell (World.block_lt_of_cell? w _ hx243_2)).trans hx243_2
              replace hx243_3 := (HB.out.cell (World.block_lt_of_cell? w _ hx243_3)).trans hx243_3
              replace hx243_4 := (HB.out.cell (World.block_lt_of_cell? w _ hx243_4)).trans hx243_4
              replace hx243_5 := (HB.out.cell (World.block_lt_of_cell? w _ hx243_5)).trans hx243_5
              replace p243 := eq_true p243
              replace q243 := eq_true q243
              try go_wp2_with (first | ((with_reducible refine gate_dst (N := 4) rfl ?_); (try (refine gate_guard (by rfl) ?_; dsimp only)); refine box_event ?hg (N := 4) ?hd (cs := #[.int .i64 0, .int .i64 0, .bool false, .int .i64 0, .int .i64 0, .int .i64 0]) (t := 38) ?hr ?_; (case hd => rfl); (case hg => rfl); (case hr => first | (go_simp; done) | (go_simp; rfl)); intro gb244 hg w37 hbox hb; have n0_ := bb_ BK240 hb; have n1_ := Aside0.mk (below_step (bf_ HB) hb); have n2_ := Aside0.mk (hbox); have n3_ := gw_ HB hg; have n4_ := gw_ HB hg; have n5_ := nl_ BK240 hg; have n6_ := ng_ BK240 hg; clear BK240; clear HB; have BK240 := n0_; have HB := n1_; have BK244 := n2_; have GW244 := n3_; have GE244 := n4_; have NB240_244 := n5_; have NB244_240 := n6_; clear n0_ n1_ n2_ n3_ n4_ n5_ n6_; clear hb hbox hg; have hnb38 := NB244_240.out; have hnc38 := NB240_244.out; have hcz39_0 := bc_ BK244 0 (.int .i64 0) rfl; have hcz39_1 := bc_ BK244 1 (.int .i64 0) rfl; have hcz39_2 := bc_ BK244 2 (.bool false) rfl; have hcz39_3 := bc_ BK244 3 (.int .i64 0) rfl; have hcz39_4 := bc_ BK244 4 (.int .i64 0) rfl; have hcz39_5 := bc_ BK244 5 (.int .i64 0) rfl; have hfz39_0 := blk_frozen BK244.out 0; have hfz39_1 := blk_frozen BK244.out 1; have hfz39_2 := blk_frozen BK244.out 2; have hfz39_3 := blk_frozen BK244.out 3; have hfz39_4 := blk_frozen BK244.out 4; have hfz39_5 := blk_frozen BK244.out 5))
              have n0_ : Aside0 (((((((w37.setCell ⟨gb244, 0, none⟩ (.int .i64 ((rd_T38 l0_4 x26_2).f0))).setCell ⟨gb244, 1, none⟩ (.int .i64 ((rd_T38 l0_4 x26_2).f1))).setCell ⟨gb244, 2, none⟩ (.bool ((rd_T38 l0_4 x26_2).f2))).setCell ⟨gb244, 3, none⟩ (.int .i64 ((rd_T38 l0_4 x26_2).f3.f0))).setCell ⟨gb244, 4, none⟩ (.int .i64 ((rd_T38 l0_4 x26_2).f3.f1))).setCell ⟨gb244, 5, none⟩ (.int .i64 ((rd_T38 l0_4 x26_2).f3.f2))).heap[gb240]? = some (.cells #[.int .i64 a0_0, .int .i64 a0_1, .int .i64 a0_2, .int .i64 a0_3, .slice (some ad243) l0_4.length c0_4] 32 (0, 0))) := ⟨by (with_reducible repeat (first | refine blk_drewN ?_ _ | refine blk_drew ?_ | refine blk_alloc ?_ _)); refine blk_far ?_ NB240_244.out _; (with_reducible repeat (first | refine blk_drewN ?_ _ | refine blk_drew ?_ | refine blk_alloc ?_ _)); refine blk_far ?_ NB240_244.out _; (with_reducible repeat (first | refine blk_drewN ?_ _ | refine blk_drew ?_ | refine blk_alloc ?_ _)); refine blk_far ?_ NB240_244.out _; (with_reducible repeat (first | refine blk_drewN ?_ _ | refine blk_drew ?_ | refine blk_alloc ?_ _)); refine blk_far ?_ NB240_244.out _; (with_reducible repeat (first | refine blk_drewN ?_ _ | refine blk_drew ?_ | refine blk_alloc ?_ _)); refine blk_far ?_ NB240_244.out _; (with_reducible repeat (first | refine blk_drewN ?_ _ | refine blk_drew ?_ | refine blk_alloc ?_ _)); refine blk_far ?_ NB240_244.out _; exact bk_ BK240⟩
              have n1_ : Aside0 (((((((w37.setCell ⟨gb244, 0, none⟩ (.int .i64 ((rd_T38 l0_4 x26_2).f0))).setCell ⟨gb244, 1, none⟩ (.int .i64 ((rd_T38 l0_4 x26_2).f1))).setCell ⟨gb244, 2, none⟩ (.bool ((rd_T38 l0_4 x26_2).f2))).setCell ⟨gb244, 3, none⟩ (.int .i64 ((rd_T38 l0_4 x26_2).f3.f0))).setCell ⟨gb244, 4, none⟩ (.int .i64 ((rd_T38 l0_4 x26_2).f3.f1))).setCell ⟨gb244, 5, none⟩ (.int .i64 ((rd_T38 l0_4 x26_2).f3.f2))).heap[gb244]? = some (.cells #[.int .i64 ((rd_T38 l0_4 x26_2).f0), .int .i64 ((rd_T38 l0_4 x26_2).f1), .bool ((rd_T38 l0_4 x26_2).f2), .int .i64 ((rd_T38 l0_4 x26_2).f3.f0), .int .i64 ((rd_T38 l0_4 x26_2).f3.f1), .int .i64 ((rd_T38 l0_4 x26_2).f3.f2)] 38 (0, 0))) := ⟨by (with_reducible repeat (first | refine blk_drewN ?_ _ | refine blk_drew ?_ | refine blk_alloc ?_ _)); refine blk_put (cs := #[.int .i64 ((rd_T38 l0_4 x26_2).f0), .int .i64 ((rd_T38 l0_4 x26_2).f1), .bool ((rd_T38 l0_4 x26_2).f2), .int .i64 ((rd_T38 l0_4 x26_2).f3.f0), .int .i64 ((rd_T38 l0_4 x26_2).f3.f1), .int .i64 0]) ?_ 5 _ rfl; (with_reducible repeat (first | refine blk_drewN ?_ _ | refine blk_drew ?_ | refine blk_alloc ?_ _)); refine blk_put (cs := #[.int .i64 ((rd_T38 l0_4 x26_2).f0), .int .i64 ((rd_T38 l0_4 x26_2).f1), .bool ((rd_T38 l0_4 x26_2).f2), .int .i64 ((rd_T38 l0_4 x26_2).f3.f0), .int .i64 0, .int .i64 0]) ?_ 4 _ rfl; (with_reducible repeat (first | refine blk_drewN ?_ _ | refine blk_drew ?_ | refine blk_alloc ?_ _)); refine blk_put (cs := #[.int .i64 ((rd_T38 l0_4 x26_2).f0), .int .i64 ((rd_T38 l0_4 x26_2).f1), .bool ((rd_T38 l0_4 x26_2).f2), .int .i64 0, .int .i64 0, .int .i64 0]) ?_ 3 _ rfl; (with_reducible repeat (first | refine blk_drewN ?_ _ | refine blk_drew ?_ | refine blk_alloc ?_ _)); refine blk_put (cs := #[.int .i64 ((rd_T38 l0_4 x26_2).f0), .int .i64 ((rd_T38 l0_4 x26_2).f1), .bool false, .int .i64 0, .int .i64 0, .int .i64 0]) ?_ 2 _ rfl; (with_reducible repeat (first | refine blk_drewN ?_ _ | refine blk_drew ?_ | refine blk_alloc ?_ _)); refine blk_put (cs := #[.int .i64 ((rd_T38 l0_4 x26_2).f0), .int .i64 0, .bool false, .int .i64 0, .int .i64 0, .int .i64 0]) ?_ 1 _ rfl; (with_reducible repeat (first | refine blk_drewN ?_ _ | refine blk_drew ?_ | refine blk_alloc ?_ _)); refine blk_put (cs := #[.int .i64 0, .int .i64 0, .bool false, .int .i64 0, .int .i64 0, .int .i64 0]) ?_ 0 _ rfl; exact bk_ BK244⟩
              have n2_ : Aside0 (Below w.heap.size w ((((((w37.setCell ⟨gb244, 0, none⟩ (.int .i64 ((rd_T38 l0_4 x26_2).f0))).setCell ⟨gb244, 1, none⟩ (.int .i64 ((rd_T38 l0_4 x26_2).f1))).setCell ⟨gb244, 2, none⟩ (.bool ((rd_T38 l0_4 x26_2).f2))).setCell ⟨gb244, 3, none⟩ (.int .i64 ((rd_T38 l0_4 x26_2).f3.f0))).setCell ⟨gb244, 4, none⟩ (.int .i64 ((rd_T38 l0_4 x26_2).f3.f1))).setCell ⟨gb244, 5, none⟩ (.int .i64 ((rd_T38 l0_4 x26_2).f3.f2)))) := ⟨bf_ HB⟩
              (try clear BK240); (try clear BK244); (try clear HB)
              generalize ((((((w37.setCell ⟨gb244, 0, none⟩ (.int .i64 ((rd_T38 l0_4 x26_2).f0))).setCell ⟨gb244, 1, none⟩ (.int .i64 ((rd_T38 l0_4 x26_2).f1))).setCell ⟨gb244, 2, none⟩ (.bool ((rd_T38 l0_4 x26_2).f2))).setCell ⟨gb244, 3, none⟩ (.int .i64 ((rd_T38 l0_4 x26_2).f3.f0))).setCell ⟨gb244, 4, none⟩ (.int .i64 ((rd_T38 l0_4 x26_2).f3.f1))).setCell ⟨gb244, 5, none⟩ (.int .i64 ((rd_T38 l0_4 x26_2).f3.f2))) = w40 at n0_ n1_ n2_ ⊢
              have BK240 := n0_; have BK244 := n1_; have HB := n2_; clear n0_ n1_ n2_; have n0_ := Aside0.mk (blk_drew BK240.out); have n1_ := Aside0.mk (blk_drew BK244.out); have n2_ := Aside0.mk (below_drew1 HB.out); clear BK240; clear BK244; clear HB; have BK240 := n0_; have BK244 := n1_; have HB := n2_; clear n0_ n1_ n2_
              have p246 : 0 ≤ ((ji27) : Int) := of_decide_eq_true (by first | (with_reducible assumption) | assumption)
              have q246 : (ji27) < (l0_4.length : Int) := of_decide_eq_true (by first | (with_reducible assumption) | assumption)
              obtain ⟨ad246, e246, hx246_0, hx246_1, hx246_2, hx246_3, hx246_4, hx246_5⟩ := at_T38 HR0_4.out (ji27) p246 q246
              have hw246_5 := hx246_5; have hw246_4 := hx246_4; have hw246_3 := hx246_3; have hw246_2 := hx246_2; have hw246_1 := hx246_1; have hw246_0 := hx246_0
              obtain rfl : ad243 = ad246 := (by injection e246)
              replace hx246_0 := (HB.out.cell (World.block_lt_of_cell? w _ hx246_0)).trans hx246_0
              replace hx246_1 := (HB.out.cell (World.block_lt_of_cell? w _ hx246_1)).trans hx246_1
              replace hx246_2 := (HB.out.cell (World.block_lt_of_cell? w _ hx246_2)).trans hx246_2
              replace hx246_3 := (HB.out.cell (World.block_lt_of_cell? w _ hx246_3)).trans hx246_3
              replace hx246_4 := (HB.out.cell (World.block_lt_of_cell? w _ hx246_4)).trans hx246_4
              replace hx246_5 := (HB.out.cell (World.block_lt_of_cell? w _ hx246_5)).trans hx246_5
              replace p246 := eq_true p246
              replace q246 := eq_true q246
              refine start_ (n := 20) (S := fun w' => w'.cell? ⟨gb240, 0, none⟩ = some (.int .i64 a0_0) ∧ w'.cell? ⟨gb240, 1, none⟩ = some (.int .i64 a0_1) ∧ w'.cell? ⟨gb240, 2, none⟩ = some (.int .i64 a0_2) ∧ w'.cell? ⟨gb240, 3, none⟩ = some (.int .i64 a0_3) ∧ w'.cell? ⟨gb240, 4, none⟩ = some (.slice (some ad243) l0_4.length c0_4) ∧ w'.cell? ⟨gb244, 0, none⟩ = some (.int .i64 ((rd_T38 l0_4 x26_2).f0)) ∧ w'.cell? ⟨gb244, 1, none⟩ = some (.int .i64 ((rd_T38 l0_4 x26_2).f1)) ∧ w'.cell? ⟨gb244, 2, none⟩ = some (.bool ((rd_T38 l0_4 x26_2).f2)) ∧ w'.cell? ⟨gb244, 3, none⟩ = some (.int .i64 ((rd_T38 l0_4 x26_2).f3.f0)) ∧ w'.cell? ⟨gb244, 4, none⟩ = some (.int .i64 ((rd_T38 l0_4 x26_2).f3.f1)) ∧ w'.cell? ⟨gb244, 5, none⟩ = some (.int .i64 ((rd_T38 l0_4 x26_2).f3.f2)) ∧ w'.cell? (ad243.add (((ji27)).toNat * 6)) = some (.int .i64 ((rd_T38 l0_4 (ji27)).f0)) ∧ w'.cell? ⟨(ad243.add (((ji27)).toNat * 6)).block, (ad243.add (((ji27)).toNat * 6)).off + 1, none⟩ = some (.int .i64 ((rd_T38 l0_4 (ji27)).f1)) ∧ w'.cell? ⟨(ad243.add (((ji27)).toNat * 6)).block, (ad243.add (((ji27)).toNat * 6)).off + 2, none⟩ = some (.bool ((rd_T38 l0_4 (ji27)).f2)) ∧ w'.cell? ⟨(ad243.add (((ji27)).toNat * 6)).block, (ad243.add (((ji27)).toNat * 6)).off + 3, none⟩ = some (.int .i64 ((rd_T38 l0_4 (ji27)).f3.f0)) ∧ w'.cell? ⟨(ad243.add (((ji27)).toNat * 6)).block, (ad243.add (((ji27)).toNat * 6)).off + 4, none⟩ = some (.int .i64 ((rd_T38 l0_4 (ji27)).f3.f1)) ∧ w'.cell? ⟨(ad243.add (((ji27)).toNat * 6)).block, (ad243.add (((ji27)).toNat * 6)).off + 5, none⟩ = some (.int .i64 ((rd_T38 l0_4 (ji27)).f3.f2))) (ds := []) (bs 20 0) (by kernel_rfl) rfl rfl ⟨bt_ BK240 0, bt_ BK240 1, bt_ BK240 2, bt_ BK240 3, bt_ BK240 4, bt_ BK244 0, bt_ BK244 1, bt_ BK244 2, bt_ BK244 3, bt_ BK244 4, bt_ BK244 5, ((HB.out.cell (World.block_lt_of_cell? w _ hw246_0)).trans hw246_0), ((HB.out.cell (World.block_lt_of_cell? w _ hw246_1)).trans hw246_1), ((HB.out.cell (World.block_lt_of_cell? w _ hw246_2)).trans hw246_2), ((HB.out.cell (World.block_lt_of_cell? w _ hw246_3)).trans hw246_3), ((HB.out.cell (World.block_lt_of_cell? w _ hw246_4)).trans hw246_4), ((HB.out.cell (World.block_lt_of_cell? w _ hw246_5)).trans hw246_5)⟩ (fun hHeld => ?_); refine with_tabW impl_FairOk.tab6 impl_FairOk.bits6 (fun HT_ HW_ => ?_)
              generalize w40.drew = w41 at BK240 BK244 HB hx246_0 hx246_1 hx246_2 hx246_3 hx246_4 hx246_5 hHeld ⊢
              refine take_ (i := 0) (N := some 31) (v := ?_) (a' := ?_) (bs 20 1) rfl rfl (take_ofW HT_.out HW_.out (by kernel_rfl)) (fun _ _ _ h => h) (Or.inl ⟨by rfl, ?_⟩) hHeld ?_ ?_
              rotate_left
              ·rintro w' ⟨s0, s1, s2, s3, s4, s5, s6, s7, s8, s9, s10, s11, s12, s13, s14, s15, s16⟩
               go_simp
               with_reducible rfl
              rotate_left
              ·simp only [Act.put, List.setIfInBounds_toArray, List.set_cons_zero, List.set_cons_succ, i64_w, i32_w]
               rfl
              refine take_ (i := 1) (N := some 32) (v := ?_) (a' := ?_) (bs 20 2) rfl rfl (take_ofW HT_.out HW_.out (by kernel_rfl)) (fun _ _ _ h => h) (Or.inl ⟨by rfl, ?_⟩) hHeld ?_ ?_
              rotate_left
              ·rintro w' ⟨s0, s1, s2, s3, s4, s5, s6, s7, s8, s9, s10, s11, s12, s13, s14, s15, s16⟩
               go_simp
               with_reducible rfl
              rotate_left
              ·simp only [Act.put, List.setIfInBounds_toArray, List.set_cons_zero, List.set_cons_succ, i64_w, i32_w]
               rfl
              refine one_ (i := 2) (N := some 33) (bs 20 3) rfl rfl (one_of HT_.out (by kernel_rfl)) (by decide) (fun K hK => ?_)
              refine goes_ Try.func53 (by kernel_rfl) rfl #[.agg #[.int .i64 a0_0, .int .i64 a0_1, .int .i64 a0_2, .int .i64 a0_3, .slice (some ad243) l0_4.length c0_4], .agg #[.int .i64 ((rd_T38 l0_4 x26_2).f0), .int .i64 ((rd_T38 l0_4 x26_2).f1), .bool ((rd_T38 l0_4 x26_2).f2), .int .i64 ((rd_T38 l0_4 x26_2).f3.f0), .int .i64 ((rd_T38 l0_4 x26_2).f3.f1), .int .i64 ((rd_T38 l0_4 x26_2).f3.f2)]] (by rfl) rfl rfl mt_ ?_
              with_reducible refine (impl_Fair_kidOk.calls a0_0 a0_1 a0_2 a0_3 _ _ l0_4 ((rd_T38 l0_4 x26_2).f0) ((rd_T38 l0_4 x26_2).f1) ((rd_T38 l0_4 x26_2).f2) ((rd_T38 l0_4 x26_2).f3.f0) ((rd_T38 l0_4 x26_2).f3.f1) ((rd_T38 l0_4 x26_2).f3.f2) true _ ?side1 ?side2 A24.out).mono ?_
              (case side1 => repeat (first | exact (Kd.C_below HR0_4.out HB.out) | (with_reducible refine Kd.C_alloc ?_ _) | (with_reducible refine Kd.C_drewN ?_ _) | (with_reducible refine Kd.C_drew ?_)))
              (case side2 => exact HC0_4.out)
              rintro e w42 ⟨rfl, hb⟩
              refine ⟨_, rfl, ?_⟩
              have n0_ := bb_ BK240 hb; have n1_ := bb_ BK244 hb; have n2_ := Aside0.mk (below_step (bf_ HB) hb); clear BK240; clear BK244; clear HB; have BK240 := n0_; have BK244 := n1_; have HB := n2_; clear n0_ n1_ n2_; (try clear hb); (try clear hb2); (try clear hk); (try clear hi)
              refine hK.out _ _ ⟨bt_ BK240 0, bt_ BK240 1, bt_ BK240 2, bt_ BK240 3, bt_ BK240 4, bt_ BK244 0, bt_ BK244 1, bt_ BK244 2, bt_ BK244 3, bt_ BK244 4, bt_ BK244 5, ((HB.out.cell (World.block_lt_of_cell? w _ hw246_0)).trans hw246_0), ((HB.out.cell (World.block_lt_of_cell? w _ hw246_1)).trans hw246_1), ((HB.out.cell (World.block_lt_of_cell? w _ hw246_2)).trans hw246_2), ((HB.out.cell (World.block_lt_of_cell? w _ hw246_3)).trans hw246_3), ((HB.out.cell (World.block_lt_of_cell? w _ hw246_4)).trans hw246_4), ((HB.out.cell (World.block_lt_of_cell? w _ hw246_5)).trans hw246_5)⟩ (fun hHeld => ?_)
              clear hK K
              refine norm_ (a' := ?_) ?_ ?_
              rotate_left
              ·show Act.put _ (some 33) _ = _
               simp only [Act.put, List.setIfInBounds_toArray, List.set_cons_zero, List.set_cons_succ, i64_w, i32_w]
               rfl
              refine pure_s (i := 3) (N := some 34) (bs 20 4) (any_of HT_.out (by kernel_rfl)) (h := ?_)
              refine pure_s (i := 4) (N := some 35) (bs 20 5) (any_of HT_.out (by kernel_rfl)) (h := ?_)
              refine pure_s (i := 5) (N := some 36) (bs 20 6) (any_of HT_.out (by kernel_rfl)) (h := ?_)
              refine pure_s (i := 6) (N := some 37) (bs 20 7) (any_of HT_.out (by kernel_rfl)) (h := ?_)
              refine pure_s (i := 7) (N := some 38) (bs 20 8) (any_of HT_.out (by kernel_rfl)) (h := ?_)
              refine pure_s (i := 8) (N := some 39) (bs 20 9) (any_of HT_.out (by kernel_rfl)) (h := ?_)
              refine pure_s (i := 10) (N := some 41) #[oT,oT,oT,oT,oT,oT,oT,oT,oT,oF,oT,oF,oF,oF,oF,oF,oF,oF,oF,oF] (any_of HT_.out (by kernel_rfl)) (h := ?_)
              refine pure_s (i := 11) (N := some 42) #[oT,oT,oT,oT,oT,oT,oT,oT,oT,oF,oT,oT,oF,oF,oF,oF,oF,oF,oF,oF] (any_of HT_.out (by kernel_rfl)) (h := ?_)
              refine pure_s (i := 15) (N := some 46) #[oT,oT,oT,oT,oT,oT,oT,oT,oT,oF,oT,oT,oF,oF,oF,oT,oF,oF,oF,oF] (any_of HT_.out (by kernel_rfl)) (h := ?_)
              refine take_ (i := 9) (N := some 40) (v := ?_) (a' := ?_) #[oT,oT,oT,oT,oT,oT,oT,oT,oT,oT,oT,oT,oF,oF,oF,oT,oF,oF,oF,oF] rfl rfl (take_ofW HT_.out HW_.out (by kernel_rfl)) (fun _ _ _ h => h) (Or.inl ⟨by rfl, ?_⟩) hHeld ?_ ?_
              rotate_left
              ·rintro w' ⟨s0, s1, s2, s3, s4, s5, s6, s7, s8, s9, s10, s11, s12, s13, s14, s15, s16⟩
               go_simp
               with_reducible rfl
              rotate_left
              ·simp only [Act.put, List.setIfInBounds_toArray, List.set_cons_zero, List.set_cons_succ, i64_w, i32_w]
               rfl
              refine pure_s (i := 12) (N := some 43) #[oT,oT,oT,oT,oT,oT,oT,oT,oT,oT,oT,oT,oT,oF,oF,oT,oF,oF,oF,oF] (any_of HT_.out (by kernel_rfl)) (h := ?_)
              refine pure_s (i := 13) (N := some 44) #[oT,oT,oT,oT,oT,oT,oT,oT,oT,oT,oT,oT,oT,oT,oF,oT,oF,oF,oF,oF] (any_of HT_.out (by kernel_rfl)) (h := ?_)
              refine take_ (i := 14) (N := some 45) (v := ?_) (a' := ?_) (bs 20 16) rfl rfl (take_ofW HT_.out HW_.out (by kernel_rfl)) (fun _ _ _ h => h) (Or.inl ⟨by rfl, ?_⟩) hHeld ?_ ?_
              rotate_left
              ·rintro w' ⟨s0, s1, s2, s3, s4, s5, s6, s7, s8, s9, s10, s11, s12, s13, s14, s15, s16⟩
               go_simp
               with_reducible rfl
              rotate_left
              ·simp only [Act.put, List.setIfInBounds_toArray, List.set_cons_zero, List.set_cons_succ, i64_w, i32_w]
               rfl
              refine take_ (i := 16) (N := some 47) (v := ?_) (a' := ?_) (bs 20 17) rfl rfl (take_ofW HT_.out HW_.out (by kernel_rfl)) (fun _ _ _ h => h) (Or.inl ⟨by rfl, ?_⟩) hHeld ?_ ?_
              rotate_left
              ·rintro w' ⟨s0, s1, s2, s3, s4, s5, s6, s7, s8, s9, s10, s11, s12, s13, s14, s15, s16⟩
               go_simp
               with_reducible rfl
              rotate_left
              ·simp only [Act.put, List.setIfInBounds_toArray, List.set_cons_zero, List.set_cons_succ, i64_w, i32_w]
               rfl
              refine pure_s (i := 17) (N := some 48) (bs 20 18) (any_of HT_.out (by kernel_rfl)) (h := ?_)
              refine pure_s (i := 18) (N := some 49) (bs 20 19) (any_of HT_.out (by kernel_rfl)) (h := ?_)
              refine pure_s (i := 19) (N := some 50) (bs 20 20) (any_of HT_.out (by kernel_rfl)) (h := ?_)
              refine done_ (done_of HT_.out (by kernel_rfl)) ?_
              try go_wp2
              go_roundg k2
              case measure => have := HJ1.out; have := HK2.out; omega
              case rel => exact ⟨(wrap64 (x26_2 + 1)), (by first | rfl | (simp; done) | (simp [*]; done)), H', ⟨by have := HJ1.out; have := HK2.out; omega⟩, ⟨bk_ BK240⟩, ⟨bf_ HB⟩⟩
            ·rw [if_neg c29] at H
             exact absurd H (by simp)
           ·rw [if_neg c28] at H
            exact absurd H (by simp)
          ·rw [if_neg c26] at H
           have c26b0 : decide (0 < x26_2) = false := decide_eq_false c26
           clear c26
           have H' := Aside0.mk H
           clear H
           have p243 : 0 ≤ (x26_2 : Int) := of_decide_eq_true (by first | (with_reducible assumption) | assumption)
           have q243 : x26_2 < (l0_4.length : Int) := of_decide_eq_true (by first | (with_reducible assumption) | assumption)
           obtain ⟨ad243, e243, hx243_0, hx243_1, hx243_2, hx243_3, hx243_4, hx243_5⟩ := at_T38 HR0_4.out x26_2 p243 q243
           cases e243
           replace hx243_0 := (HB.out.cell (World.block_lt_of_cell? w _ hx243_0)).trans hx243_0
           replace hx243_1 := (HB.out.cell (World.block_lt_of_cell? w _ hx243_1)).trans hx243_1
           replace hx243_2 := (HB.out.cell (World.block_lt_of_cell? w _ hx243_2)).trans hx243_2
           replace hx243_3 := (HB.out.cell (World.block_lt_of_cell? w _ hx243_3)).trans hx243_3
           replace hx243_4 := (HB.out.cell (World.block_lt_of_cell? w _ hx243_4)).trans hx243_4
           replace hx243_5 := (HB.out.cell (World.block_lt_of_cell? w _ hx243_5)).trans hx243_5
           replace p243 := eq_true p243
           replace q243 := eq_true q243
           try go_wp2_with (first | ((with_reducible refine gate_dst (N := 4) rfl ?_); (try (refine gate_guard (by rfl) ?_; dsimp only)); refine box_event ?hg (N := 4) ?hd (cs := #[.int .i64 0, .int .i64 0, .bool false, .int .i64 0, .int .i64 0, .int .i64 0]) (t := 38) ?hr ?_; (case hd => rfl); (case hg => rfl); (case hr => first | (go_simp; done) | (go_simp; rfl)); intro gb244 hg w43 hbox hb; have n0_ := bb_ BK240 hb; have n1_ := Aside0.mk (below_step (bf_ HB) hb); have n2_ := Aside0.mk (hbox); have n3_ := gw_ HB hg; have n4_ := gw_ HB hg; have n5_ := nl_ BK240 hg; have n6_ := ng_ BK240 hg; clear BK240; clear HB; have BK240 := n0_; have HB := n1_; have BK244 := n2_; have GW244 := n3_; have GE244 := n4_; have NB240_244 := n5_; have NB244_240 := n6_; clear n0_ n1_ n2_ n3_ n4_ n5_ n6_; clear hb hbox hg; have hnb44 := NB244_240.out; have hnc44 := NB240_244.out; have hcz45_0 := bc_ BK244 0 (.int .i64 0) rfl; have hcz45_1 := bc_ BK244 1 (.int .i64 0) rfl; have hcz45_2 := bc_ BK244 2 (.bool false) rfl; have hcz45_3 := bc_ BK244 3 (.int .i64 0) rfl; have hcz45_4 := bc_ BK244 4 (.int .i64 0) rfl; have hcz45_5 := bc_ BK244 5 (.int .i64 0) rfl; have hfz45_0 := blk_frozen BK244.out 0; have hfz45_1 := blk_frozen BK244.out 1; have hfz45_2 := blk_frozen BK244.out 2; have hfz45_3 := blk_frozen BK244.out 3; have hfz45_4 := blk_frozen BK244.out 4; have hfz45_5 := blk_frozen BK244.out 5))
           have n0_ : Aside0 (((((((w43.setCell ⟨gb244, 0, none⟩ (.int .i64 ((rd_T38 l0_4 x26_2).f0))).setCell ⟨gb244, 1, none⟩ (.int .i64 ((rd_T38 l0_4 x26_2).f1))).setCell ⟨gb244, 2, none⟩ (.bool ((rd_T38 l0_4 x26_2).f2))).setCell ⟨gb244, 3, none⟩ (.int .i64 ((rd_T38 l0_4 x26_2).f3.f0))).setCell ⟨gb244, 4, none⟩ (.int .i64 ((rd_T38 l0_4 x26_2).f3.f1))).setCell ⟨gb244, 5, none⟩ (.int .i64 ((rd_T38 l0_4 x26_2).f3.f2))).heap[gb240]? = some (.cells #[.int .i64 a0_0, .int .i64 a0_1, .int .i64 a0_2, .int .i64 a0_3, .slice (some ad243) l0_4.length c0_4] 32 (0, 0))) := ⟨by (with_reducible repeat (first | refine blk_drewN ?_ _ | refine blk_drew ?_ | refine blk_alloc ?_ _)); refine blk_far ?_ NB240_244.out _; (with_reducible repeat (first | refine blk_drewN ?_ _ | refine blk_drew ?_ | refine blk_alloc ?_ _)); refine blk_far ?_ NB240_244.out _; (with_reducible repeat (first | refine blk_drewN ?_ _ | refine blk_drew ?_ | refine blk_alloc ?_ _)); refine blk_far ?_ NB240_244.out _; (with_reducible repeat (first | refine blk_drewN ?_ _ | refine blk_drew ?_ | refine blk_alloc ?_ _)); refine blk_far ?_ NB240_244.out _; (with_reducible repeat (first | refine blk_drewN ?_ _ | refine blk_drew ?_ | refine blk_alloc ?_ _)); refine blk_far ?_ NB240_244.out _; (with_reducible repeat (first | refine blk_drewN ?_ _ | refine blk_drew ?_ | refine blk_alloc ?_ _)); refine blk_far ?_ NB240_244.out _; exact bk_ BK240⟩
           have n1_ : Aside0 (((((((w43.setCell ⟨gb244, 0, none⟩ (.int .i64 ((rd_T38 l0_4 x26_2).f0))).setCell ⟨gb244, 1, none⟩ (.int .i64 ((rd_T38 l0_4 x26_2).f1))).setCell ⟨gb244, 2, none⟩ (.bool ((rd_T38 l0_4 x26_2).f2))).setCell ⟨gb244, 3, none⟩ (.int .i64 ((rd_T38 l0_4 x26_2).f3.f0))).setCell ⟨gb244, 4, none⟩ (.int .i64 ((rd_T38 l0_4 x26_2).f3.f1))).setCell ⟨gb244, 5, none⟩ (.int .i64 ((rd_T38 l0_4 x26_2).f3.f2))).heap[gb244]? = some (.cells #[.int .i64 ((rd_T38 l0_4 x26_2).f0), .int .i64 ((rd_T38 l0_4 x26_2).f1), .bool ((rd_T38 l0_4 x26_2).f2), .int .i64 ((rd_T38 l0_4 x26_2).f3.f0), .int .i64 ((rd_T38 l0_4 x26_2).f3.f1), .int .i64 ((rd_T38 l0_4 x26_2).f3.f2)] 38 (0, 0))) := ⟨by (with_reducible repeat (first | refine blk_drewN ?_ _ | refine blk_drew ?_ | refine blk_alloc ?_ _)); refine blk_put (cs := #[.int .i64 ((rd_T38 l0_4 x26_2).f0), .int .i64 ((rd_T38 l0_4 x26_2).f1), .bool ((rd_T38 l0_4 x26_2).f2), .int .i64 ((rd_T38 l0_4 x26_2).f3.f0), .int .i64 ((rd_T38 l0_4 x26_2).f3.f1), .int .i64 0]) ?_ 5 _ rfl; (with_reducible repeat (first | refine blk_drewN ?_ _ | refine blk_drew ?_ | refine blk_alloc ?_ _)); refine blk_put (cs := #[.int .i64 ((rd_T38 l0_4 x26_2).f0), .int .i64 ((rd_T38 l0_4 x26_2).f1), .bool ((rd_T38 l0_4 x26_2).f2), .int .i64 ((rd_T38 l0_4 x26_2).f3.f0), .int .i64 0, .int .i64 0]) ?_ 4 _ rfl; (with_reducible repeat (first | refine blk_drewN ?_ _ | refine blk_drew ?_ | refine blk_alloc ?_ _)); refine blk_put (cs := #[.int .i64 ((rd_T38 l0_4 x26_2).f0), .int .i64 ((rd_T38 l0_4 x26_2).f1), .bool ((rd_T38 l0_4 x26_2).f2), .int .i64 0, .int .i64 0, .int .i64 0]) ?_ 3 _ rfl; (with_reducible repeat (first | refine blk_drewN ?_ _ | refine blk_drew ?_ | refine blk_alloc ?_ _)); refine blk_put (cs := #[.int .i64 ((rd_T38 l0_4 x26_2).f0), .int .i64 ((rd_T38 l0_4 x26_2).f1), .bool false, .int .i64 0, .int .i64 0, .int .i64 0]) ?_ 2 _ rfl; (with_reducible repeat (first | refine blk_drewN ?_ _ | refine blk_drew ?_ | refine blk_alloc ?_ _)); refine blk_put (cs := #[.int .i64 ((rd_T38 l0_4 x26_2).f0), .int .i64 0, .bool false, .int .i64 0, .int .i64 0, .int .i64 0]) ?_ 1 _ rfl; (with_reducible repeat (first | refine blk_drewN ?_ _ | refine blk_drew ?_ | refine blk_alloc ?_ _)); refine blk_put (cs := #[.int .i64 0, .int .i64 0, .bool false, .int .i64 0, .int .i64 0, .int .i64 0]) ?_ 0 _ rfl; exact bk_ BK244⟩
           have n2_ : Aside0 (Below w.heap.size w ((((((w43.setCell ⟨gb244, 0, none⟩ (.int .i64 ((rd_T38 l0_4 x26_2).f0))).setCell ⟨gb244, 1, none⟩ (.int .i64 ((rd_T38 l0_4 x26_2).f1))).setCell ⟨gb244, 2, none⟩ (.bool ((rd_T38 l0_4 x26_2).f2))).setCell ⟨gb244, 3, none⟩ (.int .i64 ((rd_T38 l0_4 x26_2).f3.f0))).setCell ⟨gb244, 4, none⟩ (.int .i64 ((rd_T38 l0_4 x26_2).f3.f1))).setCell ⟨gb244, 5, none⟩ (.int .i64 ((rd_T38 l0_4 x26_2).f3.f2)))) := ⟨bf_ HB⟩
           (try clear BK240); (try clear BK244); (try clear HB)
           generalize ((((((w43.setCell ⟨gb244, 0, none⟩ (.int .i64 ((rd_T38 l0_4 x26_2).f0))).setCell ⟨gb244, 1, none⟩ (.int .i64 ((rd_T38 l0_4 x26_2).f1))).setCell ⟨gb244, 2, none⟩ (.bool ((rd_T38 l0_4 x26_2).f2))).setCell ⟨gb244, 3, none⟩ (.int .i64 ((rd_T38 l0_4 x26_2).f3.f0))).setCell ⟨gb244, 4, none⟩ (.int .i64 ((rd_T38 l0_4 x26_2).f3.f1))).setCell ⟨gb244, 5, none⟩ (.int .i64 ((rd_T38 l0_4 x26_2).f3.f2))) = w46 at n0_ n1_ n2_ ⊢
           have BK240 := n0_; have BK244 := n1_; have HB := n2_; clear n0_ n1_ n2_; have n0_ := Aside0.mk (blk_drew BK240.out); have n1_ := Aside0.mk (blk_drew BK244.out); have n2_ := Aside0.mk (below_drew1 HB.out); clear BK240; clear BK244; clear HB; have BK240 := n0_; have BK244 := n1_; have HB := n2_; clear n0_ n1_ n2_
           refine start_ (n := 20) (S := fun w' => w'.cell? ⟨gb240, 0, none⟩ = some (.int .i64 a0_0) ∧ w'.cell? ⟨gb240, 1, none⟩ = some (.int .i64 a0_1) ∧ w'.cell? ⟨gb240, 2, none⟩ = some (.int .i64 a0_2) ∧ w'.cell? ⟨gb240, 3, none⟩ = some (.int .i64 a0_3) ∧ w'.cell? ⟨gb240, 4, none⟩ = some (.slice (some ad243) l0_4.length c0_4) ∧ w'.cell? ⟨gb244, 0, none⟩ = some (.int .i64 ((rd_T38 l0_4 x26_2).f0)) ∧ w'.cell? ⟨gb244, 1, none⟩ = some (.int .i64 ((rd_T38 l0_4 x26_2).f1)) ∧ w'.cell? ⟨gb244, 2, none⟩ = some (.bool ((rd_T38 l0_4 x26_2).f2)) ∧ w'.cell? ⟨gb244, 3, none⟩ = some (.int .i64 ((rd_T38 l0_4 x26_2).f3.f0)) ∧ w'.cell? ⟨gb244, 4, none⟩ = some (.int .i64 ((rd_T38 l0_4 x26_2).f3.f1)) ∧ w'.cell? ⟨gb244, 5, none⟩ = some (.int .i64 ((rd_T38 l0_4 x26_2).f3.f2))) (ds := []) (bs 20 0) (by kernel_rfl) rfl rfl ⟨bt_ BK240 0, bt_ BK240 1, bt_ BK240 2, bt_ BK240 3, bt_ BK240 4, bt_ BK244 0, bt_ BK244 1, bt_ BK244 2, bt_ BK244 3, bt_ BK244 4, bt_ BK244 5⟩ (fun hHeld => ?_); refine with_tabW impl_FairOk.tab6 impl_FairOk.bits6 (fun HT_ HW_ => ?_)
           generalize w46.drew = w47 at BK240 BK244 HB hHeld ⊢
           refine take_ (i := 0) (N := some 31) (v := ?_) (a' := ?_) (bs 20 1) rfl rfl (take_ofW HT_.out HW_.out (by kernel_rfl)) (fun _ _ _ h => h) (Or.inl ⟨by rfl, ?_⟩) hHeld ?_ ?_
           rotate_left
           ·rintro w' ⟨s0, s1, s2, s3, s4, s5, s6, s7, s8, s9, s10⟩
            go_simp
            with_reducible rfl
           rotate_left
           ·simp only [Act.put, List.setIfInBounds_toArray, List.set_cons_zero, List.set_cons_succ, i64_w, i32_w]
            rfl
           refine take_ (i := 1) (N := some 32) (v := ?_) (a' := ?_) (bs 20 2) rfl rfl (take_ofW HT_.out HW_.out (by kernel_rfl)) (fun _ _ _ h => h) (Or.inl ⟨by rfl, ?_⟩) hHeld ?_ ?_
           rotate_left
           ·rintro w' ⟨s0, s1, s2, s3, s4, s5, s6, s7, s8, s9, s10⟩
            go_simp
            with_reducible rfl
           rotate_left
           ·simp only [Act.put, List.setIfInBounds_toArray, List.set_cons_zero, List.set_cons_succ, i64_w, i32_w]
            rfl
           refine one_ (i := 2) (N := some 33) (bs 20 3) rfl rfl (one_of HT_.out (by kernel_rfl)) (by decide) (fun K hK => ?_)
           refine goes_ Try.func53 (by kernel_rfl) rfl #[.agg #[.int .i64 a0_0, .int .i64 a0_1, .int .i64 a0_2, .int .i64 a0_3, .slice (some ad243) l0_4.length c0_4], .agg #[.int .i64 ((rd_T38 l0_4 x26_2).f0), .int .i64 ((rd_T38 l0_4 x26_2).f1), .bool ((rd_T38 l0_4 x26_2).f2), .int .i64 ((rd_T38 l0_4 x26_2).f3.f0), .int .i64 ((rd_T38 l0_4 x26_2).f3.f1), .int .i64 ((rd_T38 l0_4 x26_2).f3.f2)]] (by rfl) rfl rfl mt_ ?_
           with_reducible refine (impl_Fair_kidOk.calls a0_0 a0_1 a0_2 a0_3 _ _ l0_4 ((rd_T38 l0_4 x26_2).f0) ((rd_T38 l0_4 x26_2).f1) ((rd_T38 l0_4 x26_2).f2) ((rd_T38 l0_4 x26_2).f3.f0) ((rd_T38 l0_4 x26_2).f3.f1) ((rd_T38 l0_4 x26_2).f3.f2) true _ ?side1 ?side2 A24.out).mono ?_
           (case side1 => repeat (first | exact (Kd.C_below HR0_4.out HB.out) | (with_reducible refine Kd.C_alloc ?_ _) | (with_reducible refine Kd.C_drewN ?_ _) | (with_reducible refine Kd.C_drew ?_)))
           (case side2 => exact HC0_4.out)
           rintro e w48 ⟨rfl, hb⟩
           refine ⟨_, rfl, ?_⟩
           have n0_ := bb_ BK240 hb; have n1_ := bb_ BK244 hb; have n2_ := Aside0.mk (below_step (bf_ HB) hb); clear BK240; clear BK244; clear HB; have BK240 := n0_; have BK244 := n1_; have HB := n2_; clear n0_ n1_ n2_; (try clear hb); (try clear hb2); (try clear hk); (try clear hi)
           refine hK.out _ _ ⟨bt_ BK240 0, bt_ BK240 1, bt_ BK240 2, bt_ BK240 3, bt_ BK240 4, bt_ BK244 0, bt_ BK244 1, bt_ BK244 2, bt_ BK244 3, bt_ BK244 4, bt_ BK244 5⟩ (fun hHeld => ?_)
           clear hK K
           refine norm_ (a' := ?_) ?_ ?_
           rotate_left
           ·show Act.put _ (some 33) _ = _
            simp only [Act.put, List.setIfInBounds_toArray, List.set_cons_zero, List.set_cons_succ, i64_w, i32_w]
            rfl
           refine pure_s (i := 3) (N := some 34) (bs 20 4) (any_of HT_.out (by kernel_rfl)) (h := ?_)
           refine pure_s (i := 4) (N := some 35) (bs 20 5) (any_of HT_.out (by kernel_rfl)) (h := ?_)
           refine pure_s (i := 5) (N := some 36) (bs 20 6) (any_of HT_.out (by kernel_rfl)) (h := ?_)
           refine pure_s (i := 6) (N := some 37) (bs 20 7) (any_of HT_.out (by kernel_rfl)) (h := ?_)
           refine pure_s (i := 7) (N := some 38) (bs 20 8) (any_of HT_.out (by kernel_rfl)) (h := ?_)
           refine pure_u (i := 8) (N := some 39) (bs 20 9) (any_of HT_.out (by kernel_rfl)) (h := ?_)
           refine pure_u (i := 9) (N := some 40) (bs 20 10) (any_of HT_.out (by kernel_rfl)) (h := ?_)
           refine pure_u (i := 10) (N := some 41) (bs 20 11) (any_of HT_.out (by kernel_rfl)) (h := ?_)
           refine pure_u (i := 11) (N := some 42) (bs 20 12) (any_of HT_.out (by kernel_rfl)) (h := ?_)
           refine pure_u (i := 12) (N := some 43) (bs 20 13) (any_of HT_.out (by kernel_rfl)) (h := ?_)
           refine pure_u (i := 13) (N := some 44) (bs 20 14) (any_of HT_.out (by kernel_rfl)) (h := ?_)
           refine pure_u (i := 14) (N := some 45) (bs 20 15) (any_of HT_.out (by kernel_rfl)) (h := ?_)
           refine pure_u (i := 15) (N := some 46) (bs 20 16) (any_of HT_.out (by kernel_rfl)) (h := ?_)
           refine pure_u (i := 16) (N := some 47) (bs 20 17) (any_of HT_.out (by kernel_rfl)) (h := ?_)
           refine pure_u (i := 17) (N := some 48) (bs 20 18) (any_of HT_.out (by kernel_rfl)) (h := ?_)
           refine pure_s (i := 18) (N := some 49) (bs 20 19) (any_of HT_.out (by kernel_rfl)) (h := ?_)
           refine pure_s (i := 19) (N := some 50) (bs 20 20) (any_of HT_.out (by kernel_rfl)) (h := ?_)
           refine done_ (done_of HT_.out (by kernel_rfl)) ?_
           try go_wp2
           go_roundg k2
           case measure => have := HJ1.out; have := HK2.out; omega
           case rel => exact ⟨(wrap64 (x26_2 + 1)), (by first | rfl | (simp; done) | (simp [*]; done)), H', ⟨by have := HJ1.out; have := HK2.out; omega⟩, ⟨bk_ BK240⟩, ⟨bf_ HB⟩⟩
         ·replace c25 := Bool.eq_false_iff.mpr c25
          subst c25
          have H1 : (some false) = some r := by rw [if_neg (show ¬ (false = true) by decide)] at H; exact H
          clear H
          have H := H1
          clear H1
          obtain rfl := Option.some.inj H
          have p243 : 0 ≤ (x26_2 : Int) := of_decide_eq_true (by first | (with_reducible assumption) | assumption)
          have q243 : x26_2 < (l0_4.length : Int) := of_decide_eq_true (by first | (with_reducible assumption) | assumption)
          obtain ⟨ad243, e243, hx243_0, hx243_1, hx243_2, hx243_3, hx243_4, hx243_5⟩ := at_T38 HR0_4.out x26_2 p243 q243
          cases e243
          replace hx243_0 := (HB.out.cell (World.block_lt_of_cell? w _ hx243_0)).trans hx243_0
          replace hx243_1 := (HB.out.cell (World.block_lt_of_cell? w _ hx243_1)).trans hx243_1
          replace hx243_2 := (HB.out.cell (World.block_lt_of_cell? w _ hx243_2)).trans hx243_2
          replace hx243_3 := (HB.out.cell (World.block_lt_of_cell? w _ hx243_3)).trans hx243_3
          replace hx243_4 := (HB.out.cell (World.block_lt_of_cell? w _ hx243_4)).trans hx243_4
          replace hx243_5 := (HB.out.cell (World.block_lt_of_cell? w _ hx243_5)).trans hx243_5
          replace p243 := eq_true p243
          replace q243 := eq_true q243
          try go_wp2_with (first | ((with_reducible refine gate_dst (N := 4) rfl ?_); (try (refine gate_guard (by rfl) ?_; dsimp only)); refine box_event ?hg (N := 4) ?hd (cs := #[.int .i64 0, .int .i64 0, .bool false, .int .i64 0, .int .i64 0, .int .i64 0]) (t := 38) ?hr ?_; (case hd => rfl); (case hg => rfl); (case hr => first | (go_simp; done) | (go_simp; rfl)); intro gb244 hg w49 hbox hb; have n0_ := bb_ BK240 hb; have n1_ := Aside0.mk (below_step (bf_ HB) hb); have n2_ := Aside0.mk (hbox); have n3_ := gw_ HB hg; have n4_ := gw_ HB hg; have n5_ := nl_ BK240 hg; have n6_ := ng_ BK240 hg; clear BK240; clear HB; have BK240 := n0_; have HB := n1_; have BK244 := n2_; have GW244 := n3_; have GE244 := n4_; have NB240_244 := n5_; have NB244_240 := n6_; clear n0_ n1_ n2_ n3_ n4_ n5_ n6_; clear hb hbox hg; have hnb50 := NB244_240.out; have hnc50 := NB240_244.out; have hcz51_0 := bc_ BK244 0 (.int .i64 0) rfl; have hcz51_1 := bc_ BK244 1 (.int .i64 0) rfl; have hcz51_2 := bc_ BK244 2 (.bool false) rfl; have hcz51_3 := bc_ BK244 3 (.int .i64 0) rfl; have hcz51_4 := bc_ BK244 4 (.int .i64 0) rfl; have hcz51_5 := bc_ BK244 5 (.int .i64 0) rfl; have hfz51_0 := blk_frozen BK244.out 0; have hfz51_1 := blk_frozen BK244.out 1; have hfz51_2 := blk_frozen BK244.out 2; have hfz51_3 := blk_frozen BK244.out 3; have hfz51_4 := blk_frozen BK244.out 4; have hfz51_5 := blk_frozen BK244.out 5))
          have n0_ : Aside0 (((((((w49.setCell ⟨gb244, 0, none⟩ (.int .i64 ((rd_T38 l0_4 x26_2).f0))).setCell ⟨gb244, 1, none⟩ (.int .i64 ((rd_T38 l0_4 x26_2).f1))).setCell ⟨gb244, 2, none⟩ (.bool ((rd_T38 l0_4 x26_2).f2))).setCell ⟨gb244, 3, none⟩ (.int .i64 ((rd_T38 l0_4 x26_2).f3.f0))).setCell ⟨gb244, 4, none⟩ (.int .i64 ((rd_T38 l0_4 x26_2).f3.f1))).setCell ⟨gb244, 5, none⟩ (.int .i64 ((rd_T38 l0_4 x26_2).f3.f2))).heap[gb240]? = some (.cells #[.int .i64 a0_0, .int .i64 a0_1, .int .i64 a0_2, .int .i64 a0_3, .slice (some ad243) l0_4.length c0_4] 32 (0, 0))) := ⟨by (with_reducible repeat (first | refine blk_drewN ?_ _ | refine blk_drew ?_ | refine blk_alloc ?_ _)); refine blk_far ?_ NB240_244.out _; (with_reducible repeat (first | refine blk_drewN ?_ _ | refine blk_drew ?_ | refine blk_alloc ?_ _)); refine blk_far ?_ NB240_244.out _; (with_reducible repeat (first | refine blk_drewN ?_ _ | refine blk_drew ?_ | refine blk_alloc ?_ _)); refine blk_far ?_ NB240_244.out _; (with_reducible repeat (first | refine blk_drewN ?_ _ | refine blk_drew ?_ | refine blk_alloc ?_ _)); refine blk_far ?_ NB240_244.out _; (with_reducible repeat (first | refine blk_drewN ?_ _ | refine blk_drew ?_ | refine blk_alloc ?_ _)); refine blk_far ?_ NB240_244.out _; (with_reducible repeat (first | refine blk_drewN ?_ _ | refine blk_drew ?_ | refine blk_alloc ?_ _)); refine blk_far ?_ NB240_244.out _; exact bk_ BK240⟩
          have n1_ : Aside0 (((((((w49.setCell ⟨gb244, 0, none⟩ (.int .i64 ((rd_T38 l0_4 x26_2).f0))).setCell ⟨gb244, 1, none⟩ (.int .i64 ((rd_T38 l0_4 x26_2).f1))).setCell ⟨gb244, 2, none⟩ (.bool ((rd_T38 l0_4 x26_2).f2))).setCell ⟨gb244, 3, none⟩ (.int .i64 ((rd_T38 l0_4 x26_2).f3.f0))).setCell ⟨gb244, 4, none⟩ (.int .i64 ((rd_T38 l0_4 x26_2).f3.f1))).setCell ⟨gb244, 5, none⟩ (.int .i64 ((rd_T38 l0_4 x26_2).f3.f2))).heap[gb244]? = some (.cells #[.int .i64 ((rd_T38 l0_4 x26_2).f0), .int .i64 ((rd_T38 l0_4 x26_2).f1), .bool ((rd_T38 l0_4 x26_2).f2), .int .i64 ((rd_T38 l0_4 x26_2).f3.f0), .int .i64 ((rd_T38 l0_4 x26_2).f3.f1), .int .i64 ((rd_T38 l0_4 x26_2).f3.f2)] 38 (0, 0))) := ⟨by (with_reducible repeat (first | refine blk_drewN ?_ _ | refine blk_drew ?_ | refine blk_alloc ?_ _)); refine blk_put (cs := #[.int .i64 ((rd_T38 l0_4 x26_2).f0), .int .i64 ((rd_T38 l0_4 x26_2).f1), .bool ((rd_T38 l0_4 x26_2).f2), .int .i64 ((rd_T38 l0_4 x26_2).f3.f0), .int .i64 ((rd_T38 l0_4 x26_2).f3.f1), .int .i64 0]) ?_ 5 _ rfl; (with_reducible repeat (first | refine blk_drewN ?_ _ | refine blk_drew ?_ | refine blk_alloc ?_ _)); refine blk_put (cs := #[.int .i64 ((rd_T38 l0_4 x26_2).f0), .int .i64 ((rd_T38 l0_4 x26_2).f1), .bool ((rd_T38 l0_4 x26_2).f2), .int .i64 ((rd_T38 l0_4 x26_2).f3.f0), .int .i64 0, .int .i64 0]) ?_ 4 _ rfl; (with_reducible repeat (first | refine blk_drewN ?_ _ | refine blk_drew ?_ | refine blk_alloc ?_ _)); refine blk_put (cs := #[.int .i64 ((rd_T38 l0_4 x26_2).f0), .int .i64 ((rd_T38 l0_4 x26_2).f1), .bool ((rd_T38 l0_4 x26_2).f2), .int .i64 0, .int .i64 0, .int .i64 0]) ?_ 3 _ rfl; (with_reducible repeat (first | refine blk_drewN ?_ _ | refine blk_drew ?_ | refine blk_alloc ?_ _)); refine blk_put (cs := #[.int .i64 ((rd_T38 l0_4 x26_2).f0), .int .i64 ((rd_T38 l0_4 x26_2).f1), .bool false, .int .i64 0, .int .i64 0, .int .i64 0]) ?_ 2 _ rfl; (with_reducible repeat (first | refine blk_drewN ?_ _ | refine blk_drew ?_ | refine blk_alloc ?_ _)); refine blk_put (cs := #[.int .i64 ((rd_T38 l0_4 x26_2).f0), .int .i64 0, .bool false, .int .i64 0, .int .i64 0, .int .i64 0]) ?_ 1 _ rfl; (with_reducible repeat (first | refine blk_drewN ?_ _ | refine blk_drew ?_ | refine blk_alloc ?_ _)); refine blk_put (cs := #[.int .i64 0, .int .i64 0, .bool false, .int .i64 0, .int .i64 0, .int .i64 0]) ?_ 0 _ rfl; exact bk_ BK244⟩
          have n2_ : Aside0 (Below w.heap.size w ((((((w49.setCell ⟨gb244, 0, none⟩ (.int .i64 ((rd_T38 l0_4 x26_2).f0))).setCell ⟨gb244, 1, none⟩ (.int .i64 ((rd_T38 l0_4 x26_2).f1))).setCell ⟨gb244, 2, none⟩ (.bool ((rd_T38 l0_4 x26_2).f2))).setCell ⟨gb244, 3, none⟩ (.int .i64 ((rd_T38 l0_4 x26_2).f3.f0))).setCell ⟨gb244, 4, none⟩ (.int .i64 ((rd_T38 l0_4 x26_2).f3.f1))).setCell ⟨gb244, 5, none⟩ (.int .i64 ((rd_T38 l0_4 x26_2).f3.f2)))) := ⟨bf_ HB⟩
          (try clear BK240); (try clear BK244); (try clear HB)
          generalize ((((((w49.setCell ⟨gb244, 0, none⟩ (.int .i64 ((rd_T38 l0_4 x26_2).f0))).setCell ⟨gb244, 1, none⟩ (.int .i64 ((rd_T38 l0_4 x26_2).f1))).setCell ⟨gb244, 2, none⟩ (.bool ((rd_T38 l0_4 x26_2).f2))).setCell ⟨gb244, 3, none⟩ (.int .i64 ((rd_T38 l0_4 x26_2).f3.f0))).setCell ⟨gb244, 4, none⟩ (.int .i64 ((rd_T38 l0_4 x26_2).f3.f1))).setCell ⟨gb244, 5, none⟩ (.int .i64 ((rd_T38 l0_4 x26_2).f3.f2))) = w52 at n0_ n1_ n2_ ⊢
          have BK240 := n0_; have BK244 := n1_; have HB := n2_; clear n0_ n1_ n2_; have n0_ := Aside0.mk (blk_drew BK240.out); have n1_ := Aside0.mk (blk_drew BK244.out); have n2_ := Aside0.mk (below_drew1 HB.out); clear BK240; clear BK244; clear HB; have BK240 := n0_; have BK244 := n1_; have HB := n2_; clear n0_ n1_ n2_
          refine start_ (n := 20) (S := fun w' => w'.cell? ⟨gb240, 0, none⟩ = some (.int .i64 a0_0) ∧ w'.cell? ⟨gb240, 1, none⟩ = some (.int .i64 a0_1) ∧ w'.cell? ⟨gb240, 2, none⟩ = some (.int .i64 a0_2) ∧ w'.cell? ⟨gb240, 3, none⟩ = some (.int .i64 a0_3) ∧ w'.cell? ⟨gb240, 4, none⟩ = some (.slice (some ad243) l0_4.length c0_4) ∧ w'.cell? ⟨gb244, 0, none⟩ = some (.int .i64 ((rd_T38 l0_4 x26_2).f0)) ∧ w'.cell? ⟨gb244, 1, none⟩ = some (.int .i64 ((rd_T38 l0_4 x26_2).f1)) ∧ w'.cell? ⟨gb244, 2, none⟩ = some (.bool ((rd_T38 l0_4 x26_2).f2)) ∧ w'.cell? ⟨gb244, 3, none⟩ = some (.int .i64 ((rd_T38 l0_4 x26_2).f3.f0)) ∧ w'.cell? ⟨gb244, 4, none⟩ = some (.int .i64 ((rd_T38 l0_4 x26_2).f3.f1)) ∧ w'.cell? ⟨gb244, 5, none⟩ = some (.int .i64 ((rd_T38 l0_4 x26_2).f3.f2))) (ds := []) (bs 20 0) (by kernel_rfl) rfl rfl ⟨bt_ BK240 0, bt_ BK240 1, bt_ BK240 2, bt_ BK240 3, bt_ BK240 4, bt_ BK244 0, bt_ BK244 1, bt_ BK244 2, bt_ BK244 3, bt_ BK244 4, bt_ BK244 5⟩ (fun hHeld => ?_); refine with_tabW impl_FairOk.tab6 impl_FairOk.bits6 (fun HT_ HW_ => ?_)
          generalize w52.drew = w53 at BK240 BK244 HB hHeld ⊢
          refine take_ (i := 0) (N := some 31) (v := ?_) (a' := ?_) (bs 20 1) rfl rfl (take_ofW HT_.out HW_.out (by kernel_rfl)) (fun _ _ _ h => h) (Or.inl ⟨by rfl, ?_⟩) hHeld ?_ ?_
          rotate_left
          ·rintro w' ⟨s0, s1, s2, s3, s4, s5, s6, s7, s8, s9, s10⟩
           go_simp
           with_reducible rfl
          rotate_left
          ·simp only [Act.put, List.setIfInBounds_toArray, List.set_cons_zero, List.set_cons_succ, i64_w, i32_w]
           rfl
          refine take_ (i := 1) (N := some 32) (v := ?_) (a' := ?_) (bs 20 2) rfl rfl (take_ofW HT_.out HW_.out (by kernel_rfl)) (fun _ _ _ h => h) (Or.inl ⟨by rfl, ?_⟩) hHeld ?_ ?_
          rotate_left
          ·rintro w' ⟨s0, s1, s2, s3, s4, s5, s6, s7, s8, s9, s10⟩
           go_simp
           with_reducible rfl
          rotate_left
          ·simp only [Act.put, List.setIfInBounds_toArray, List.set_cons_zero, List.set_cons_succ, i64_w, i32_w]
           rfl
          refine one_ (i := 2) (N := some 33) (bs 20 3) rfl rfl (one_of HT_.out (by kernel_rfl)) (by decide) (fun K hK => ?_)
          refine goes_ Try.func53 (by kernel_rfl) rfl #[.agg #[.int .i64 a0_0, .int .i64 a0_1, .int .i64 a0_2, .int .i64 a0_3, .slice (some ad243) l0_4.length c0_4], .agg #[.int .i64 ((rd_T38 l0_4 x26_2).f0), .int .i64 ((rd_T38 l0_4 x26_2).f1), .bool ((rd_T38 l0_4 x26_2).f2), .int .i64 ((rd_T38 l0_4 x26_2).f3.f0), .int .i64 ((rd_T38 l0_4 x26_2).f3.f1), .int .i64 ((rd_T38 l0_4 x26_2).f3.f2)]] (by rfl) rfl rfl mt_ ?_
          with_reducible refine (impl_Fair_kidOk.calls a0_0 a0_1 a0_2 a0_3 _ _ l0_4 ((rd_T38 l0_4 x26_2).f0) ((rd_T38 l0_4 x26_2).f1) ((rd_T38 l0_4 x26_2).f2) ((rd_T38 l0_4 x26_2).f3.f0) ((rd_T38 l0_4 x26_2).f3.f1) ((rd_T38 l0_4 x26_2).f3.f2) false _ ?side1 ?side2 A24.out).mono ?_
          (case side1 => repeat (first | exact (Kd.C_below HR0_4.out HB.out) | (with_reducible refine Kd.C_alloc ?_ _) | (with_reducible refine Kd.C_drewN ?_ _) | (with_reducible refine Kd.C_drew ?_)))
          (case side2 => exact HC0_4.out)
          rintro e w54 ⟨rfl, hb⟩
          refine ⟨_, rfl, ?_⟩
          have n0_ := bb_ BK240 hb; have n1_ := bb_ BK244 hb; have n2_ := Aside0.mk (below_step (bf_ HB) hb); clear BK240; clear BK244; clear HB; have BK240 := n0_; have BK244 := n1_; have HB := n2_; clear n0_ n1_ n2_; (try clear hb); (try clear hb2); (try clear hk); (try clear hi)
          refine hK.out _ _ ⟨bt_ BK240 0, bt_ BK240 1, bt_ BK240 2, bt_ BK240 3, bt_ BK240 4, bt_ BK244 0, bt_ BK244 1, bt_ BK244 2, bt_ BK244 3, bt_ BK244 4, bt_ BK244 5⟩ (fun hHeld => ?_)
          clear hK K
          refine norm_ (a' := ?_) ?_ ?_
          rotate_left
          ·show Act.put _ (some 33) _ = _
           simp only [Act.put, List.setIfInBounds_toArray, List.set_cons_zero, List.set_cons_succ, i64_w, i32_w]
           rfl
          refine pure_s (i := 3) (N := some 34) (bs 20 4) (any_of HT_.out (by kernel_rfl)) (h := ?_)
          refine pure_s (i := 4) (N := some 35) (bs 20 5) (any_of HT_.out (by kernel_rfl)) (h := ?_)
          refine pure_u (i := 5) (N := some 36) (bs 20 6) (any_of HT_.out (by kernel_rfl)) (h := ?_)
          refine pure_u (i := 6) (N := some 37) (bs 20 7) (any_of HT_.out (by kernel_rfl)) (h := ?_)
          refine pure_u (i := 7) (N := some 38) (bs 20 8) (any_of HT_.out (by kernel_rfl)) (h := ?_)
          refine pure_u (i := 8) (N := some 39) (bs 20 9) (any_of HT_.out (by kernel_rfl)) (h := ?_)
          refine pure_u (i := 9) (N := some 40) (bs 20 10) (any_of HT_.out (by kernel_rfl)) (h := ?_)
          refine pure_u (i := 10) (N := some 41) (bs 20 11) (any_of HT_.out (by kernel_rfl)) (h := ?_)
          refine pure_u (i := 11) (N := some 42) (bs 20 12) (any_of HT_.out (by kernel_rfl)) (h := ?_)
          refine pure_u (i := 12) (N := some 43) (bs 20 13) (any_of HT_.out (by kernel_rfl)) (h := ?_)
          refine pure_u (i := 13) (N := some 44) (bs 20 14) (any_of HT_.out (by kernel_rfl)) (h := ?_)
          refine pure_u (i := 14) (N := some 45) (bs 20 15) (any_of HT_.out (by kernel_rfl)) (h := ?_)
          refine pure_u (i := 15) (N := some 46) (bs 20 16) (any_of HT_.out (by kernel_rfl)) (h := ?_)
          refine pure_u (i := 16) (N := some 47) (bs 20 17) (any_of HT_.out (by kernel_rfl)) (h := ?_)
          refine pure_u (i := 17) (N := some 48) (bs 20 18) (any_of HT_.out (by kernel_rfl)) (h := ?_)
          refine pure_u (i := 18) (N := some 49) (bs 20 19) (any_of HT_.out (by kernel_rfl)) (h := ?_)
          refine pure_s (i := 19) (N := some 50) (bs 20 20) (any_of HT_.out (by kernel_rfl)) (h := ?_)
          refine done_ (done_of HT_.out (by kernel_rfl)) ?_
          try go_wp2
          go_ret
          exact ⟨by first | rfl | (simp [errW_none, errW_some] <;> rfl) | (simp [*, errW_none, errW_some] <;> rfl), bf_ HB⟩
        ·rw [if_neg c23] at H
         exact absurd H (by simp)
       ·rw [if_neg c22] at H
        exact absurd H (by simp)
      ·rw [if_neg c21] at H
       have c21b0 : decide (x26_2 < (l0_4.length : Int)) = false := decide_eq_false c21
       clear c21
       obtain rfl := Option.some.inj H
       go_wp2
       go_ret
       exact ⟨by first | rfl | (simp [errW_none, errW_some] <;> rfl) | (simp [*, errW_none, errW_some] <;> rfl), bf_ HB⟩

-- NOT PRINTED: function 93 (impl_Kid_93)

/-! ### impl_Fair_at_1: function 94 -/
def impl_Fair_at_1.f (a0_0 : Int) (a0_1 : Int) (a0_2 : Bool) (a0_3 : Int) (a0_4 : Int) (a0_5 : Int) (a1 : Int) : Option (Bool) := some (a0_0 == a1)
set_option maxHeartbeats 8000000 in
set_option maxRecDepth 100000 in
theorem impl_Fair_at_1.calls (a0_0 : Int) (a0_1 : Int) (a0_2 : Bool) (a0_3 : Int) (a0_4 : Int) (a0_5 : Int) (a1 : Int) (r : Bool) (w : World) (gb247 : Nat) (hb_gb247 : w.heap[gb247]? = some (.cells #[.int .i64 a1] 3 (0, 0))) (h : impl_Fair_at_1.f a0_0 a0_1 a0_2 a0_3 a0_4 a0_5 a1 = some r) :
  Calls Try.prog 94 #[.agg #[.int .i64 a0_0, .int .i64 a0_1, .bool a0_2, .int .i64 a0_3, .int .i64 a0_4, .int .i64 a0_5], .pointer (some ⟨gb247, 0, none⟩)] w fun e w' => e = .returned (.bool r) ∧ Below w.heap.size w w' := by
 have hu38 := Try.underlying38; have HB := Aside0.mk (Below.refl w.heap.size w)
 have H : (some (a0_0 == a1)) = some r := h
 clear h
 obtain rfl := Option.some.inj H
 have BK247 := Aside0.mk hb_gb247
 go_enter Try.func94, Try.ntmps94
 go_wp2_with (first | ((with_reducible refine gate_dst (N := 2) rfl ?_); refine box_event ?hg (N := 2) ?hd (cs := #[.int .i64 a0_0, .int .i64 a0_1, .bool a0_2, .int .i64 a0_3, .int .i64 a0_4, .int .i64 a0_5]) (t := 38) ?hr ?_; (case hd => rfl); (case hg => rfl); (case hr => first | (go_simp; done) | (go_simp; rfl)); intro gb248 hg w4 hbox hb; have n0_ := bb_ BK247 hb; have n1_ := Aside0.mk (below_step (bf_ HB) hb); have n2_ := Aside0.mk (hbox); have n3_ := gw_ HB hg; have n4_ := gw_ HB hg; have n5_ := nl_ BK247 hg; have n6_ := ng_ BK247 hg; clear BK247; clear HB; have BK247 := n0_; have HB := n1_; have BK248 := n2_; have GW248 := n3_; have GE248 := n4_; have NB247_248 := n5_; have NB248_247 := n6_; clear n0_ n1_ n2_ n3_ n4_ n5_ n6_; clear hb hbox hg; have hnb5 := NB248_247.out; have hnc5 := NB247_248.out; have hcz6_0 := bc_ BK248 0 (.int .i64 a0_0) rfl; have hcz6_1 := bc_ BK248 1 (.int .i64 a0_1) rfl; have hcz6_2 := bc_ BK248 2 (.bool a0_2) rfl; have hcz6_3 := bc_ BK248 3 (.int .i64 a0_3) rfl; have hcz6_4 := bc_ BK248 4 (.int .i64 a0_4) rfl; have hcz6_5 := bc_ BK248 5 (.int .i64 a0_5) rfl; have hfz6_0 := blk_frozen BK248.out 0; have hfz6_1 := blk_frozen BK248.out 1; have hfz6_2 := blk_frozen BK248.out 2; have hfz6_3 := blk_frozen BK248.out 3; have hfz6_4 := blk_frozen BK248.out 4; have hfz6_5 := blk_frozen BK248.out 5; have hcz7_0 := bc_ BK247 0 (.int .i64 a1) rfl; have hfz7_0 := blk_frozen BK247.out 0))
 go_ret
 exact ⟨by first | rfl | (simp [errW_none, errW_some] <;> rfl) | (simp [*, errW_none, errW_some] <;> rfl), bf_ HB⟩

/-! ### impl_Fair_at: function 58 (wip/hand) -/
theorem impl_Fair_at.pred (id : Int) (B : Nat) (w W : World) (hB : B < w.heap.size) (hc : w.cell? ⟨B, 0, none⟩ = some (.int .i64 id)) (hb : Below w.heap.size w W) (x : S38) :
    Calls Try.prog 94 #[.agg #[.int .i64 x.f0, .int .i64 x.f1, .bool x.f2, .int .i64 x.f3.f0, .int .i64 x.f3.f1, .int .i64 x.f3.f2], .pointer (some ⟨B, 0, none⟩)] W fun e w' => e = .returned (.bool (x.f0 == id)) ∧ Below w.heap.size w w' := by
  have hc' : W.cell? ⟨B, 0, none⟩ = some (.int .i64 id) := (hb.cell (p := ⟨B, 0, none⟩) hB).trans hc
  have hBW : B < W.heap.size := Nat.lt_of_lt_of_le hB hb.size
  have hne : B ≠ W.heap.size := by omega
  go_enter Try.func94, Try.ntmps94
  go_wp2
  all_goals (go_ret; exact ⟨by simp_all, hb.alloc hb.size _⟩)
theorem impl_Fair_at.idx_at {l0 : List S38} {i : Int} (h0 : 0 ≤ i) (h1 : i < (l0.length : Int)) : l0[i.toNat]? = some (rd_T38 l0 i) := by
  unfold rd_T38
  rw [List.getD_eq_getElem?_getD, List.getElem?_eq_getElem (by omega)]; rfl
set_option maxHeartbeats 2000000 in
theorem impl_Fair_at.idx_calls (p : S38 → Bool) (lb : Array Value) (A0 : Option Addr) (c0 : Nat) (l0 : List S38) (w : World) (hr0 : Kd.C k38 w A0 l0.length l0) (hc0 : l0.length ≤ c0) (hbig : l0.length ≤ 9223372036854775806)
    (hp : ∀ (W : World) (x : S38), Below w.heap.size w W → Calls Try.prog 94 (#[.agg #[.int .i64 x.f0, .int .i64 x.f1, .bool x.f2, .int .i64 x.f3.f0, .int .i64 x.f3.f1, .int .i64 x.f3.f2]] ++ lb) W fun e w' => e = .returned (.bool (p x)) ∧ Below w.heap.size w w') :
    Calls Try.prog 93 #[.slice A0 l0.length c0, .func (.func 94) #[] lb] w fun e w' => e = .returned (.int .i64 (idxP p l0)) ∧ Below w.heap.size w w' := by
  have hu38 := Try.underlying38
  have HR0 := Aside0.mk hr0
  have HC0 := Aside0.mk hc0
  have HN := Aside0.mk hbig
  have HP := Aside0.mk hp
  clear hr0 hc0 hbig hp
  go_enter Try.func93, Try.ntmps93
  go_wp2
  go_loopg [5, 8] l0.length (fun gg _ s8 wr => ∃ i : Int, s8 = .int .i64 i ∧ Aside0 (0 ≤ i ∧ i ≤ (l0.length : Int) ∧ l0.length - i.toNat ≤ gg) ∧ Aside0 (Below w.heap.size w wr) ∧ Aside0 (∀ (j : Nat) y, (j : Int) < i → l0[j]? = some y → p y = false))
  case atStart => exact ⟨0, rfl, ⟨by omega, by omega, by omega⟩, ⟨Below.refl _ w⟩, ⟨fun j y hj => by omega⟩⟩
  case round =>
    obtain ⟨i, rfl, HI, HB, A⟩ := hrel
    by_cases c6 : i < (l0.length : Int)
    · have c6b0 : decide (i < (l0.length : Int)) = true := decide_eq_true c6
      have p115 : 0 ≤ i := HI.out.1
      obtain ⟨ad115, e115, hx115_0, hx115_1, hx115_2, hx115_3, hx115_4, hx115_5⟩ := at_T38 HR0.out i p115 c6
      have HX := Aside0.mk (impl_Fair_at.idx_at p115 c6)
      have q115 := c6
      clear c6
      cases e115
      replace hx115_0 := (HB.out.cell (World.block_lt_of_cell? w _ hx115_0)).trans hx115_0
      replace hx115_1 := (HB.out.cell (World.block_lt_of_cell? w _ hx115_1)).trans hx115_1
      replace hx115_2 := (HB.out.cell (World.block_lt_of_cell? w _ hx115_2)).trans hx115_2
      replace hx115_3 := (HB.out.cell (World.block_lt_of_cell? w _ hx115_3)).trans hx115_3
      replace hx115_4 := (HB.out.cell (World.block_lt_of_cell? w _ hx115_4)).trans hx115_4
      replace hx115_5 := (HB.out.cell (World.block_lt_of_cell? w _ hx115_5)).trans hx115_5
      have HQ := Aside0.mk q115
      replace p115 := eq_true p115
      replace q115 := eq_true q115
      have hcall := HP.out wr (rd_T38 l0 i) HB.out
      generalize rd_T38 l0 i = x at *
      cases hq : p x with
      | true =>
        rw [hq] at hcall
        have HQ1 := Aside0.mk hq
        clear hq
        go_wp2_with (go_at_call 94; refine hcall.mono ?_; rintro e w' ⟨rfl, hb'⟩)
        go_ret
        refine ⟨?_, hb'⟩
        rw [idxP_hit l0 i.toNat x HX.out HQ1.out (fun j y hj => A.out j y (by omega)), Int.toNat_of_nonneg HI.out.1]
        rfl
      | false =>
        rw [hq] at hcall
        have HQ1 := Aside0.mk hq
        clear hq
        go_wp2_with (go_at_call 94; refine hcall.mono ?_; rintro e w' ⟨rfl, hb'⟩)
        go_roundg (l0.length - (i.toNat + 1))
        case measure => have := HI.out; have := HQ.out; omega
        case rel =>
          have h1 := HI.out
          have h2 := HQ.out
          have h3 := HN.out
          refine ⟨i + 1, by rw [show wrap64 (i + 1) = i + 1 by unfold wrap64; omega], ⟨by omega, by omega, by omega⟩, ⟨hb'⟩, ⟨fun j y hj hy => ?_⟩⟩
          by_cases e : j = i.toNat
          · subst e
            rw [HX.out] at hy
            cases hy
            exact HQ1.out
          · exact A.out j y (by omega) hy
    · have c6b0 : decide (i < (l0.length : Int)) = false := decide_eq_false c6
      have HQ := Aside0.mk c6
      clear c6
      go_wp2
      go_ret
      refine ⟨?_, HB.out⟩
      rw [idxP_miss l0 (fun j y hy => by
        have := HQ.out
        by_cases hj : j < l0.length
        · exact A.out j y (by omega) hy
        · rw [List.getElem?_eq_none (by omega)] at hy; cases hy)]
      rfl
def impl_Fair_at.f (a0_0 : Int) (a0_1 : Int) (a0_2 : Int) (a0_3 : Int) (l0_4 : List (S38)) (a1 : Int) : Option (Int) := if l0_4.length ≤ 9223372036854775806 then some (idxP (fun x => x.f0 == a1) l0_4) else none
set_option maxHeartbeats 8000000 in
set_option maxRecDepth 100000 in
theorem impl_Fair_at.calls (a0_0 : Int) (a0_1 : Int) (a0_2 : Int) (a0_3 : Int) (A0_4 : Option Addr) (c0_4 : Nat) (l0_4 : List (S38)) (a1 : Int) (r : Int) (w : World) (hr0_4 : Kd.C k38 w A0_4 l0_4.length l0_4) (hc0_4 : l0_4.length ≤ c0_4) (h : impl_Fair_at.f a0_0 a0_1 a0_2 a0_3 l0_4 a1 = some r) :
  Calls Try.prog 58 #[.agg #[.int .i64 a0_0, .int .i64 a0_1, .int .i64 a0_2, .int .i64 a0_3, .slice A0_4 l0_4.length c0_4], .int .i64 a1] w fun e w' => e = .returned (.int .i64 r) ∧ Below w.heap.size w w' := by
  have hu32 := Try.underlying32
  unfold impl_Fair_at.f at h
  split at h
  case isFalse => cases h
  rename_i hbig
  obtain rfl := Option.some.inj h
  have HC := fun (W : World) (B : Nat) (hw : Below w.heap.size w W) (hB : B < W.heap.size) (hc : W.cell? ⟨B, 0, none⟩ = some (.int .i64 a1)) =>
    (impl_Fair_at.idx_calls (fun x => x.f0 == a1) #[.pointer (some ⟨B, 0, none⟩)] A0_4 c0_4 l0_4 W (Kd.C_below hr0_4 hw) hc0_4 hbig (fun W' x hb => impl_Fair_at.pred a1 B W W' hB hc hb x)).mono (fun e w' (hh : _ ∧ _) => (⟨hh.1, hw.trans (hh.2.mono hw.size)⟩ : _ ∧ Below w.heap.size w w'))
  have HC' := Aside0.mk HC
  clear HC hr0_4 hc0_4 hbig h
  have HB := Aside0.mk (Below.refl w.heap.size w)
  go_enter Try.func58, Try.ntmps58
  go_wp2_with (go_at_call 93; refine (HC'.out _ _ ?hbe ?hlt ?hce).mono ?_; (case hbe => repeat (first | (with_reducible first | exact HB.out | apply below_alloc | apply pw_below_drewN | apply below_drew1) | exact HB.out)); (case hlt => simp); (case hce => simp); rintro e w' ⟨rfl, hb'⟩)
  go_ret
  exact ⟨rfl, hb'⟩

/-! ### impl_Kid_95: function 95 -/
def impl_Kid_95.f (l0 : List (S38)) : Option ((List (S38))) := (some (([] : List (S38)) : List (S38))).bind fun y249 => (if y249.length + l0.length < 2932031007402 then (some (y249 ++ l0)) else (none))
set_option maxHeartbeats 8000000 in
set_option maxRecDepth 100000 in
theorem impl_Kid_95.calls_some (A0 : Addr) (c0 : Nat) (l0 : List (S38)) (r : List (S38)) (w : World) (hr0 : Kd.C k38 w (some A0) l0.length l0) (hc0 : l0.length ≤ c0) (h : impl_Kid_95.f l0 = some r) :
  Calls Try.prog 95 #[.slice (some A0) l0.length c0] w fun e w' => ∃ v0_ : Value, e = .returned (v0_) ∧ Kd.R k38 38 w' w.heap.size (fun _ => True) v0_ r ∧ Below w.heap.size w w' := by
 have hnil0_ := fun (W : World) (n c : Nat) => Lib.run_eql_slice_nil (P := Try.prog) W 30 38 (some A0) n c 0 0 Try.underlying30
 have HR0 := Aside0.mk hr0
 have HC0 := Aside0.mk hc0
 clear hr0 hc0; have HB := Aside0.mk (Below.refl w.heap.size w)
 have H : ((some (([] : List (S38)) : List (S38))).bind fun y249 => (if y249.length + l0.length < 2932031007402 then (some (y249 ++ l0)) else (none))) = some r := h
 clear h
 obtain ⟨y249, hy249⟩ : ∃ y_ : List (S38), y_ = (([] : List (S38))) := ⟨_, rfl⟩
 replace H : (if y249.length + l0.length < 2932031007402 then (some (y249 ++ l0)) else (none)) = some r := by first | (rw [hy249]; with_reducible exact H) | (have H2_ := (Option.bind_some _ _).symm.trans H; rw [hy249]; with_reducible exact H2_) | (have H2_ := (Option.bind_some _ _).symm.trans H; with_reducible exact H2_) | with_reducible exact H | (rw [hy249]; exact H) | exact H
 have Ny249 := Aside0.mk hy249
 clear hy249
 by_cases c2 : y249.length + l0.length < 2932031007402
 ·rw [if_pos c2] at H
  have LMc2 := Aside0.mk c2
  clear c2
  obtain ⟨y252, hy252⟩ : ∃ y_ : List (S38), y_ = (y249 ++ l0) := ⟨_, rfl⟩
  replace H : (some y252) = some r := by first | (rw [hy252]; with_reducible exact H) | (have H2_ := (Option.bind_some _ _).symm.trans H; rw [hy252]; with_reducible exact H2_) | (have H2_ := (Option.bind_some _ _).symm.trans H; with_reducible exact H2_) | with_reducible exact H | (rw [hy252]; exact H) | exact H
  have Ny252 := Aside0.mk hy252
  clear hy252
  obtain rfl := Option.some.inj H
  go_enter Try.func95, Try.ntmps95
  go_wp2_with (first | ((with_reducible refine gate_dst (N := 5) rfl ?_); refine Kd.R_lit k38 _ 38 ?hg (N := 5) ?hd (xs := ([] : List (S38))) (inner := []) (ok := fun _ => True) (okp := fun _ => True) ?hr ?hp (fun _ hk => by first | exact hk | grind) trivial (Below.refl _ _) (Nat.le_refl _) (by simp) ?_; (case hd => rfl); (case hg => rfl); (case hr => first | (go_simp; done) | (go_simp; rfl)); (case hp => exact (Reps.none _ _)); intro v250 w3 ho4 hb hg_ hnew_; clear hg_ hnew_; (first | rw [← Ny249.out] at ho4 | (simp only [Int.reduceToNat] at ho4; rw [← Ny249.out] at ho4)); have n0_ := Aside0.mk (Kd.R_lower ho4 (below_size (be_ HB))); have n1_ := Aside0.mk (below_step (be_ HB) hb); clear HB; have HO251 := n0_; have HB := n1_; clear n0_ n1_; clear hb ho4) | ((with_reducible refine gate_builtin (b := .append) (xs := #[.tmp 5, .tmp 6]) rfl ?_); at_builtin; refine Kd.R_append_rows k38 (w0 := w) w.heap.size rfl (.tmp 5) (.tmp 6) 30 38 (.agg #[(.int .i64 0), (.int .i64 0), (.bool false), (.int .i64 0), (.int .i64 0), (.int .i64 0)]) 48 rfl Try.underlying30 info38 rfl (by decide) (by omega) v250 y249 l0 _ _ _ (fun _ => True) (fun _ => False) rfl rfl ?aO ?aR (fun _ _ h => h) (fun _ h => h.elim) ?aF ?aB ?aS ?aL ?_; (case aR => repeat (first | exact (Kd.C_below HR0.out HB.out) | (with_reducible refine Kd.C_alloc ?_ _) | (with_reducible refine Kd.C_drewN ?_ _) | (with_reducible refine Kd.C_drew ?_))); (case aB => exact (be_ HB)); (case aF => exact (fun _ _ => trivial)); (case aO => exact (kr_ HO251)); (case aS => exact (below_size (be_ HB))); (case aL => have := LMc2.out; omega); intro v253 w5 ho hb hg hat; rw [← Ny252.out] at ho; have n0_ := Aside0.mk (hb); have n1_ := Aside0.mk (ho); clear HB; clear HO251; have HB := n0_; have HO254 := n1_; clear n0_ n1_; clear ho hb hg hat))
  go_ret
  exact ⟨_, by first | rfl | (simp [errW_none, errW_some] <;> rfl) | (simp [*, errW_none, errW_some] <;> rfl), by (with_reducible repeat (first | apply Kd.R_alloc | apply Kd.R_drewN | apply Kd.R_drew)); exact HO254.out, be_ HB⟩
 ·rw [if_neg c2] at H
  exact absurd H (by simp)
set_option maxHeartbeats 8000000 in
set_option maxRecDepth 100000 in
theorem impl_Kid_95.calls (A0 : Option Addr) (c0 : Nat) (l0 : List (S38)) (r : List (S38)) (w : World) (hr0 : Kd.C k38 w A0 l0.length l0) (hc0 : l0.length ≤ c0) (h : impl_Kid_95.f l0 = some r) :
  Calls Try.prog 95 #[.slice A0 l0.length c0] w fun e w' => ∃ v0_ : Value, e = .returned (v0_) ∧ Kd.R k38 38 w' w.heap.size (fun _ => True) v0_ r ∧ Below w.heap.size w w' := by
  cases A0 with
  | some a_ => exact impl_Kid_95.calls_some a_ c0 l0 r w hr0 hc0 h
  | none =>
    obtain rfl : l0 = [] := by
      rcases l0 with _ | ⟨x_, t_⟩
      · rfl
      · obtain ⟨ad_, h0_, _⟩ := hr0.2.2 (by simp)
        cases h0_
    obtain rfl : r = [] := by simpa [impl_Kid_95.f] using h.symm
    have hnil0_ := fun (W : World) (n c : Nat) => Lib.run_eql_slice_nil (P := Try.prog) W 30 38 none n c 0 0 Try.underlying30
    clear hr0 hc0 h
    go_enter Try.func95, Try.ntmps95
    go_wp2
    go_ret
    exact ⟨_, rfl, Kd.R_nil _ _ _ _ _, Below.refl _ _⟩

/-! ### impl_copyFair: function 62 -/
def impl_copyFair.f (a0_0 : Int) (a0_1 : Int) (a0_2 : Int) (a0_3 : Int) (l0_4 : List (S38)) : Option (Int × Int × Int × Int × (List (S38))) := (impl_Kid_95.f l0_4).bind fun t257 => (some (a0_0, a0_1, a0_2, a0_3, t257))
def impl_copyFair.T1 : Bool × List (List Nat × List Nat) := (true, [([], []), ([0], [0]), ([], []), ([2], [2]), ([], []), ([4], [4]), ([5], [5]), ([1, 3, 6], [1, 3, 6]), ([7, 6, 0, 1, 2, 3, 4, 5, 6, 7], [7])])
def impl_copyFair.B1 : List Nat := [0, 1, 0, 4, 0, 16, 48, 127, 255]
theorem impl_copyFair.tab1 : rtab .any (opsOf Try.f62 1) = impl_copyFair.T1 := by kernel_rfl
theorem impl_copyFair.bits1 : waitsOk impl_copyFair.T1.2 impl_copyFair.B1 = true := by kernel_rfl
set_option maxHeartbeats 8000000 in
set_option maxRecDepth 100000 in
theorem impl_copyFair.calls (a0_0 : Int) (a0_1 : Int) (a0_2 : Int) (a0_3 : Int) (A0_4 : Option Addr) (c0_4 : Nat) (l0_4 : List (S38)) (r1 : Int) (r2 : Int) (r3 : Int) (r4 : Int) (r5 : List (S38)) (w : World) (hr0_4 : Kd.C k38 w A0_4 l0_4.length l0_4) (hc0_4 : l0_4.length ≤ c0_4) (h : impl_copyFair.f a0_0 a0_1 a0_2 a0_3 l0_4 = some (r1, r2, r3, r4, r5)) :
  Calls Try.prog 62 #[.agg #[.int .i64 a0_0, .int .i64 a0_1, .int .i64 a0_2, .int .i64 a0_3, .slice A0_4 l0_4.length c0_4]] w fun e w' => ∃ v4_ : Value, e = .returned (.agg #[.int .i64 r1, .int .i64 r2, .int .i64 r3, .int .i64 r4, v4_]) ∧ Kd.R k38 38 w' w.heap.size (fun _ => True) v4_ r5 ∧ Below w.heap.size w w' := by
 have hu32 := Try.underlying32; have hu29 := Try.underlying29
 have HR0_4 := Aside0.mk hr0_4
 have HC0_4 := Aside0.mk hc0_4
 clear hr0_4 hc0_4; have HB := Aside0.mk (Below.refl w.heap.size w)
 have H : ((impl_Kid_95.f l0_4).bind fun t257 => (some (a0_0, a0_1, a0_2, a0_3, t257))) = some (r1, r2, r3, r4, r5) := h
 clear h
 replace H := Option.bind_eq_some_iff.mp H
 obtain ⟨t257, A20, H⟩ := H
 replace H : (some (a0_0, a0_1, a0_2, a0_3, t257)) = some (r1, r2, r3, r4, r5) := H
 have A2 := Aside0.mk A20
 clear A20
 simp only [Option.some.injEq, Prod.mk.injEq] at H
 obtain ⟨rfl, rfl, rfl, rfl, rfl⟩ := H
 go_enter Try.func62, Try.ntmps62
 try go_wp2_with (first | ((with_reducible refine gate_dst (N := 1) rfl ?_); refine box_event ?hg (N := 1) ?hd (cs := #[.int .i64 a0_0, .int .i64 a0_1, .int .i64 a0_2, .int .i64 a0_3, .slice A0_4 l0_4.length c0_4]) (t := 32) ?hr ?_; (case hd => rfl); (case hg => rfl); (case hr => first | (go_simp; done) | (go_simp; rfl)); intro gb255 hg w3 hbox hb; have n0_ := Aside0.mk (below_step (be_ HB) hb); have n1_ := Aside0.mk (hbox); have n2_ := gw_ HB hg; have n3_ := gw_ HB hg; clear HB; have HB := n0_; have BK255 := n1_; have GW255 := n2_; have GE255 := n3_; clear n0_ n1_ n2_ n3_; clear hb hbox hg) | ((with_reducible refine gate_dst (N := 2) rfl ?_); refine box_event ?hg (N := 2) ?hd (cs := #[.int .i64 0, .int .i64 0, .int .i64 0, .int .i64 0, .slice none 0 0]) (t := 32) ?hr ?_; (case hd => rfl); (case hg => rfl); (case hr => first | (go_simp; done) | (go_simp; rfl)); intro gb256 hg w4 hbox hb; have n0_ := bb_ BK255 hb; have n1_ := Aside0.mk (below_step (bf_ HB) hb); have n2_ := Aside0.mk (hbox); have n3_ := gw_ HB hg; have n4_ := gw_ HB hg; have n5_ := nl_ BK255 hg; have n6_ := ng_ BK255 hg; clear BK255; clear HB; have BK255 := n0_; have HB := n1_; have BK256 := n2_; have GW256 := n3_; have GE256 := n4_; have NB255_256 := n5_; have NB256_255 := n6_; clear n0_ n1_ n2_ n3_ n4_ n5_ n6_; clear hb hbox hg))
 have n0_ := Aside0.mk (blk_drew BK255.out); have n1_ := Aside0.mk (blk_drew BK256.out); have n2_ := Aside0.mk (below_drew1 HB.out); clear BK255; clear BK256; clear HB; have BK255 := n0_; have BK256 := n1_; have HB := n2_; clear n0_ n1_ n2_
 refine start_ (n := 9) (S := fun w' => w'.cell? ⟨gb255, 0, none⟩ = some (.int .i64 a0_0) ∧ w'.cell? ⟨gb255, 1, none⟩ = some (.int .i64 a0_1) ∧ w'.cell? ⟨gb255, 2, none⟩ = some (.int .i64 a0_2) ∧ w'.cell? ⟨gb255, 3, none⟩ = some (.int .i64 a0_3) ∧ w'.cell? ⟨gb255, 4, none⟩ = some (.slice A0_4 l0_4.length c0_4)) (ds := []) (bs 9 0) (by kernel_rfl) rfl rfl ⟨bt_ BK255 0, bt_ BK255 1, bt_ BK255 2, bt_ BK255 3, bt_ BK255 4⟩ (fun hHeld => ?_); refine with_tabW impl_copyFair.tab1 impl_copyFair.bits1 (fun HT_ HW_ => ?_)
 generalize w4.drew = w5 at BK255 BK256 HB hHeld ⊢
 refine pure_s (i := 0) (N := some 3) (bs 9 1) (any_of HT_.out (by kernel_rfl)) (h := ?_)
 refine pure_s (i := 2) (N := some 5) #[oT,oF,oT,oF,oF,oF,oF,oF,oF] (any_of HT_.out (by kernel_rfl)) (h := ?_)
 refine pure_s (i := 4) (N := some 7) #[oT,oF,oT,oF,oT,oF,oF,oF,oF] (any_of HT_.out (by kernel_rfl)) (h := ?_)
 refine take_ (i := 1) (N := some 4) (v := ?_) (a' := ?_) #[oT,oT,oT,oF,oT,oF,oF,oF,oF] rfl rfl (take_ofW HT_.out HW_.out (by kernel_rfl)) (fun _ _ _ h => h) (Or.inl ⟨by rfl, ?_⟩) hHeld ?_ ?_
 rotate_left
 ·rintro w' ⟨s0, s1, s2, s3, s4⟩
  go_simp
  with_reducible rfl
 rotate_left
 ·simp only [Act.put, List.setIfInBounds_toArray, List.set_cons_zero, List.set_cons_succ, i64_w, i32_w]
  rfl
 refine take_ (i := 3) (N := some 6) (v := ?_) (a' := ?_) (bs 9 5) rfl rfl (take_ofW HT_.out HW_.out (by kernel_rfl)) (fun _ _ _ h => h) (Or.inl ⟨by rfl, ?_⟩) hHeld ?_ ?_
 rotate_left
 ·rintro w' ⟨s0, s1, s2, s3, s4⟩
  go_simp
  with_reducible rfl
 rotate_left
 ·simp only [Act.put, List.setIfInBounds_toArray, List.set_cons_zero, List.set_cons_succ, i64_w, i32_w]
  rfl
 refine take_ (i := 5) (N := some 8) (v := ?_) (a' := ?_) (bs 9 6) rfl rfl (take_ofW HT_.out HW_.out (by kernel_rfl)) (fun _ _ _ h => h) (Or.inl ⟨by rfl, ?_⟩) hHeld ?_ ?_
 rotate_left
 ·rintro w' ⟨s0, s1, s2, s3, s4⟩
  go_simp
  with_reducible rfl
 rotate_left
 ·simp only [Act.put, List.setIfInBounds_toArray, List.set_cons_zero, List.set_cons_succ, i64_w, i32_w]
  rfl
 refine one_ (i := 6) (N := some 9) (bs 9 7) rfl rfl (one_of HT_.out (by kernel_rfl)) (by decide) (fun K hK => ?_)
 refine goes_ Try.func95 (by kernel_rfl) rfl #[.slice A0_4 l0_4.length c0_4] (by rfl) rfl rfl mt_ ?_
 with_reducible refine (impl_Kid_95.calls _ _ l0_4 t257 _ ?side1 ?side2 A2.out).mono ?_
 (case side1 => repeat (first | exact (Kd.C_below HR0_4.out HB.out) | (with_reducible refine Kd.C_alloc ?_ _) | (with_reducible refine Kd.C_drewN ?_ _) | (with_reducible refine Kd.C_drew ?_)))
 (case side2 => exact HC0_4.out)
 rintro e w6 ⟨v258, rfl, ho0, hb⟩
 refine ⟨_, rfl, ?_⟩
 have n0_ := Aside0.mk (Kd.R_lower ho0 (below_size (bf_ HB))); have n1_ := bb_ BK255 hb; have n2_ := bb_ BK256 hb; have n3_ := Aside0.mk (below_step (bf_ HB) hb); clear BK255; clear BK256; clear HB; have HO259 := n0_; have BK255 := n1_; have BK256 := n2_; have HB := n3_; clear n0_ n1_ n2_ n3_; (try clear hb); (try clear hb2); (try clear hk); (try clear hi); (try clear ho0)
 obtain ⟨Ao7, co7, eo7⟩ := Kd.R_slice HO259.out
 (first | subst eo7 | (injection eo7 with f1_ f2_ f3_; have f4_ := f1_.symm; have f5_ := f3_.symm; clear f1_ f2_ f3_; subst f4_; subst f5_))
 refine hK.out _ _ ⟨bt_ BK255 0, bt_ BK255 1, bt_ BK255 2, bt_ BK255 3, bt_ BK255 4⟩ (fun hHeld => ?_)
 clear hK K
 refine norm_ (a' := ?_) ?_ ?_
 rotate_left
 ·show Act.put _ (some 9) _ = _
  simp only [Act.put, List.setIfInBounds_toArray, List.set_cons_zero, List.set_cons_succ, i64_w, i32_w]
  rfl
 refine pure_s (i := 7) (N := some 10) (bs 9 8) (any_of HT_.out (by kernel_rfl)) (h := ?_)
 refine one_ (i := 8) (N := none) (bs 9 9) rfl rfl (one_of HT_.out (by kernel_rfl)) (by decide) (fun K hK => ?_)
 have hs8 := bc_ BK256 0 (.int .i64 0) rfl; have hfs8 := blk_frozen BK256.out 0; have hns8_0 := NB255_256.out; have hms8_0 := NB256_255.out; have hs9 := bc_ BK256 1 (.int .i64 0) rfl; have hfs9 := blk_frozen BK256.out 1; have hns9_0 := NB255_256.out; have hms9_0 := NB256_255.out; have hs10 := bc_ BK256 2 (.int .i64 0) rfl; have hfs10 := blk_frozen BK256.out 2; have hns10_0 := NB255_256.out; have hms10_0 := NB256_255.out; have hs11 := bc_ BK256 3 (.int .i64 0) rfl; have hfs11 := blk_frozen BK256.out 3; have hns11_0 := NB255_256.out; have hms11_0 := NB256_255.out; have hs12 := bc_ BK256 4 (.slice none 0 0) rfl; have hfs12 := blk_frozen BK256.out 4; have hns12_0 := NB255_256.out; have hms12_0 := NB256_255.out
 refine skip_ (w1 := ?_) (by rfl) rfl ?_ ?_
 rotate_left
 ·go_simp
  rfl
 refine hK.out _ _ ⟨((cell_far (p := ⟨gb256, _, none⟩) NB255_256.out _).trans (((cell_far (p := ⟨gb256, _, none⟩) NB255_256.out _).trans (((cell_far (p := ⟨gb256, _, none⟩) NB255_256.out _).trans (((cell_far (p := ⟨gb256, _, none⟩) NB255_256.out _).trans (((cell_far (p := ⟨gb256, _, none⟩) NB255_256.out _).trans (hHeld.1)))))))))), ((cell_far (p := ⟨gb256, _, none⟩) NB255_256.out _).trans (((cell_far (p := ⟨gb256, _, none⟩) NB255_256.out _).trans (((cell_far (p := ⟨gb256, _, none⟩) NB255_256.out _).trans (((cell_far (p := ⟨gb256, _, none⟩) NB255_256.out _).trans (((cell_far (p := ⟨gb256, _, none⟩) NB255_256.out _).trans (hHeld.2.1)))))))))), ((cell_far (p := ⟨gb256, _, none⟩) NB255_256.out _).trans (((cell_far (p := ⟨gb256, _, none⟩) NB255_256.out _).trans (((cell_far (p := ⟨gb256, _, none⟩) NB255_256.out _).trans (((cell_far (p := ⟨gb256, _, none⟩) NB255_256.out _).trans (((cell_far (p := ⟨gb256, _, none⟩) NB255_256.out _).trans (hHeld.2.2.1)))))))))), ((cell_far (p := ⟨gb256, _, none⟩) NB255_256.out _).trans (((cell_far (p := ⟨gb256, _, none⟩) NB255_256.out _).trans (((cell_far (p := ⟨gb256, _, none⟩) NB255_256.out _).trans (((cell_far (p := ⟨gb256, _, none⟩) NB255_256.out _).trans (((cell_far (p := ⟨gb256, _, none⟩) NB255_256.out _).trans (hHeld.2.2.2.1)))))))))), ((cell_far (p := ⟨gb256, _, none⟩) NB255_256.out _).trans (((cell_far (p := ⟨gb256, _, none⟩) NB255_256.out _).trans (((cell_far (p := ⟨gb256, _, none⟩) NB255_256.out _).trans (((cell_far (p := ⟨gb256, _, none⟩) NB255_256.out _).trans (((cell_far (p := ⟨gb256, _, none⟩) NB255_256.out _).trans (hHeld.2.2.2.2))))))))))⟩ (fun hHeld => ?_)
 clear hK K
 refine done_ (done_of HT_.out (by kernel_rfl)) ?_
 try go_wp2
 refine bodyPost_ret (results_cell_row rfl _ _ gb256 32 #[.int .i64 a0_0, .int .i64 a0_1, .int .i64 a0_2, .int .i64 a0_3, .slice Ao7 t257.length co7] (0, 0) _ rfl (by (with_reducible repeat (first | refine blk_drewN ?_ _ | refine blk_drew ?_ | refine blk_alloc ?_ _)); refine blk_put (cs := #[.int .i64 a0_0, .int .i64 a0_1, .int .i64 a0_2, .int .i64 a0_3, .slice none 0 0]) ?_ 4 _ rfl; (with_reducible repeat (first | refine blk_drewN ?_ _ | refine blk_drew ?_ | refine blk_alloc ?_ _)); refine blk_put (cs := #[.int .i64 a0_0, .int .i64 a0_1, .int .i64 a0_2, .int .i64 0, .slice none 0 0]) ?_ 3 _ rfl; (with_reducible repeat (first | refine blk_drewN ?_ _ | refine blk_drew ?_ | refine blk_alloc ?_ _)); refine blk_put (cs := #[.int .i64 a0_0, .int .i64 a0_1, .int .i64 0, .int .i64 0, .slice none 0 0]) ?_ 2 _ rfl; (with_reducible repeat (first | refine blk_drewN ?_ _ | refine blk_drew ?_ | refine blk_alloc ?_ _)); refine blk_put (cs := #[.int .i64 a0_0, .int .i64 0, .int .i64 0, .int .i64 0, .slice none 0 0]) ?_ 1 _ rfl; (with_reducible repeat (first | refine blk_drewN ?_ _ | refine blk_drew ?_ | refine blk_alloc ?_ _)); refine blk_put (cs := #[.int .i64 0, .int .i64 0, .int .i64 0, .int .i64 0, .slice none 0 0]) ?_ 0 _ rfl; exact bk_ BK256) Try.underlying32 rfl (by kernel_rfl)) rfl ?_
 exact ⟨_, by first | rfl | (simp [errW_none, errW_some] <;> rfl) | (simp [*, errW_none, errW_some] <;> rfl), by (with_reducible repeat (first | apply Kd.R_alloc | apply Kd.R_drewN | apply Kd.R_drew)); exact Kd.R_mono (Kd.R_far (p := ⟨gb256, 4, none⟩) (Kd.R_far (p := ⟨gb256, 3, none⟩) (Kd.R_far (p := ⟨gb256, 2, none⟩) (Kd.R_far (p := ⟨gb256, 1, none⟩) (Kd.R_far (p := ⟨gb256, 0, none⟩) (Kd.R_types HO259.out BK256.out (by decide)) (fun _ hk => by first | exact hk.2 | grind) (.int .i64 a0_0)) (fun _ hk => by first | exact hk.2 | grind) (.int .i64 a0_1)) (fun _ hk => by first | exact hk.2 | grind) (.int .i64 a0_2)) (fun _ hk => by first | exact hk.2 | grind) (.int .i64 a0_3)) (fun _ hk => by first | exact hk.2 | grind) (.slice Ao7 t257.length co7)) (fun _ hk => by first | exact trivial | grind), bf_ HB⟩

-- NOT PRINTED: function 99 (impl_both)

/-! ### impl_VecMost_1: function 100 -/
def impl_VecMost_1.f (a0 : Int) (a1 : Int) : Option (Int) := some (mx a0 a1)
set_option maxHeartbeats 8000000 in
set_option maxRecDepth 100000 in
theorem impl_VecMost_1.calls (a0 : Int) (a1 : Int) (r : Int) (w : World) (h : impl_VecMost_1.f a0 a1 = some r) :
  Calls Try.prog 100 #[.int .i64 a0, .int .i64 a1] w fun e w' => e = .returned (.int .i64 r) ∧ Below w.heap.size w w' := by
 have HB := Aside0.mk (Below.refl w.heap.size w)
 have H : (some (mx a0 a1)) = some r := h
 clear h
 obtain ⟨ji3, hji3⟩ : ∃ j_ : Int, (mx a0 a1) = j_ := ⟨_, rfl⟩
 replace H : (some ji3) = some r := by first | (rw [hji3] at H; exact H) | (simp only [hji3] at H ⊢; exact H)
 have hji3_ : (if a0 < a1 then a1 else a0) = ji3 := hji3
 obtain rfl := Option.some.inj H
 go_enter Try.func100, Try.ntmps100
 go_wp2
 go_ret
 exact ⟨by first | rfl | (simp [errW_none, errW_some] <;> rfl) | (simp only [← hji3]; first | rfl | (simp [errW_none, errW_some] <;> rfl)) | (simp [*, errW_none, errW_some] <;> rfl), be_ HB⟩

end Go.Proofs.Ytljhaoiopokmfaa.PFnExactFairWake
