-- printed by a program of this session (wip/printx) out of the translation; Lean checks it
import Derived.Test.YtppmbdfbhahngaaVFnExactFairJoin
import Derived.Test.YtppmbdfbhahngaaPFnExactFairJoinx0
import Derived.Test.YtppmbdfbhahngaaPFnExactFairJoinx2
import Derived.Test.YtppmbdfbhahngaaPFnExactFairJoinx4
import Derived.Test.YtppmbdfbhahngaaPFnExactFairJoinx5
namespace Go.Proofs.Ytppmbdfbhahngaa.PFnExactFairJoin
open Go.RowKit Go.Proofs.YtppmbdfbhahngaaW.PrintWords Go.Proofs.YtppmbdfbhahngaaW.PrintLast Go.Proofs.YtppmbdfbhahngaaW.PrintMore
attribute [local go_sem] max2_int min2_int max_two min_two max_three min_three max_four min_four   -- for this text's walks alone
set_option linter.unusedVariables false
set_option linter.unusedSimpArgs false

/-! ### spec_FairJoin: function 14 -/
mutual
def spec_FairJoin.j0 : Nat → Int → Int → Bool → Int → Int → Int → Int → List (S46) → Option (Int × Int × Int × Int × (List (S46)) × Int)
  | 0, _, _, _, _, _, _, _, _ => none
  | k + 1, x1, x2, x26, x187000, x187001, x187002, x187003, x187004 => if x26 = true then (some (0, 0, 0, 0, ([] : List (S46)), 1)) else ((spec_l18At.f k x187000 x187001 x187002 x187003 x187004 x1).bind fun t190 => (if t190 ≥ 0 then (some (0, 0, 0, 0, ([] : List (S46)), 2)) else (if (x187004.length : Int) = 48 then (some (0, 0, 0, 0, ([] : List (S46)), 3)) else (spec_FairJoin.l0 k x1 0 x187000 x187001 x187002 x187003 x187004 x187000 x187001 x187002 x187003 ([] : List (S46)) x1 x2 false 0 0 0))))
def spec_FairJoin.l0 : Nat → Int → Int → Int → Int → Int → Int → List (S46) → Int → Int → Int → Int → List (S46) → Int → Int → Bool → Int → Int → Int → Option (Int × Int × Int × Int × (List (S46)) × Int)
  | 0, _, _, _, _, _, _, _, _, _, _, _, _, _, _, _, _, _, _ => none
  | k + 1, x1, x10, x187000, x187001, x187002, x187003, x187004, x192000, x192001, x192002, x192003, x192004, x193000, x193001, x193002, x193003, x193004, x193005 => if x10 < (x187004.length : Int) then (if 0 ≤ x10 then (if ((rd_T46 x187004 x10).f0) > x1 then (if x10 = 0 then (if x192004.length < 2932031007402 then ((some (x192004 ++ [(⟨x193000, x193001, x193002, (⟨x193003, x193004, x193005⟩ : S28)⟩ : S46)] : List (S46))).bind fun y194 => (if y194.length < 2932031007402 then (spec_FairJoin.l0 k x1 (wrap64 (x10 + 1)) x187000 x187001 x187002 x187003 x187004 x192000 x192001 x192002 x192003 (y194 ++ [(⟨(rd_T46 x187004 x10).f0, (rd_T46 x187004 x10).f1, (rd_T46 x187004 x10).f2, (⟨(rd_T46 x187004 x10).f3.f0, (rd_T46 x187004 x10).f3.f1, (rd_T46 x187004 x10).f3.f2⟩ : S28)⟩ : S46)]) x193000 x193001 x193002 x193003 x193004 x193005) else (none))) else (none)) else (if 0 ≤ (wrap64 (x10 - 1)) then (if (wrap64 (x10 - 1)) < (x187004.length : Int) then (if ((rd_T46 x187004 (wrap64 (x10 - 1))).f0) < x1 then (if x192004.length < 2932031007402 then ((some (x192004 ++ [(⟨x193000, x193001, x193002, (⟨x193003, x193004, x193005⟩ : S28)⟩ : S46)] : List (S46))).bind fun y202 => (if y202.length < 2932031007402 then (spec_FairJoin.l0 k x1 (wrap64 (x10 + 1)) x187000 x187001 x187002 x187003 x187004 x192000 x192001 x192002 x192003 (y202 ++ [(⟨(rd_T46 x187004 x10).f0, (rd_T46 x187004 x10).f1, (rd_T46 x187004 x10).f2, (⟨(rd_T46 x187004 x10).f3.f0, (rd_T46 x187004 x10).f3.f1, (rd_T46 x187004 x10).f3.f2⟩ : S28)⟩ : S46)]) x193000 x193001 x193002 x193003 x193004 x193005) else (none))) else (none)) else (if x192004.length < 2932031007402 then (spec_FairJoin.l0 k x1 (wrap64 (x10 + 1)) x187000 x187001 x187002 x187003 x187004 x192000 x192001 x192002 x192003 (x192004 ++ [(⟨(rd_T46 x187004 x10).f0, (rd_T46 x187004 x10).f1, (rd_T46 x187004 x10).f2, (⟨(rd_T46 x187004 x10).f3.f0, (rd_T46 x187004 x10).f3.f1, (rd_T46 x187004 x10).f3.f2⟩ : S28)⟩ : S46)]) x193000 x193001 x193002 x193003 x193004 x193005) else (none))) else (none)) else (none))) else (if x192004.length < 2932031007402 then (spec_FairJoin.l0 k x1 (wrap64 (x10 + 1)) x187000 x187001 x187002 x187003 x187004 x192000 x192001 x192002 x192003 (x192004 ++ [(⟨(rd_T46 x187004 x10).f0, (rd_T46 x187004 x10).f1, (rd_T46 x187004 x10).f2, (⟨(rd_T46 x187004 x10).f3.f0, (rd_T46 x187004 x10).f3.f1, (rd_T46 x187004 x10).f3.f2⟩ : S28)⟩ : S46)]) x193000 x193001 x193002 x193003 x193004 x193005) else (none))) else (none)) else (if (x192004.length : Int) = (x187004.length : Int) then (if x192004.length < 2932031007402 then (some (x192000, x192001, x192002, x192003, (x192004 ++ [(⟨x193000, x193001, x193002, (⟨x193003, x193004, x193005⟩ : S28)⟩ : S46)]), 0)) else (none)) else (some (x192000, x192001, x192002, x192003, x192004, 0)))
end
def spec_FairJoin.f (k : Nat) (a0_0 : Int) (a0_1 : Int) (a0_2 : Int) (a0_3 : Int) (l0_4 : List (S46)) (a1 : Int) (a2 : Int) : Option (Int × Int × Int × Int × (List (S46)) × Int) := (spec_FairOk.f k a0_0 a0_1 a0_2 a0_3 l0_4).bind fun t188 => (if t188 = true then (if a1 < 0 then (spec_FairJoin.j0 k a1 a2 true a0_0 a0_1 a0_2 a0_3 l0_4) else (if a1 > 9999 then (spec_FairJoin.j0 k a1 a2 true a0_0 a0_1 a0_2 a0_3 l0_4) else ((spec_Stride.f a2).bind fun t189 => (spec_FairJoin.j0 k a1 a2 (t189 == 0) a0_0 a0_1 a0_2 a0_3 l0_4)))) else (spec_FairJoin.j0 k a1 a2 true a0_0 a0_1 a0_2 a0_3 l0_4))
theorem spec_FairJoin.mono_l : ∀ k, (∀ y0 y1 y2 y3 y4 y5 y6 y7, LeO (spec_FairJoin.j0 k y0 y1 y2 y3 y4 y5 y6 y7) (spec_FairJoin.j0 (k + 1) y0 y1 y2 y3 y4 y5 y6 y7)) ∧ (∀ y0 y1 y2 y3 y4 y5 y6 y7 y8 y9 y10 y11 y12 y13 y14 y15 y16 y17, LeO (spec_FairJoin.l0 k y0 y1 y2 y3 y4 y5 y6 y7 y8 y9 y10 y11 y12 y13 y14 y15 y16 y17) (spec_FairJoin.l0 (k + 1) y0 y1 y2 y3 y4 y5 y6 y7 y8 y9 y10 y11 y12 y13 y14 y15 y16 y17))
 | 0 => ⟨fun _ _ _ _ _ _ _ _ r h => by simp [spec_FairJoin.j0] at h, fun _ _ _ _ _ _ _ _ _ _ _ _ _ _ _ _ _ _ r h => by simp [spec_FairJoin.l0] at h⟩
 | k + 1 => by
  obtain ⟨ih0, ih1⟩ := spec_FairJoin.mono_l k
  refine ⟨?_, ?_⟩ <;> intros <;> (first | unfold spec_FairJoin.j0 | unfold spec_FairJoin.l0) <;> repeat' (first | (with_reducible exact ih0 ..) | (with_reducible exact ih1 ..) | (with_reducible exact spec_FairOk.mono _ _ _ _ _ _) | (with_reducible exact spec_l18At.mono _ _ _ _ _ _ _) | (with_reducible exact LeO.refl _) | (with_reducible exact LeO.none _) | (with_reducible refine LeO.ite ?_ ?_) | (with_reducible refine LeO.bind ?_ (fun _ => ?_)) | exact ih0 .. | exact ih1 .. | exact spec_FairOk.mono _ _ _ _ _ _ | exact spec_l18At.mono _ _ _ _ _ _ _ | exact LeO.none _ | refine LeO.ite ?_ ?_ | refine LeO.bind ?_ (fun _ => ?_))
theorem spec_FairJoin.mono : ∀ a0 a1 a2 a3 a4 a5 a6 k, LeO (spec_FairJoin.f k a0 a1 a2 a3 a4 a5 a6) (spec_FairJoin.f (k + 1) a0 a1 a2 a3 a4 a5 a6) := by
 intro a0 a1 a2 a3 a4 a5 a6 k
 obtain ⟨ih0, ih1⟩ := spec_FairJoin.mono_l k
 unfold spec_FairJoin.f
 repeat' (first | (with_reducible exact ih0 ..) | (with_reducible exact ih1 ..) | (with_reducible exact spec_FairOk.mono _ _ _ _ _ _) | (with_reducible exact spec_l18At.mono _ _ _ _ _ _ _) | (with_reducible exact LeO.refl _) | (with_reducible exact LeO.none _) | (with_reducible refine LeO.ite ?_ ?_) | (with_reducible refine LeO.bind ?_ (fun _ => ?_)) | exact ih0 .. | exact ih1 .. | exact spec_FairOk.mono _ _ _ _ _ _ | exact spec_l18At.mono _ _ _ _ _ _ _ | exact LeO.none _ | refine LeO.ite ?_ ?_ | refine LeO.bind ?_ (fun _ => ?_))
def spec_FairJoin.T14 : Bool × List (List Nat × List Nat) := (true, [([], []), ([0], [0]), ([], []), ([2], [2]), ([], []), ([3, 4], [3, 4]), ([5], [5]), ([6], [6]), ([1, 7], [1, 7]), ([0, 1, 2, 3, 4, 5, 6, 7, 8], []), ([9, 8, 8, 0, 1, 2, 3, 4, 5, 6, 7, 8], [8, 9])])
def spec_FairJoin.B14 : List Nat := [0, 1, 0, 4, 0, 28, 60, 124, 255, 511, 1023]
theorem spec_FairJoin.tab14 : rtab .any (opsOf Try.f14 14) = spec_FairJoin.T14 := by kernel_rfl
theorem spec_FairJoin.bits14 : waitsOk spec_FairJoin.T14.2 spec_FairJoin.B14 = true := by kernel_rfl
set_option maxHeartbeats 8000000 in
set_option maxRecDepth 100000 in
theorem spec_FairJoin.calls (k : Nat) (a0_0 : Int) (a0_1 : Int) (a0_2 : Int) (a0_3 : Int) (A0_4 : Option Addr) (c0_4 : Nat) (l0_4 : List (S46)) (a1 : Int) (a2 : Int) (r1 : Int) (r2 : Int) (r3 : Int) (r4 : Int) (r5 : List (S46)) (r6 : Int) (w : World) (hr0_4 : Kd.C k46 w A0_4 l0_4.length l0_4) (hc0_4 : l0_4.length ≤ c0_4) (h : spec_FairJoin.f k a0_0 a0_1 a0_2 a0_3 l0_4 a1 a2 = some (r1, r2, r3, r4, r5, r6)) :
  Calls Try.prog 14 #[.agg #[.int .i64 a0_0, .int .i64 a0_1, .int .i64 a0_2, .int .i64 a0_3, .slice A0_4 l0_4.length c0_4], .int .i64 a1, .int .i64 a2] w fun e w' => ∃ v4_ : Value, e = .returned (.tuple #[.agg #[.int .i64 r1, .int .i64 r2, .int .i64 r3, .int .i64 r4, v4_], .int .i64 r6]) ∧ Kd.R k46 46 w' w.heap.size (fun _ => True) v4_ r5 ∧ Below w.heap.size w w' := by
 have hu31 := Try.underlying31; have hu28 := Try.underlying28; have hu46 := Try.underlying46
 have HR0_4 := Aside0.mk hr0_4
 have HC0_4 := Aside0.mk hc0_4
 clear hr0_4 hc0_4; have HB := Aside0.mk (Below.refl w.heap.size w)
 have H := h
 clear h
 unfold spec_FairJoin.f at H
 have HC4 := Aside0.mk H
 clear H
 go_enter Try.func14, Try.ntmps14
 go_upto_region 1 with (first | ((with_reducible refine gd_ 3 rfl ?_); refine bv_ 3 #[.int .i64 a0_0, .int .i64 a0_1, .int .i64 a0_2, .int .i64 a0_3, .slice A0_4 l0_4.length c0_4] 31 ?_; intro gb186 hg w5 hbox hb; have BK186 := Aside0.mk (hbox); have GW186 := gw_ HB hg; have GE186 := gw_ HB hg; replace HB := Aside0.mk (below_step (be_ HB) hb); clear hb hbox hg) | ((with_reducible refine gd_ 6 rfl ?_); refine bv_ 6 #[.int .i64 0, .int .i64 0, .int .i64 0, .int .i64 0, .slice none 0 0] 31 ?_; intro gb187 hg w6 hbox hb; have BK187 := Aside0.mk (hbox); have GW187 := gw_ HB hg; have GE187 := gw_ HB hg; replace HB := Aside0.mk (below_step (bf_ HB) hb); have NB186_187 := nl_ BK186 hg; have NB187_186 := ng_ BK186 hg; replace BK186 := bb_ BK186 hb; clear hb hbox hg))
 (try simp only [Act.put, ls0_, ls1_, ls2_])
 go_cut [26] (fun v26 wc => ∃ (kq : Nat) (x26_3 : Bool), v26 = .bool x26_3 ∧ Aside0 (spec_FairJoin.j0 kq a1 a2 x26_3 a0_0 a0_1 a0_2 a0_3 l0_4 = some (r1, r2, r3, r4, r5, r6)) ∧ Aside0 (kq ≤ k) ∧ Aside0 (wc.heap[gb186]? = some (.cells #[.int .i64 a0_0, .int .i64 a0_1, .int .i64 a0_2, .int .i64 a0_3, (.slice A0_4 l0_4.length c0_4)] 31 (0, 0))) ∧ Aside0 (wc.heap[gb187]? = some (.cells #[.int .i64 0, .int .i64 0, .int .i64 0, .int .i64 0, (.slice none 0 0)] 31 (0, 0))) ∧ Aside0 (Below w.heap.size w wc))
 case first =>
  have H := HC4.out
  clear HC4
  replace H := Option.bind_eq_some_iff.mp H
  obtain ⟨t188, A70, H⟩ := H
  have A7 := Aside0.mk A70
  clear A70
  by_cases c8 : t188 = true
  ·subst c8
   rw [if_pos rfl] at H
   by_cases c9 : a1 < 0
   ·rw [if_pos c9] at H
    have c9b0 : decide (a1 < 0) = true := decide_eq_true c9
    clear c9
    (first | rw [c9b0] | (simp only [i64_w, i32_w]; rw [c9b0]) | skip)
    have H' := Aside0.mk H
    clear H; have hnb10 := NB186_187.out; have hnc10 := NB187_186.out; obtain ⟨hcz11_0, hcz11_1, hcz11_2, hcz11_3, hcz11_4, hfz11_0, hfz11_1, hfz11_2, hfz11_3, hfz11_4⟩ := bz5_ BK186
    go_wp2_with (first | ((with_reducible refine gc_ 18 rfl ?_); refine gl_ 12 Try.func18 #[.agg #[.int .i64 a0_0, .int .i64 a0_1, .int .i64 a0_2, .int .i64 a0_3, .slice A0_4 l0_4.length c0_4]] ?_; (with_reducible refine (spec_FairOk.calls k a0_0 a0_1 a0_2 a0_3 _ _ l0_4 true _ ?side1 ?side2 A7.out).mono ?_); (case side1 => repeat (first | exact (Kd.C_below HR0_4.out HB.out) | (with_reducible refine Kd.C_alloc ?_ _) | (with_reducible refine Kd.C_drewN ?_ _) | (with_reducible refine Kd.C_drew ?_))); (case side2 => exact HC0_4.out); rintro e w12 ⟨rfl, hb⟩; refine ⟨_, rfl, ?_⟩; replace BK186 := bb_ BK186 hb; replace BK187 := bb_ BK187 hb; replace HB := Aside0.mk (below_step (bf_ HB) hb); (try clear hb); (try clear hb2); (try clear hk); (try clear hi)))
    go_meet
    case rel => exact ⟨_, (true), (by first | rfl | (simp; done) | (simp [*]; done)), H', ⟨by first | omega | exact Nat.le_refl _⟩, ⟨bk_ BK186⟩, ⟨bk_ BK187⟩, ⟨bf_ HB⟩⟩
   ·rw [if_neg c9] at H
    have c9b0 : decide (a1 < 0) = false := decide_eq_false c9
    clear c9
    (first | rw [c9b0] | (simp only [i64_w, i32_w]; rw [c9b0]) | skip)
    by_cases c13 : a1 > 9999
    ·rw [if_pos c13] at H
     have c13b0 : decide (9999 < a1) = true := decide_eq_true c13
     clear c13
     have H' := Aside0.mk H
     clear H; have hnb14 := NB186_187.out; have hnc14 := NB187_186.out; obtain ⟨hcz15_0, hcz15_1, hcz15_2, hcz15_3, hcz15_4, hfz15_0, hfz15_1, hfz15_2, hfz15_3, hfz15_4⟩ := bz5_ BK186
     go_wp2_with (first | ((with_reducible refine gc_ 18 rfl ?_); refine gl_ 12 Try.func18 #[.agg #[.int .i64 a0_0, .int .i64 a0_1, .int .i64 a0_2, .int .i64 a0_3, .slice A0_4 l0_4.length c0_4]] ?_; (with_reducible refine (spec_FairOk.calls k a0_0 a0_1 a0_2 a0_3 _ _ l0_4 true _ ?side1 ?side2 A7.out).mono ?_); (case side1 => repeat (first | exact (Kd.C_below HR0_4.out HB.out) | (with_reducible refine Kd.C_alloc ?_ _) | (with_reducible refine Kd.C_drewN ?_ _) | (with_reducible refine Kd.C_drew ?_))); (case side2 => exact HC0_4.out); rintro e w16 ⟨rfl, hb⟩; refine ⟨_, rfl, ?_⟩; replace BK186 := bb_ BK186 hb; replace BK187 := bb_ BK187 hb; replace HB := Aside0.mk (below_step (bf_ HB) hb); (try clear hb); (try clear hb2); (try clear hk); (try clear hi)))
     go_meet
     case rel => exact ⟨_, (true), (by first | rfl | (simp; done) | (simp [*]; done)), H', ⟨by first | omega | exact Nat.le_refl _⟩, ⟨bk_ BK186⟩, ⟨bk_ BK187⟩, ⟨bf_ HB⟩⟩
    ·rw [if_neg c13] at H
     have c13b0 : decide (9999 < a1) = false := decide_eq_false c13
     clear c13
     replace H := Option.bind_eq_some_iff.mp H
     obtain ⟨t189, A170, H⟩ := H
     have A17 := Aside0.mk A170
     clear A170
     have H' := Aside0.mk H
     clear H; have hnb18 := NB186_187.out; have hnc18 := NB187_186.out; obtain ⟨hcz19_0, hcz19_1, hcz19_2, hcz19_3, hcz19_4, hfz19_0, hfz19_1, hfz19_2, hfz19_3, hfz19_4⟩ := bz5_ BK186
     go_wp2_with (first | ((with_reducible refine gc_ 18 rfl ?_); refine gl_ 12 Try.func18 #[.agg #[.int .i64 a0_0, .int .i64 a0_1, .int .i64 a0_2, .int .i64 a0_3, .slice A0_4 l0_4.length c0_4]] ?_; (with_reducible refine (spec_FairOk.calls k a0_0 a0_1 a0_2 a0_3 _ _ l0_4 true _ ?side1 ?side2 A7.out).mono ?_); (case side1 => repeat (first | exact (Kd.C_below HR0_4.out HB.out) | (with_reducible refine Kd.C_alloc ?_ _) | (with_reducible refine Kd.C_drewN ?_ _) | (with_reducible refine Kd.C_drew ?_))); (case side2 => exact HC0_4.out); rintro e w20 ⟨rfl, hb⟩; refine ⟨_, rfl, ?_⟩; replace BK186 := bb_ BK186 hb; replace BK187 := bb_ BK187 hb; replace HB := Aside0.mk (below_step (bf_ HB) hb); (try clear hb); (try clear hb2); (try clear hk); (try clear hi)) | (go_at_call 24; (with_reducible refine (spec_Stride.calls a2 t189 _ A17.out).mono ?_); rintro e w' ⟨rfl, ⟨nd, rfl⟩⟩))
     go_meet
     case rel => exact ⟨_, ((t189 == 0)), (by first | rfl | (simp; done) | (simp [*]; done)), H', ⟨by first | omega | exact Nat.le_refl _⟩, ⟨bk_ BK186⟩, ⟨bk_ BK187⟩, ⟨bf_ HB⟩⟩
  ·replace c8 := Bool.eq_false_iff.mpr c8
   subst c8
   rw [if_neg (show ¬ (false = true) by decide)] at H
   have H' := Aside0.mk H
   clear H; have hnb21 := NB186_187.out; have hnc21 := NB187_186.out; obtain ⟨hcz22_0, hcz22_1, hcz22_2, hcz22_3, hcz22_4, hfz22_0, hfz22_1, hfz22_2, hfz22_3, hfz22_4⟩ := bz5_ BK186
   go_wp2_with (first | ((with_reducible refine gc_ 18 rfl ?_); refine gl_ 12 Try.func18 #[.agg #[.int .i64 a0_0, .int .i64 a0_1, .int .i64 a0_2, .int .i64 a0_3, .slice A0_4 l0_4.length c0_4]] ?_; (with_reducible refine (spec_FairOk.calls k a0_0 a0_1 a0_2 a0_3 _ _ l0_4 false _ ?side1 ?side2 A7.out).mono ?_); (case side1 => repeat (first | exact (Kd.C_below HR0_4.out HB.out) | (with_reducible refine Kd.C_alloc ?_ _) | (with_reducible refine Kd.C_drewN ?_ _) | (with_reducible refine Kd.C_drew ?_))); (case side2 => exact HC0_4.out); rintro e w23 ⟨rfl, hb⟩; refine ⟨_, rfl, ?_⟩; replace BK186 := bb_ BK186 hb; replace BK187 := bb_ BK187 hb; replace HB := Aside0.mk (below_step (bf_ HB) hb); (try clear hb); (try clear hb2); (try clear hk); (try clear hi)))
   go_meet
   case rel => exact ⟨_, (true), (by first | rfl | (simp; done) | (simp [*]; done)), H', ⟨by first | omega | exact Nat.le_refl _⟩, ⟨bk_ BK186⟩, ⟨bk_ BK187⟩, ⟨bf_ HB⟩⟩
 case rest =>
  clear HC4; (try clear c1); (try clear c2); (try clear p2); (try clear c8); (try clear c9); (try clear c9b0); (try clear c10); (try clear c13); (try clear c13b0); (try clear c14); (try clear c18); (try clear c21); (try clear hcz11_0 hcz11_1 hcz11_2 hcz11_3 hcz11_4 hfz11_0 hfz11_1 hfz11_2 hfz11_3 hfz11_4); (try clear hcz15_0 hcz15_1 hcz15_2 hcz15_3 hcz15_4 hfz15_0 hfz15_1 hfz15_2 hfz15_3 hfz15_4); (try clear hcz19_0 hcz19_1 hcz19_2 hcz19_3 hcz19_4 hfz19_0 hfz19_1 hfz19_2 hfz19_3 hfz19_4); (try clear hcz22_0 hcz22_1 hcz22_2 hcz22_3 hcz22_4 hfz22_0 hfz22_1 hfz22_2 hfz22_3 hfz22_4)
  obtain ⟨kq, x26_3, rfl, HA, HJ3, BK186, BK187, HB⟩ := hcut
  cases kq with
  | zero => exact absurd HA.out (by simp [spec_FairJoin.j0])
  | succ kj3 =>
   have H := HA.out
   clear HA
   simp only [spec_FairJoin.j0] at H
   by_cases c24 : x26_3 = true
   ·subst c24
    rw [if_pos rfl] at H
    simp only [Option.some.injEq, Prod.mk.injEq] at H
    obtain ⟨rfl, rfl, rfl, rfl, rfl, rfl⟩ := H
    have hnb25 := NB187_186.out; have hnc25 := NB186_187.out; obtain ⟨hcz26_0, hcz26_1, hcz26_2, hcz26_3, hcz26_4, hfz26_0, hfz26_1, hfz26_2, hfz26_3, hfz26_4⟩ := bz5_ BK187
    go_wp2
    refine bodyPost_ret (results_ct rfl _ _ gb187 31 #[.int .i64 0, .int .i64 0, .int .i64 0, .int .i64 0, .slice none 0 0] (0, 0) _ rfl (by (with_reducible repeat (first | refine blk_drewN ?_ _ | refine blk_drew ?_ | refine blk_alloc ?_ _)); refine blk_put (cs := #[.int .i64 0, .int .i64 0, .int .i64 0, .int .i64 0, .slice none 0 0]) ?_ 4 _ rfl; (with_reducible repeat (first | refine blk_drewN ?_ _ | refine blk_drew ?_ | refine blk_alloc ?_ _)); refine blk_put (cs := #[.int .i64 0, .int .i64 0, .int .i64 0, .int .i64 0, .slice none 0 0]) ?_ 3 _ rfl; (with_reducible repeat (first | refine blk_drewN ?_ _ | refine blk_drew ?_ | refine blk_alloc ?_ _)); refine blk_put (cs := #[.int .i64 0, .int .i64 0, .int .i64 0, .int .i64 0, .slice none 0 0]) ?_ 2 _ rfl; (with_reducible repeat (first | refine blk_drewN ?_ _ | refine blk_drew ?_ | refine blk_alloc ?_ _)); refine blk_put (cs := #[.int .i64 0, .int .i64 0, .int .i64 0, .int .i64 0, .slice none 0 0]) ?_ 1 _ rfl; (with_reducible repeat (first | refine blk_drewN ?_ _ | refine blk_drew ?_ | refine blk_alloc ?_ _)); refine blk_put (cs := #[.int .i64 0, .int .i64 0, .int .i64 0, .int .i64 0, .slice none 0 0]) ?_ 0 _ rfl; exact bk_ BK187) Try.underlying31 rfl (by kernel_rfl)) rfl ?_
    exact ⟨_, by first | rfl | (simp [errW_none, errW_some] <;> rfl) | (simp [*, errW_none, errW_some] <;> rfl), by first | exact Kd.R_nil _ _ _ _ _ | exact Kd.N_nil _ _ _ _ _ | exact Kd.V_nil _ _ _ _ _ | exact Kd.Q_nil _ _ _ _ _ | exact Kd.S_nil _ _ _ _ _, bf_ HB⟩
   ·replace c24 := Bool.eq_false_iff.mpr c24
    subst c24
    rw [if_neg (show ¬ (false = true) by decide)] at H
    replace H := Option.bind_eq_some_iff.mp H
    obtain ⟨t190, A270, H⟩ := H
    have A27 := Aside0.mk A270
    clear A270
    by_cases c28 : t190 ≥ 0
    ·rw [if_pos c28] at H
     have c28b0 : decide (0 ≤ t190) = true := decide_eq_true c28
     clear c28
     simp only [Option.some.injEq, Prod.mk.injEq] at H
     obtain ⟨rfl, rfl, rfl, rfl, rfl, rfl⟩ := H
     have hnb29 := NB186_187.out; have hnc29 := NB187_186.out; obtain ⟨hcz30_0, hcz30_1, hcz30_2, hcz30_3, hcz30_4, hfz30_0, hfz30_1, hfz30_2, hfz30_3, hfz30_4⟩ := bz5_ BK186
     go_wp2_with (first | ((with_reducible refine gc_ 31 rfl ?_); refine gl_ 30 Try.func31 #[.agg #[.int .i64 a0_0, .int .i64 a0_1, .int .i64 a0_2, .int .i64 a0_3, .slice A0_4 l0_4.length c0_4], .int .i64 a1] ?_; (with_reducible refine (spec_l18At.calls kj3 a0_0 a0_1 a0_2 a0_3 _ _ l0_4 a1 t190 _ ?side1 ?side2 A27.out).mono ?_); (case side1 => repeat (first | exact (Kd.C_below HR0_4.out HB.out) | (with_reducible refine Kd.C_alloc ?_ _) | (with_reducible refine Kd.C_drewN ?_ _) | (with_reducible refine Kd.C_drew ?_))); (case side2 => exact HC0_4.out); rintro e w31 ⟨rfl, hb⟩; refine ⟨_, rfl, ?_⟩; replace BK186 := bb_ BK186 hb; replace BK187 := bb_ BK187 hb; replace HB := Aside0.mk (below_step (bf_ HB) hb); (try clear hb); (try clear hb2); (try clear hk); (try clear hi); obtain ⟨hcz32_0, hcz32_1, hcz32_2, hcz32_3, hcz32_4, hfz32_0, hfz32_1, hfz32_2, hfz32_3, hfz32_4⟩ := bz5_ BK187))
     refine bodyPost_ret (results_ct rfl _ _ gb187 31 #[.int .i64 0, .int .i64 0, .int .i64 0, .int .i64 0, .slice none 0 0] (0, 0) _ rfl (by (with_reducible repeat (first | refine blk_drewN ?_ _ | refine blk_drew ?_ | refine blk_alloc ?_ _)); refine blk_put (cs := #[.int .i64 0, .int .i64 0, .int .i64 0, .int .i64 0, .slice none 0 0]) ?_ 4 _ rfl; (with_reducible repeat (first | refine blk_drewN ?_ _ | refine blk_drew ?_ | refine blk_alloc ?_ _)); refine blk_put (cs := #[.int .i64 0, .int .i64 0, .int .i64 0, .int .i64 0, .slice none 0 0]) ?_ 3 _ rfl; (with_reducible repeat (first | refine blk_drewN ?_ _ | refine blk_drew ?_ | refine blk_alloc ?_ _)); refine blk_put (cs := #[.int .i64 0, .int .i64 0, .int .i64 0, .int .i64 0, .slice none 0 0]) ?_ 2 _ rfl; (with_reducible repeat (first | refine blk_drewN ?_ _ | refine blk_drew ?_ | refine blk_alloc ?_ _)); refine blk_put (cs := #[.int .i64 0, .int .i64 0, .int .i64 0, .int .i64 0, .slice none 0 0]) ?_ 1 _ rfl; (with_reducible repeat (first | refine blk_drewN ?_ _ | refine blk_drew ?_ | refine blk_alloc ?_ _)); refine blk_put (cs := #[.int .i64 0, .int .i64 0, .int .i64 0, .int .i64 0, .slice none 0 0]) ?_ 0 _ rfl; exact bk_ BK187) Try.underlying31 rfl (by kernel_rfl)) rfl ?_
     exact ⟨_, by first | rfl | (simp [errW_none, errW_some] <;> rfl) | (simp [*, errW_none, errW_some] <;> rfl), by first | exact Kd.R_nil _ _ _ _ _ | exact Kd.N_nil _ _ _ _ _ | exact Kd.V_nil _ _ _ _ _ | exact Kd.Q_nil _ _ _ _ _ | exact Kd.S_nil _ _ _ _ _, bf_ HB⟩
    ·rw [if_neg c28] at H
     have c28b0 : decide (0 ≤ t190) = false := decide_eq_false c28
     clear c28
     by_cases c33 : (l0_4.length : Int) = 48
     ·rw [if_pos c33] at H
      have c33b0 : ((l0_4.length : Int) == 48) = true := beq_iff_eq.mpr c33
      have c33b1 : ((l0_4.length : Int) != 48) = false := bne_eq_false_iff_eq.mpr c33
      clear c33
      simp only [Option.some.injEq, Prod.mk.injEq] at H
      obtain ⟨rfl, rfl, rfl, rfl, rfl, rfl⟩ := H
      have hnb34 := NB186_187.out; have hnc34 := NB187_186.out; obtain ⟨hcz35_0, hcz35_1, hcz35_2, hcz35_3, hcz35_4, hfz35_0, hfz35_1, hfz35_2, hfz35_3, hfz35_4⟩ := bz5_ BK186
      go_wp2_with (first | ((with_reducible refine gc_ 31 rfl ?_); refine gl_ 30 Try.func31 #[.agg #[.int .i64 a0_0, .int .i64 a0_1, .int .i64 a0_2, .int .i64 a0_3, .slice A0_4 l0_4.length c0_4], .int .i64 a1] ?_; (with_reducible refine (spec_l18At.calls kj3 a0_0 a0_1 a0_2 a0_3 _ _ l0_4 a1 t190 _ ?side1 ?side2 A27.out).mono ?_); (case side1 => repeat (first | exact (Kd.C_below HR0_4.out HB.out) | (with_reducible refine Kd.C_alloc ?_ _) | (with_reducible refine Kd.C_drewN ?_ _) | (with_reducible refine Kd.C_drew ?_))); (case side2 => exact HC0_4.out); rintro e w36 ⟨rfl, hb⟩; refine ⟨_, rfl, ?_⟩; replace BK186 := bb_ BK186 hb; replace BK187 := bb_ BK187 hb; replace HB := Aside0.mk (below_step (bf_ HB) hb); (try clear hb); (try clear hb2); (try clear hk); (try clear hi); obtain ⟨hcz37_0, hcz37_1, hcz37_2, hcz37_3, hcz37_4, hfz37_0, hfz37_1, hfz37_2, hfz37_3, hfz37_4⟩ := bz5_ BK186; obtain ⟨hcz38_0, hcz38_1, hcz38_2, hcz38_3, hcz38_4, hfz38_0, hfz38_1, hfz38_2, hfz38_3, hfz38_4⟩ := bz5_ BK187))
      refine bodyPost_ret (results_ct rfl _ _ gb187 31 #[.int .i64 0, .int .i64 0, .int .i64 0, .int .i64 0, .slice none 0 0] (0, 0) _ rfl (by (with_reducible repeat (first | refine blk_drewN ?_ _ | refine blk_drew ?_ | refine blk_alloc ?_ _)); refine blk_put (cs := #[.int .i64 0, .int .i64 0, .int .i64 0, .int .i64 0, .slice none 0 0]) ?_ 4 _ rfl; (with_reducible repeat (first | refine blk_drewN ?_ _ | refine blk_drew ?_ | refine blk_alloc ?_ _)); refine blk_put (cs := #[.int .i64 0, .int .i64 0, .int .i64 0, .int .i64 0, .slice none 0 0]) ?_ 3 _ rfl; (with_reducible repeat (first | refine blk_drewN ?_ _ | refine blk_drew ?_ | refine blk_alloc ?_ _)); refine blk_put (cs := #[.int .i64 0, .int .i64 0, .int .i64 0, .int .i64 0, .slice none 0 0]) ?_ 2 _ rfl; (with_reducible repeat (first | refine blk_drewN ?_ _ | refine blk_drew ?_ | refine blk_alloc ?_ _)); refine blk_put (cs := #[.int .i64 0, .int .i64 0, .int .i64 0, .int .i64 0, .slice none 0 0]) ?_ 1 _ rfl; (with_reducible repeat (first | refine blk_drewN ?_ _ | refine blk_drew ?_ | refine blk_alloc ?_ _)); refine blk_put (cs := #[.int .i64 0, .int .i64 0, .int .i64 0, .int .i64 0, .slice none 0 0]) ?_ 0 _ rfl; exact bk_ BK187) Try.underlying31 rfl (by kernel_rfl)) rfl ?_
      exact ⟨_, by first | rfl | (simp [errW_none, errW_some] <;> rfl) | (simp [*, errW_none, errW_some] <;> rfl), by first | exact Kd.R_nil _ _ _ _ _ | exact Kd.N_nil _ _ _ _ _ | exact Kd.V_nil _ _ _ _ _ | exact Kd.Q_nil _ _ _ _ _ | exact Kd.S_nil _ _ _ _ _, bf_ HB⟩
     ·rw [if_neg c33] at H
      have c33b0 : ((l0_4.length : Int) == 48) = false := beq_eq_false_iff_ne.mpr c33
      have c33b1 : ((l0_4.length : Int) != 48) = true := bne_iff_ne.mpr c33
      have H' := Aside0.mk H
      clear H; have hnb39 := NB186_187.out; have hnc39 := NB187_186.out; obtain ⟨hcz40_0, hcz40_1, hcz40_2, hcz40_3, hcz40_4, hfz40_0, hfz40_1, hfz40_2, hfz40_3, hfz40_4⟩ := bz5_ BK186
      go_wp2_with (first | ((with_reducible refine gc_ 31 rfl ?_); refine gl_ 30 Try.func31 #[.agg #[.int .i64 a0_0, .int .i64 a0_1, .int .i64 a0_2, .int .i64 a0_3, .slice A0_4 l0_4.length c0_4], .int .i64 a1] ?_; (with_reducible refine (spec_l18At.calls kj3 a0_0 a0_1 a0_2 a0_3 _ _ l0_4 a1 t190 _ ?side1 ?side2 A27.out).mono ?_); (case side1 => repeat (first | exact (Kd.C_below HR0_4.out HB.out) | (with_reducible refine Kd.C_alloc ?_ _) | (with_reducible refine Kd.C_drewN ?_ _) | (with_reducible refine Kd.C_drew ?_))); (case side2 => exact HC0_4.out); rintro e w41 ⟨rfl, hb⟩; refine ⟨_, rfl, ?_⟩; replace BK186 := bb_ BK186 hb; replace BK187 := bb_ BK187 hb; replace HB := Aside0.mk (below_step (bf_ HB) hb); (try clear hb); (try clear hb2); (try clear hk); (try clear hi); obtain ⟨hcz42_0, hcz42_1, hcz42_2, hcz42_3, hcz42_4, hfz42_0, hfz42_1, hfz42_2, hfz42_3, hfz42_4⟩ := bz5_ BK186) | ((with_reducible refine gd_ 8 rfl ?_); refine bv_ 8 #[.int .i64 0, .int .i64 0, .int .i64 0, .int .i64 0, .slice none 0 0] 31 ?_; intro gb191 hg w43 hbox hb; have BK191 := Aside0.mk (hbox); have GW191 := gw_ HB hg; have GE191 := gw_ HB hg; replace HB := Aside0.mk (below_step (bf_ HB) hb); have NB186_191 := nl_ BK186 hg; have NB191_186 := ng_ BK186 hg; replace BK186 := bb_ BK186 hb; have NB187_191 := nl_ BK187 hg; have NB191_187 := ng_ BK187 hg; replace BK187 := bb_ BK187 hb; clear hb hbox hg; have hnb44 := NB191_186.out; have hnc44 := NB186_191.out; have hnb45 := NB191_187.out; have hnc45 := NB187_191.out; obtain ⟨hcz46_0, hcz46_1, hcz46_2, hcz46_3, hcz46_4, hfz46_0, hfz46_1, hfz46_2, hfz46_3, hfz46_4⟩ := bz5_ BK191) | ((with_reducible refine gd_ 9 rfl ?_); refine bv_ 9 #[.int .i64 0, .int .i64 0, .bool false, .int .i64 0, .int .i64 0, .int .i64 0] 46 ?_; intro gb192 hg w47 hbox hb; have BK192 := Aside0.mk (hbox); have GW192 := gw_ HB hg; have GE192 := gw_ HB hg; replace HB := Aside0.mk (below_step (bf_ HB) hb); have NB186_192 := Aside0.mk ((by rw [hg]; exact Nat.ne_of_lt (blk_lt (g := gb186) (o := .cells #[.int .i64 a0_0, .int .i64 a0_1, .int .i64 a0_2, .int .i64 a0_3, .slice A0_4 l0_4.length c0_4] 31 (0, 0)) (bl_ BK186)) : gb186 ≠ gb192)); have NB192_186 := Aside0.mk ((by rw [hg]; exact Nat.ne_of_gt (blk_lt (g := gb186) (o := .cells #[.int .i64 a0_0, .int .i64 a0_1, .int .i64 a0_2, .int .i64 a0_3, .slice A0_4 l0_4.length c0_4] 31 (0, 0)) (bl_ BK186)) : gb192 ≠ gb186)); replace BK186 := bm_ BK186 hb; have NB187_192 := Aside0.mk ((by rw [hg]; exact Nat.ne_of_lt (blk_lt (g := gb187) (o := .cells #[.int .i64 0, .int .i64 0, .int .i64 0, .int .i64 0, .slice none 0 0] 31 (0, 0)) (bl_ BK187)) : gb187 ≠ gb192)); have NB192_187 := Aside0.mk ((by rw [hg]; exact Nat.ne_of_gt (blk_lt (g := gb187) (o := .cells #[.int .i64 0, .int .i64 0, .int .i64 0, .int .i64 0, .slice none 0 0] 31 (0, 0)) (bl_ BK187)) : gb192 ≠ gb187)); replace BK187 := bm_ BK187 hb; have NB191_192 := Aside0.mk ((by rw [hg]; exact Nat.ne_of_lt (blk_lt (g := gb191) (o := .cells #[.int .i64 a0_0, .int .i64 a0_1, .int .i64 a0_2, .int .i64 a0_3, .slice none 0 0] 31 (0, 0)) (by (with_reducible repeat (first | refine blk_drewN ?_ _ | refine blk_drew ?_ | refine blk_alloc ?_ _)); refine blk_put (cs := #[.int .i64 a0_0, .int .i64 a0_1, .int .i64 a0_2, .int .i64 a0_3, .slice none 0 0]) ?_ 4 _ rfl; (with_reducible repeat (first | refine blk_drewN ?_ _ | refine blk_drew ?_ | refine blk_alloc ?_ _)); refine blk_put (cs := #[.int .i64 a0_0, .int .i64 a0_1, .int .i64 a0_2, .int .i64 0, .slice none 0 0]) ?_ 3 _ rfl; (with_reducible repeat (first | refine blk_drewN ?_ _ | refine blk_drew ?_ | refine blk_alloc ?_ _)); refine blk_put (cs := #[.int .i64 a0_0, .int .i64 a0_1, .int .i64 0, .int .i64 0, .slice none 0 0]) ?_ 2 _ rfl; (with_reducible repeat (first | refine blk_drewN ?_ _ | refine blk_drew ?_ | refine blk_alloc ?_ _)); refine blk_put (cs := #[.int .i64 a0_0, .int .i64 0, .int .i64 0, .int .i64 0, .slice none 0 0]) ?_ 1 _ rfl; (with_reducible repeat (first | refine blk_drewN ?_ _ | refine blk_drew ?_ | refine blk_alloc ?_ _)); refine blk_put (cs := #[.int .i64 0, .int .i64 0, .int .i64 0, .int .i64 0, .slice none 0 0]) ?_ 0 _ rfl; exact bk_ BK191)) : gb191 ≠ gb192)); have NB192_191 := Aside0.mk ((by rw [hg]; exact Nat.ne_of_gt (blk_lt (g := gb191) (o := .cells #[.int .i64 a0_0, .int .i64 a0_1, .int .i64 a0_2, .int .i64 a0_3, .slice none 0 0] 31 (0, 0)) (by (with_reducible repeat (first | refine blk_drewN ?_ _ | refine blk_drew ?_ | refine blk_alloc ?_ _)); refine blk_put (cs := #[.int .i64 a0_0, .int .i64 a0_1, .int .i64 a0_2, .int .i64 a0_3, .slice none 0 0]) ?_ 4 _ rfl; (with_reducible repeat (first | refine blk_drewN ?_ _ | refine blk_drew ?_ | refine blk_alloc ?_ _)); refine blk_put (cs := #[.int .i64 a0_0, .int .i64 a0_1, .int .i64 a0_2, .int .i64 0, .slice none 0 0]) ?_ 3 _ rfl; (with_reducible repeat (first | refine blk_drewN ?_ _ | refine blk_drew ?_ | refine blk_alloc ?_ _)); refine blk_put (cs := #[.int .i64 a0_0, .int .i64 a0_1, .int .i64 0, .int .i64 0, .slice none 0 0]) ?_ 2 _ rfl; (with_reducible repeat (first | refine blk_drewN ?_ _ | refine blk_drew ?_ | refine blk_alloc ?_ _)); refine blk_put (cs := #[.int .i64 a0_0, .int .i64 0, .int .i64 0, .int .i64 0, .slice none 0 0]) ?_ 1 _ rfl; (with_reducible repeat (first | refine blk_drewN ?_ _ | refine blk_drew ?_ | refine blk_alloc ?_ _)); refine blk_put (cs := #[.int .i64 0, .int .i64 0, .int .i64 0, .int .i64 0, .slice none 0 0]) ?_ 0 _ rfl; exact bk_ BK191)) : gb192 ≠ gb191)); replace BK191 := Aside0.mk (blk_below (g := gb191) (o := .cells #[.int .i64 a0_0, .int .i64 a0_1, .int .i64 a0_2, .int .i64 a0_3, .slice none 0 0] 31 (0, 0)) (by (with_reducible repeat (first | refine blk_drewN ?_ _ | refine blk_drew ?_ | refine blk_alloc ?_ _)); refine blk_put (cs := #[.int .i64 a0_0, .int .i64 a0_1, .int .i64 a0_2, .int .i64 a0_3, .slice none 0 0]) ?_ 4 _ rfl; (with_reducible repeat (first | refine blk_drewN ?_ _ | refine blk_drew ?_ | refine blk_alloc ?_ _)); refine blk_put (cs := #[.int .i64 a0_0, .int .i64 a0_1, .int .i64 a0_2, .int .i64 0, .slice none 0 0]) ?_ 3 _ rfl; (with_reducible repeat (first | refine blk_drewN ?_ _ | refine blk_drew ?_ | refine blk_alloc ?_ _)); refine blk_put (cs := #[.int .i64 a0_0, .int .i64 a0_1, .int .i64 0, .int .i64 0, .slice none 0 0]) ?_ 2 _ rfl; (with_reducible repeat (first | refine blk_drewN ?_ _ | refine blk_drew ?_ | refine blk_alloc ?_ _)); refine blk_put (cs := #[.int .i64 a0_0, .int .i64 0, .int .i64 0, .int .i64 0, .slice none 0 0]) ?_ 1 _ rfl; (with_reducible repeat (first | refine blk_drewN ?_ _ | refine blk_drew ?_ | refine blk_alloc ?_ _)); refine blk_put (cs := #[.int .i64 0, .int .i64 0, .int .i64 0, .int .i64 0, .slice none 0 0]) ?_ 0 _ rfl; exact bk_ BK191) hb); clear hb hbox hg; have hnb48 := NB192_186.out; have hnc48 := NB186_192.out; have hnb49 := NB192_187.out; have hnc49 := NB187_192.out; have hnb50 := NB192_191.out; have hnc50 := NB191_192.out; obtain ⟨hcz51_0, hcz51_1, hcz51_2, hcz51_3, hcz51_4, hcz51_5, hfz51_0, hfz51_1, hfz51_2, hfz51_3, hfz51_4, hfz51_5⟩ := bz6_ BK192))
      go_loopg [10] kj3 (fun kq v10 w' => ∃ (x10_2 : Int) (x192004_2 : List (S46)) (u192004 : Value), v10 = .int .i64 x10_2 ∧ Aside0 (spec_FairJoin.l0 kq a1 x10_2 a0_0 a0_1 a0_2 a0_3 l0_4 a0_0 a0_1 a0_2 a0_3 x192004_2 a1 a2 false 0 0 0 = some (r1, r2, r3, r4, r5, r6)) ∧ Aside0 (kq ≤ kj3) ∧ Aside0 (Kd.R k46 46 w' w.heap.size (fun k_ => k_ ≠ gb192) u192004 x192004_2) ∧ Aside0 (w'.heap[gb186]? = some (.cells #[.int .i64 a0_0, .int .i64 a0_1, .int .i64 a0_2, .int .i64 a0_3, (.slice A0_4 l0_4.length c0_4)] 31 (0, 0))) ∧ Aside0 (w'.heap[gb187]? = some (.cells #[.int .i64 0, .int .i64 0, .int .i64 0, .int .i64 0, (.slice none 0 0)] 31 (0, 0))) ∧ Aside0 (w'.heap[gb191]? = some (.cells #[.int .i64 a0_0, .int .i64 a0_1, .int .i64 a0_2, .int .i64 a0_3, u192004] 31 (0, 0))) ∧ Aside0 (w'.heap[gb192]? = some (.cells #[.int .i64 a1, .int .i64 a2, .bool false, .int .i64 0, .int .i64 0, .int .i64 0] 46 (0, 0))) ∧ Aside0 (Below w.heap.size w w'))
      case atStart => exact ⟨(0), (([] : List (S46))), (.slice none 0 0), (by first | rfl | (simp; done) | (simp [*]; done)), H', ⟨Nat.le_refl _⟩, ⟨by first | exact Kd.R_nil _ _ _ _ _ | exact Kd.N_nil _ _ _ _ _ | exact Kd.V_nil _ _ _ _ _ | exact Kd.Q_nil _ _ _ _ _ | exact Kd.S_nil _ _ _ _ _⟩, ⟨by (with_reducible repeat (first | refine blk_drewN ?_ _ | refine blk_drew ?_ | refine blk_alloc ?_ _)); refine blk_far ?_ NB186_192.out _; (with_reducible repeat (first | refine blk_drewN ?_ _ | refine blk_drew ?_ | refine blk_alloc ?_ _)); refine blk_far ?_ NB186_192.out _; (with_reducible repeat (first | refine blk_drewN ?_ _ | refine blk_drew ?_ | refine blk_alloc ?_ _)); refine blk_far ?_ NB186_192.out _; (with_reducible repeat (first | refine blk_drewN ?_ _ | refine blk_drew ?_ | refine blk_alloc ?_ _)); refine blk_far ?_ NB186_192.out _; (with_reducible repeat (first | refine blk_drewN ?_ _ | refine blk_drew ?_ | refine blk_alloc ?_ _)); refine blk_far ?_ NB186_192.out _; (with_reducible repeat (first | refine blk_drewN ?_ _ | refine blk_drew ?_ | refine blk_alloc ?_ _)); refine blk_far ?_ NB186_192.out _; exact bk_ BK186⟩, ⟨by (with_reducible repeat (first | refine blk_drewN ?_ _ | refine blk_drew ?_ | refine blk_alloc ?_ _)); refine blk_far ?_ NB187_192.out _; (with_reducible repeat (first | refine blk_drewN ?_ _ | refine blk_drew ?_ | refine blk_alloc ?_ _)); refine blk_far ?_ NB187_192.out _; (with_reducible repeat (first | refine blk_drewN ?_ _ | refine blk_drew ?_ | refine blk_alloc ?_ _)); refine blk_far ?_ NB187_192.out _; (with_reducible repeat (first | refine blk_drewN ?_ _ | refine blk_drew ?_ | refine blk_alloc ?_ _)); refine blk_far ?_ NB187_192.out _; (with_reducible repeat (first | refine blk_drewN ?_ _ | refine blk_drew ?_ | refine blk_alloc ?_ _)); refine blk_far ?_ NB187_192.out _; (with_reducible repeat (first | refine blk_drewN ?_ _ | refine blk_drew ?_ | refine blk_alloc ?_ _)); refine blk_far ?_ NB187_192.out _; exact bk_ BK187⟩, ⟨by (with_reducible repeat (first | refine blk_drewN ?_ _ | refine blk_drew ?_ | refine blk_alloc ?_ _)); refine blk_far ?_ NB191_192.out _; (with_reducible repeat (first | refine blk_drewN ?_ _ | refine blk_drew ?_ | refine blk_alloc ?_ _)); refine blk_far ?_ NB191_192.out _; (with_reducible repeat (first | refine blk_drewN ?_ _ | refine blk_drew ?_ | refine blk_alloc ?_ _)); refine blk_far ?_ NB191_192.out _; (with_reducible repeat (first | refine blk_drewN ?_ _ | refine blk_drew ?_ | refine blk_alloc ?_ _)); refine blk_far ?_ NB191_192.out _; (with_reducible repeat (first | refine blk_drewN ?_ _ | refine blk_drew ?_ | refine blk_alloc ?_ _)); refine blk_far ?_ NB191_192.out _; (with_reducible repeat (first | refine blk_drewN ?_ _ | refine blk_drew ?_ | refine blk_alloc ?_ _)); refine blk_far ?_ NB191_192.out _; exact bk_ BK191⟩, ⟨by (with_reducible repeat (first | refine blk_drewN ?_ _ | refine blk_drew ?_ | refine blk_alloc ?_ _)); refine blk_put (cs := #[.int .i64 a1, .int .i64 a2, .bool false, .int .i64 0, .int .i64 0, .int .i64 0]) ?_ 5 _ rfl; (with_reducible repeat (first | refine blk_drewN ?_ _ | refine blk_drew ?_ | refine blk_alloc ?_ _)); refine blk_put (cs := #[.int .i64 a1, .int .i64 a2, .bool false, .int .i64 0, .int .i64 0, .int .i64 0]) ?_ 4 _ rfl; (with_reducible repeat (first | refine blk_drewN ?_ _ | refine blk_drew ?_ | refine blk_alloc ?_ _)); refine blk_put (cs := #[.int .i64 a1, .int .i64 a2, .bool false, .int .i64 0, .int .i64 0, .int .i64 0]) ?_ 3 _ rfl; (with_reducible repeat (first | refine blk_drewN ?_ _ | refine blk_drew ?_ | refine blk_alloc ?_ _)); refine blk_put (cs := #[.int .i64 a1, .int .i64 a2, .bool false, .int .i64 0, .int .i64 0, .int .i64 0]) ?_ 2 _ rfl; (with_reducible repeat (first | refine blk_drewN ?_ _ | refine blk_drew ?_ | refine blk_alloc ?_ _)); refine blk_put (cs := #[.int .i64 a1, .int .i64 0, .bool false, .int .i64 0, .int .i64 0, .int .i64 0]) ?_ 1 _ rfl; (with_reducible repeat (first | refine blk_drewN ?_ _ | refine blk_drew ?_ | refine blk_alloc ?_ _)); refine blk_put (cs := #[.int .i64 0, .int .i64 0, .bool false, .int .i64 0, .int .i64 0, .int .i64 0]) ?_ 0 _ rfl; exact bk_ BK192⟩, ⟨bf_ HB⟩⟩
      case round =>
       clear H'
       (try clear c1); (try clear c2); (try clear p2 p2); (try clear c3); (try clear c4); (try clear c5); (try clear c8); (try clear c9); (try clear c9b0); (try clear c10); (try clear c13); (try clear c13b0); (try clear c14); (try clear c18); (try clear c21); (try clear c24); (try clear c25); (try clear c28); (try clear c28b0); (try clear c29); (try clear c31); (try clear c33); (try clear c33b0); (try clear c33b1); (try clear c34); (try clear c39); (try clear c44); (try clear c45); (try clear c48); (try clear c49); (try clear c50); (try clear hcz11_0 hcz11_1 hcz11_2 hcz11_3 hcz11_4 hfz11_0 hfz11_1 hfz11_2 hfz11_3 hfz11_4); (try clear hcz15_0 hcz15_1 hcz15_2 hcz15_3 hcz15_4 hfz15_0 hfz15_1 hfz15_2 hfz15_3 hfz15_4); (try clear hcz19_0 hcz19_1 hcz19_2 hcz19_3 hcz19_4 hfz19_0 hfz19_1 hfz19_2 hfz19_3 hfz19_4); (try clear hcz22_0 hcz22_1 hcz22_2 hcz22_3 hcz22_4 hfz22_0 hfz22_1 hfz22_2 hfz22_3 hfz22_4); (try clear hcz26_0 hcz26_1 hcz26_2 hcz26_3 hcz26_4 hfz26_0 hfz26_1 hfz26_2 hfz26_3 hfz26_4); (try clear hcz30_0 hcz30_1 hcz30_2 hcz30_3 hcz30_4 hfz30_0 hfz30_1 hfz30_2 hfz30_3 hfz30_4); (try clear hcz32_0 hcz32_1 hcz32_2 hcz32_3 hcz32_4 hfz32_0 hfz32_1 hfz32_2 hfz32_3 hfz32_4); (try clear hcz35_0 hcz35_1 hcz35_2 hcz35_3 hcz35_4 hfz35_0 hfz35_1 hfz35_2 hfz35_3 hfz35_4); (try clear hcz37_0 hcz37_1 hcz37_2 hcz37_3 hcz37_4 hfz37_0 hfz37_1 hfz37_2 hfz37_3 hfz37_4); (try clear hcz38_0 hcz38_1 hcz38_2 hcz38_3 hcz38_4 hfz38_0 hfz38_1 hfz38_2 hfz38_3 hfz38_4); (try clear hcz40_0 hcz40_1 hcz40_2 hcz40_3 hcz40_4 hfz40_0 hfz40_1 hfz40_2 hfz40_3 hfz40_4); (try clear hcz42_0 hcz42_1 hcz42_2 hcz42_3 hcz42_4 hfz42_0 hfz42_1 hfz42_2 hfz42_3 hfz42_4); (try clear hcz46_0 hcz46_1 hcz46_2 hcz46_3 hcz46_4 hfz46_0 hfz46_1 hfz46_2 hfz46_3 hfz46_4); (try clear hcz51_0 hcz51_1 hcz51_2 hcz51_3 hcz51_4 hcz51_5 hfz51_0 hfz51_1 hfz51_2 hfz51_3 hfz51_4 hfz51_5)
       obtain ⟨x10_2, x192004_2, u192004, rfl, HA, HK2, HO_192004, BK186, BK187, BK191, BK192, HB⟩ := hrel
       cases gk with
       | zero => exact absurd HA.out (by simp [spec_FairJoin.l0])
       | succ k2 =>
        have H := HA.out
        clear HA
        simp only [spec_FairJoin.l0] at H
        by_cases c52 : x10_2 < (l0_4.length : Int)
        ·rw [if_pos c52] at H
         have c52b0 : decide (x10_2 < (l0_4.length : Int)) = true := decide_eq_true c52
         clear c52
         by_cases c53 : 0 ≤ x10_2
         ·rw [if_pos c53] at H
          have c53b0 : decide (0 ≤ x10_2) = true := decide_eq_true c53
          clear c53
          by_cases c54 : ((rd_T46 l0_4 x10_2).f0) > a1
          ·rw [if_pos c54] at H
           have c54b0 : decide (a1 < ((rd_T46 l0_4 x10_2).f0)) = true := decide_eq_true c54
           clear c54
           by_cases c55 : x10_2 = 0
           ·rw [if_pos c55] at H
            have c55b0 : (x10_2 == 0) = true := beq_iff_eq.mpr c55
            have c55b1 : (x10_2 != 0) = false := bne_eq_false_iff_eq.mpr c55
            clear c55
            by_cases c56 : x192004_2.length < 2932031007402
            ·rw [if_pos c56] at H
             have LMc56 := Aside0.mk c56
             clear c56
             obtain ⟨y194, hy194⟩ : ∃ y_ : List (S46), y_ = (x192004_2 ++ [(⟨a1, a2, false, (⟨0, 0, 0⟩ : S28)⟩ : S46)]) := ⟨_, rfl⟩
             replace H : (if y194.length < 2932031007402 then (spec_FairJoin.l0 k2 a1 (wrap64 (x10_2 + 1)) a0_0 a0_1 a0_2 a0_3 l0_4 a0_0 a0_1 a0_2 a0_3 (y194 ++ [(⟨(rd_T46 l0_4 x10_2).f0, (rd_T46 l0_4 x10_2).f1, (rd_T46 l0_4 x10_2).f2, (⟨(rd_T46 l0_4 x10_2).f3.f0, (rd_T46 l0_4 x10_2).f3.f1, (rd_T46 l0_4 x10_2).f3.f2⟩ : S28)⟩ : S46)]) a1 a2 false 0 0 0) else (none)) = some (r1, r2, r3, r4, r5, r6) := by first | (rw [hy194]; with_reducible exact H) | (have H2_ := (Option.bind_some _ _).symm.trans H; rw [hy194]; with_reducible exact H2_) | (have H2_ := (Option.bind_some _ _).symm.trans H; with_reducible exact H2_) | with_reducible exact H | (rw [hy194]; exact H) | exact H
             have Ny194 := Aside0.mk hy194
             clear hy194
             by_cases c57 : y194.length < 2932031007402
             ·rw [if_pos c57] at H
              have LMc57 := Aside0.mk c57
              clear c57
              obtain ⟨y198, hy198⟩ : ∃ y_ : List (S46), y_ = (y194 ++ [(⟨(rd_T46 l0_4 x10_2).f0, (rd_T46 l0_4 x10_2).f1, (rd_T46 l0_4 x10_2).f2, (⟨(rd_T46 l0_4 x10_2).f3.f0, (rd_T46 l0_4 x10_2).f3.f1, (rd_T46 l0_4 x10_2).f3.f2⟩ : S28)⟩ : S46)]) := ⟨_, rfl⟩
              replace H : (spec_FairJoin.l0 k2 a1 (wrap64 (x10_2 + 1)) a0_0 a0_1 a0_2 a0_3 l0_4 a0_0 a0_1 a0_2 a0_3 y198 a1 a2 false 0 0 0) = some (r1, r2, r3, r4, r5, r6) := by first | (rw [hy198]; with_reducible exact H) | (have H2_ := (Option.bind_some _ _).symm.trans H; rw [hy198]; with_reducible exact H2_) | (have H2_ := (Option.bind_some _ _).symm.trans H; with_reducible exact H2_) | with_reducible exact H | (rw [hy198]; exact H) | exact H
              have Ny198 := Aside0.mk hy198
              clear hy198
              have H' := Aside0.mk H
              clear H; have hnb58 := NB186_187.out; have hnc58 := NB187_186.out; have hnb59 := NB186_191.out; have hnc59 := NB191_186.out; have hnb60 := NB186_192.out; have hnc60 := NB192_186.out; obtain ⟨hcz61_0, hcz61_1, hcz61_2, hcz61_3, hcz61_4, hfz61_0, hfz61_1, hfz61_2, hfz61_3, hfz61_4⟩ := bz5_ BK186
              have p193 : 0 ≤ (x10_2 : Int) := od_
              have q193 : x10_2 < (l0_4.length : Int) := od_
              obtain ⟨ad193, e193, hx193_0, hx193_1, hx193_2, hx193_3, hx193_4, hx193_5⟩ := at_T46 HR0_4.out x10_2 p193 q193
              cases e193
              replace hx193_0 := hb_ HB hx193_0
              replace hx193_1 := hb_ HB hx193_1
              replace hx193_2 := hb_ HB hx193_2
              replace hx193_3 := hb_ HB hx193_3
              replace hx193_4 := hb_ HB hx193_4
              replace hx193_5 := hb_ HB hx193_5
              replace p193 := eq_true p193
              replace q193 := eq_true q193
              have hnb62 := NB191_187.out; have hnc62 := NB187_191.out; have hnb63 := NB191_192.out; have hnc63 := NB192_191.out; obtain ⟨hcz64_0, hcz64_1, hcz64_2, hcz64_3, hcz64_4, hfz64_0, hfz64_1, hfz64_2, hfz64_3, hfz64_4⟩ := bz5_ BK191; have hnb65 := NB192_187.out; have hnc65 := NB187_192.out; obtain ⟨hcz66_0, hcz66_1, hcz66_2, hcz66_3, hcz66_4, hcz66_5, hfz66_0, hfz66_1, hfz66_2, hfz66_3, hfz66_4, hfz66_5⟩ := bz6_ BK192
              try go_wp2_with (first | ((with_reducible refine gate_builtin (b := .append) (xs := #[.tmp 77, .tmp 79]) rfl ?_); at_builtin; refine Kd.R_append k46 (w0 := w) w.heap.size rfl (.tmp 77) (.tmp 79) 29 46 (.agg #[(.int .i64 0), (.int .i64 0), (.bool false), (.int .i64 0), (.int .i64 0), (.int .i64 0)]) 48 rfl Try.underlying29 info46 rfl (by decide) (by omega) u192004 x192004_2 (⟨a1, a2, false, (⟨0, 0, 0⟩ : S28)⟩ : S46) [.int .i64 a1, .int .i64 a2, .bool false, .int .i64 0, .int .i64 0, .int .i64 0] (fun k_ => k_ ≠ gb192) (fun _ => False) rfl rfl ?aP (fun _ hk => by first | exact hk.elim | grind) ?aF ?aO ?aB ?aS ?aL ?_; (case aP => exact k46_mkM _ _ _ (⟨a1, a2, false, (⟨0, 0, 0⟩ : S28)⟩ : S46)); (case aB => exact (bf_ HB)); (case aF => exact (fun k_ hk => by first | exact Kd.freshB (g := gb192) (o := .cells #[.int .i64 a1, .int .i64 a2, .bool false, .int .i64 0, .int .i64 0, .int .i64 0] 46 (0, 0)) (bk_ BK192) k_ hk | grind)); (case aO => exact (kr_ HO_192004)); (case aS => exact (below_size (bf_ HB))); (case aL => have := LMc56.out; omega); intro v195 w67 ho hb hg hat; rw [← Ny194.out] at ho; replace BK186 := Aside0.mk (blk_grown (g := gb186) (o := .cells #[.int .i64 a0_0, .int .i64 a0_1, .int .i64 a0_2, .int .i64 a0_3, .slice (some ad193) l0_4.length c0_4] 31 (0, 0)) (bk_ BK186) hg (Kd.R_ne HO_192004.out BK186.out (by decide))); replace BK187 := Aside0.mk (blk_grown (g := gb187) (o := .cells #[.int .i64 0, .int .i64 0, .int .i64 0, .int .i64 0, .slice none 0 0] 31 (0, 0)) (bk_ BK187) hg (Kd.R_ne HO_192004.out BK187.out (by decide))); replace BK191 := Aside0.mk (blk_grown (g := gb191) (o := .cells #[.int .i64 a0_0, .int .i64 a0_1, .int .i64 a0_2, .int .i64 a0_3, u192004] 31 (0, 0)) (bk_ BK191) hg (Kd.R_ne HO_192004.out BK191.out (by decide))); replace BK192 := Aside0.mk (blk_grown (g := gb192) (o := .cells #[.int .i64 a1, .int .i64 a2, .bool false, .int .i64 0, .int .i64 0, .int .i64 0] 46 (0, 0)) (bk_ BK192) hg (Kd.R_away HO_192004.out (fun _ hk => by first | exact hk | grind))); replace HB := Aside0.mk (hb); have HO196 := Aside0.mk (ho); clear HO_192004 ho hb hg hat; obtain ⟨Ao68, co68, eo68⟩ := Kd.R_slice HO196.out; subst eo68; obtain ⟨hcz69_0, hcz69_1, hcz69_2, hcz69_3, hcz69_4, hfz69_0, hfz69_1, hfz69_2, hfz69_3, hfz69_4⟩ := bz5_ BK191))
              generalize hW_ : (w67.setCell ⟨gb191, 4, none⟩ (.slice Ao68 y194.length co68)) = w70
              replace HO196 : Aside0 (Kd.R k46 46 w70 w.heap.size (fun k_ => k_ ≠ gb192) (.slice Ao68 y194.length co68) y194) := ⟨by cases hW_; (with_reducible repeat (first | apply Kd.R_alloc | apply Kd.R_drewN | apply Kd.R_drew)); exact Kd.R_mono (Kd.R_far (p := ⟨gb191, 4, none⟩) (Kd.R_types HO196.out BK191.out (by decide)) (fun _ hk => by first | exact hk.2 | grind) (.slice Ao68 y194.length co68)) (fun _ hk => by first | exact hk.1 | grind)⟩
              replace BK186 := fc1_ hW_ BK186 NB186_191
              replace BK187 := fc1_ hW_ BK187 NB187_191
              replace BK191 : Aside0 (w70.heap[gb191]? = some (.cells #[.int .i64 a0_0, .int .i64 a0_1, .int .i64 a0_2, .int .i64 a0_3, .slice Ao68 y194.length co68] 31 (0, 0))) := pc1_ hW_ BK191
              replace BK192 := fc1_ hW_ BK192 NB192_191
              replace HB : Aside0 (Below w.heap.size w w70) := ⟨by cases hW_; exact bf_ HB⟩
              clear hW_; replace HO196 := Aside0.mk (Kd.R_drew HO196.out); replace BK186 := Aside0.mk (blk_drew BK186.out); replace BK187 := Aside0.mk (blk_drew BK187.out); replace BK191 := Aside0.mk (blk_drew BK191.out); replace BK192 := Aside0.mk (blk_drew BK192.out); replace HB := Aside0.mk (below_drew1 HB.out)
              have p197 : 0 ≤ (x10_2 : Int) := od_
              have q197 : x10_2 < (l0_4.length : Int) := od_
              obtain ⟨ad197, e197, hx197_0, hx197_1, hx197_2, hx197_3, hx197_4, hx197_5⟩ := at_T46 HR0_4.out x10_2 p197 q197
              have hw197_5 := hx197_5; have hw197_4 := hx197_4; have hw197_3 := hx197_3; have hw197_2 := hx197_2; have hw197_1 := hx197_1; have hw197_0 := hx197_0
              obtain rfl : ad193 = ad197 := (by injection e197)
              replace hx197_0 := hb_ HB hx197_0
              replace hx197_1 := hb_ HB hx197_1
              replace hx197_2 := hb_ HB hx197_2
              replace hx197_3 := hb_ HB hx197_3
              replace hx197_4 := hb_ HB hx197_4
              replace hx197_5 := hb_ HB hx197_5
              replace p197 := eq_true p197
              replace q197 := eq_true q197
              refine start_ (n := 11) (S := fun w' => cw_ w' gb191 0 (.int .i64 a0_0) ∧ cw_ w' gb191 1 (.int .i64 a0_1) ∧ cw_ w' gb191 2 (.int .i64 a0_2) ∧ cw_ w' gb191 3 (.int .i64 a0_3) ∧ cw_ w' gb191 4 (.slice Ao68 y194.length co68) ∧ cw_ w' gb186 0 (.int .i64 a0_0) ∧ cw_ w' gb186 1 (.int .i64 a0_1) ∧ cw_ w' gb186 2 (.int .i64 a0_2) ∧ cw_ w' gb186 3 (.int .i64 a0_3) ∧ cw_ w' gb186 4 (.slice (some ad193) l0_4.length c0_4) ∧ w'.cell? (ad193.add ((x10_2).toNat * 6)) = some (.int .i64 ((rd_T46 l0_4 x10_2).f0)) ∧ w'.cell? ⟨(ad193.add ((x10_2).toNat * 6)).block, (ad193.add ((x10_2).toNat * 6)).off + 1, none⟩ = some (.int .i64 ((rd_T46 l0_4 x10_2).f1)) ∧ w'.cell? ⟨(ad193.add ((x10_2).toNat * 6)).block, (ad193.add ((x10_2).toNat * 6)).off + 2, none⟩ = some (.bool ((rd_T46 l0_4 x10_2).f2)) ∧ w'.cell? ⟨(ad193.add ((x10_2).toNat * 6)).block, (ad193.add ((x10_2).toNat * 6)).off + 3, none⟩ = some (.int .i64 ((rd_T46 l0_4 x10_2).f3.f0)) ∧ w'.cell? ⟨(ad193.add ((x10_2).toNat * 6)).block, (ad193.add ((x10_2).toNat * 6)).off + 4, none⟩ = some (.int .i64 ((rd_T46 l0_4 x10_2).f3.f1)) ∧ w'.cell? ⟨(ad193.add ((x10_2).toNat * 6)).block, (ad193.add ((x10_2).toNat * 6)).off + 5, none⟩ = some (.int .i64 ((rd_T46 l0_4 x10_2).f3.f2))) (ds := [10]) (bs 11 0) (by kernel_rfl) rfl rfl ⟨bt_ BK191 0, bt_ BK191 1, bt_ BK191 2, bt_ BK191 3, bt_ BK191 4, bt_ BK186 0, bt_ BK186 1, bt_ BK186 2, bt_ BK186 3, bt_ BK186 4, (hd_ HB hw197_0), (hd_ HB hw197_1), (hd_ HB hw197_2), (hd_ HB hw197_3), (hd_ HB hw197_4), (hd_ HB hw197_5)⟩ (fun hHeld => ?_); refine with_tabW spec_FairJoin.tab14 spec_FairJoin.bits14 (fun HT_ HW_ => ?_)
              generalize w70.drew = w71 at HO196 BK186 BK187 BK191 BK192 HB hx197_0 hx197_1 hx197_2 hx197_3 hx197_4 hx197_5 hHeld ⊢
              refine psn_ HT_ ?_
              refine ps_ 2 84 (bm 11 5) HT_ ?_
              refine ps_ 4 86 (bm 11 21) HT_ ?_
              refine tk_ 1 83 (bm 11 23) HT_ HW_ hHeld ?_
              refine tk_ 3 85 (bs 11 5) HT_ HW_ hHeld ?_
              refine psn_ HT_ ?_
              refine tkn_ HT_ HW_ hHeld ?_
              refine on_ 7 (some 89) (bs 11 8) HT_ (fun K hK => ?_)
              refine value_ (w1 := ?_) (v := ?_) (by rfl) rfl ?_ ?_
              rotate_left 2
              ·go_simp
               constructor
               ·rfl
               ·rfl
              refine hK.out _ _ ⟨(blk_cell (blk_alloc BK191.out _) 0).trans rfl, (blk_cell (blk_alloc BK191.out _) 1).trans rfl, (blk_cell (blk_alloc BK191.out _) 2).trans rfl, (blk_cell (blk_alloc BK191.out _) 3).trans rfl, (blk_cell (blk_alloc BK191.out _) 4).trans rfl, (blk_cell (blk_alloc BK186.out _) 0).trans rfl, (blk_cell (blk_alloc BK186.out _) 1).trans rfl, (blk_cell (blk_alloc BK186.out _) 2).trans rfl, (blk_cell (blk_alloc BK186.out _) 3).trans rfl, (blk_cell (blk_alloc BK186.out _) 4).trans rfl, (World.cell?_alloc_lt _ _ _ (World.block_lt_of_cell? _ _ ((hd_ HB hw197_0)))).trans ((hd_ HB hw197_0)), (World.cell?_alloc_lt _ _ _ (World.block_lt_of_cell? _ _ ((hd_ HB hw197_1)))).trans ((hd_ HB hw197_1)), (World.cell?_alloc_lt _ _ _ (World.block_lt_of_cell? _ _ ((hd_ HB hw197_2)))).trans ((hd_ HB hw197_2)), (World.cell?_alloc_lt _ _ _ (World.block_lt_of_cell? _ _ ((hd_ HB hw197_3)))).trans ((hd_ HB hw197_3)), (World.cell?_alloc_lt _ _ _ (World.block_lt_of_cell? _ _ ((hd_ HB hw197_4)))).trans ((hd_ HB hw197_4)), (World.cell?_alloc_lt _ _ _ (World.block_lt_of_cell? _ _ ((hd_ HB hw197_5)))).trans ((hd_ HB hw197_5))⟩ (fun hHeld => ?_)
              clear hK K
              refine norm_ (a' := ?_) ?_ ?_
              rotate_left
              ·show Act.put _ (some 89) _ = _
               simp only [Act.put, ls0_, ls1_, ls2_, i64_w, i32_w]
               rfl
              refine on_ 8 (some 90) (bs 11 9) HT_ (fun K hK => ?_)
              refine Kd.R_append_step k46 (w0 := w) w.heap.size (by rfl) (.tmp 83) (.tmp 89) 29 46 (.agg #[(.int .i64 0), (.int .i64 0), (.bool false), (.int .i64 0), (.int .i64 0), (.int .i64 0)]) 48 rfl Try.underlying29 info46 rfl (by decide) (by omega) (.slice Ao68 y194.length co68) y194 (⟨(rd_T46 l0_4 x10_2).f0, (rd_T46 l0_4 x10_2).f1, (rd_T46 l0_4 x10_2).f2, (⟨(rd_T46 l0_4 x10_2).f3.f0, (rd_T46 l0_4 x10_2).f3.f1, (rd_T46 l0_4 x10_2).f3.f2⟩ : S28)⟩ : S46) [.int .i64 ((rd_T46 l0_4 x10_2).f0), .int .i64 ((rd_T46 l0_4 x10_2).f1), .bool ((rd_T46 l0_4 x10_2).f2), .int .i64 ((rd_T46 l0_4 x10_2).f3.f0), .int .i64 ((rd_T46 l0_4 x10_2).f3.f1), .int .i64 ((rd_T46 l0_4 x10_2).f3.f2)] (fun k_ => k_ ≠ gb192) (fun _ => False) rfl rfl ?aP (fun _ hk => by first | exact hk.elim | grind) ?aF ?aO ?aB ?aS ?aL ?_
              (case aP => exact k46_mkM _ _ _ (⟨(rd_T46 l0_4 x10_2).f0, (rd_T46 l0_4 x10_2).f1, (rd_T46 l0_4 x10_2).f2, (⟨(rd_T46 l0_4 x10_2).f3.f0, (rd_T46 l0_4 x10_2).f3.f1, (rd_T46 l0_4 x10_2).f3.f2⟩ : S28)⟩ : S46))
              (case aB => exact (bf_ HB))
              (case aF => exact (fun k_ hk => by first | exact Kd.freshB (g := gb192) (o := .cells #[.int .i64 a1, .int .i64 a2, .bool false, .int .i64 0, .int .i64 0, .int .i64 0] 46 (0, 0)) (bk_ BK192) k_ hk | grind))
              (case aO => exact (kr_ HO196))
              (case aS => exact (below_size (bf_ HB)))
              (case aL => have := LMc57.out; omega)
              intro v199 w72 ho hb hg hat
              rw [← Ny198.out] at ho
              have n0_ := Aside0.mk (blk_grown (g := gb186) (o := .cells #[.int .i64 a0_0, .int .i64 a0_1, .int .i64 a0_2, .int .i64 a0_3, .slice (some ad193) l0_4.length c0_4] 31 (0, 0)) (bk_ BK186) hg (Kd.R_ne HO196.out BK186.out (by decide)))
              have n1_ := Aside0.mk (blk_grown (g := gb187) (o := .cells #[.int .i64 0, .int .i64 0, .int .i64 0, .int .i64 0, .slice none 0 0] 31 (0, 0)) (bk_ BK187) hg (Kd.R_ne HO196.out BK187.out (by decide)))
              have n2_ := Aside0.mk (blk_grown (g := gb191) (o := .cells #[.int .i64 a0_0, .int .i64 a0_1, .int .i64 a0_2, .int .i64 a0_3, .slice Ao68 y194.length co68] 31 (0, 0)) (bk_ BK191) hg (Kd.R_ne HO196.out BK191.out (by decide)))
              have n3_ := Aside0.mk (blk_grown (g := gb192) (o := .cells #[.int .i64 a1, .int .i64 a2, .bool false, .int .i64 0, .int .i64 0, .int .i64 0] 46 (0, 0)) (bk_ BK192) hg (Kd.R_away HO196.out (fun _ hk => by first | exact hk | grind)))
              have n4_ := Aside0.mk (hb); have n5_ := Aside0.mk (ho); clear BK186 BK187 BK191 BK192 HB HO196; have BK186 := n0_; have BK187 := n1_; have BK191 := n2_; have BK192 := n3_; have HB := n4_; have HO200 := n5_; clear n0_ n1_ n2_ n3_ n4_ n5_ ho hb hg hat
              obtain ⟨Ao73, co73, eo73⟩ := Kd.R_slice HO200.out
              (first | subst eo73 | (injection eo73 with f1_ f2_ f3_; have f4_ := f1_.symm; have f5_ := f3_.symm; clear f1_ f2_ f3_; subst f4_; subst f5_))
              refine hK.out _ _ ⟨bt_ BK191 0, bt_ BK191 1, bt_ BK191 2, bt_ BK191 3, bt_ BK191 4, bt_ BK186 0, bt_ BK186 1, bt_ BK186 2, bt_ BK186 3, bt_ BK186 4, (hd_ HB hw197_0), (hd_ HB hw197_1), (hd_ HB hw197_2), (hd_ HB hw197_3), (hd_ HB hw197_4), (hd_ HB hw197_5)⟩ (fun hHeld => ?_)
              clear hK K
              refine norm_ (a' := ?_) ?_ ?_
              rotate_left
              ·show Act.put _ (some 90) _ = _
               simp only [Act.put, ls0_, ls1_, ls2_, i64_w, i32_w]
               rfl
              refine psn_ HT_ ?_
              refine last_ (i := 10) (N := none) (bs 11 11) rfl rfl (one_of HT_.out (by kernel_rfl)) (by decide) (fun K hK => ?_)
              have hs74 := bc_ BK191 4 (.slice Ao68 y194.length co68) rfl; have hfs74 := blk_frozen BK191.out 4; have hns74_0 := NB186_191.out; have hns74_1 := NB187_191.out; have hns74_3 := NB192_191.out; have hms74_0 := NB191_186.out; have hms74_1 := NB191_187.out; have hms74_3 := NB191_192.out
              refine skip_ (w1 := ?_) (by rfl) rfl ?_ ?_
              rotate_left
              ·go_simp
               rfl
              refine hK.out _ _ ?_
              clear hK K
              refine done_ (done_of HT_.out (by kernel_rfl)) ?_
              try go_wp2
              go_roundg k2
              case measure => have := HJ3.out; have := HK2.out; omega
              case rel => exact ⟨(wrap64 (x10_2 + 1)), (y198), (.slice Ao73 y198.length co73), (by first | rfl | (simp; done) | (simp [*]; done)), H', ⟨by have := HJ3.out; have := HK2.out; omega⟩, ⟨by (with_reducible repeat (first | apply Kd.R_alloc | apply Kd.R_drewN | apply Kd.R_drew)); exact Kd.R_mono (Kd.R_far (p := ⟨gb191, 4, none⟩) (Kd.R_types HO200.out BK191.out (by decide)) (fun _ hk => by first | exact hk.2 | grind) (.slice Ao73 y198.length co73)) (fun _ hk => by first | exact hk.1 | grind)⟩, ⟨by (with_reducible repeat (first | refine blk_drewN ?_ _ | refine blk_drew ?_ | refine blk_alloc ?_ _)); refine blk_far ?_ NB186_191.out _; exact bk_ BK186⟩, ⟨by (with_reducible repeat (first | refine blk_drewN ?_ _ | refine blk_drew ?_ | refine blk_alloc ?_ _)); refine blk_far ?_ NB187_191.out _; exact bk_ BK187⟩, ⟨by (with_reducible repeat (first | refine blk_drewN ?_ _ | refine blk_drew ?_ | refine blk_alloc ?_ _)); refine blk_put (cs := #[.int .i64 a0_0, .int .i64 a0_1, .int .i64 a0_2, .int .i64 a0_3, .slice Ao68 y194.length co68]) ?_ 4 _ rfl; exact bk_ BK191⟩, ⟨by (with_reducible repeat (first | refine blk_drewN ?_ _ | refine blk_drew ?_ | refine blk_alloc ?_ _)); refine blk_far ?_ NB192_191.out _; exact bk_ BK192⟩, ⟨bf_ HB⟩⟩
             ·rw [if_neg c57] at H
              exact absurd H (by simp)
            ·rw [if_neg c56] at H
             exact absurd H (by simp)
           ·rw [if_neg c55] at H
            have c55b0 : (x10_2 == 0) = false := beq_eq_false_iff_ne.mpr c55
            have c55b1 : (x10_2 != 0) = true := bne_iff_ne.mpr c55
            obtain ⟨ji75, hji75⟩ : ∃ j_ : Int, (wrap64 (x10_2 - 1)) = j_ := ⟨_, rfl⟩
            replace H : (if 0 ≤ (ji75) then (if (ji75) < (l0_4.length : Int) then (if ((rd_T46 l0_4 (ji75)).f0) < a1 then (if x192004_2.length < 2932031007402 then ((some (x192004_2 ++ [(⟨a1, a2, false, (⟨0, 0, 0⟩ : S28)⟩ : S46)] : List (S46))).bind fun y202 => (if y202.length < 2932031007402 then (spec_FairJoin.l0 k2 a1 (wrap64 (x10_2 + 1)) a0_0 a0_1 a0_2 a0_3 l0_4 a0_0 a0_1 a0_2 a0_3 (y202 ++ [(⟨(rd_T46 l0_4 x10_2).f0, (rd_T46 l0_4 x10_2).f1, (rd_T46 l0_4 x10_2).f2, (⟨(rd_T46 l0_4 x10_2).f3.f0, (rd_T46 l0_4 x10_2).f3.f1, (rd_T46 l0_4 x10_2).f3.f2⟩ : S28)⟩ : S46)]) a1 a2 false 0 0 0) else (none))) else (none)) else (if x192004_2.length < 2932031007402 then (spec_FairJoin.l0 k2 a1 (wrap64 (x10_2 + 1)) a0_0 a0_1 a0_2 a0_3 l0_4 a0_0 a0_1 a0_2 a0_3 (x192004_2 ++ [(⟨(rd_T46 l0_4 x10_2).f0, (rd_T46 l0_4 x10_2).f1, (rd_T46 l0_4 x10_2).f2, (⟨(rd_T46 l0_4 x10_2).f3.f0, (rd_T46 l0_4 x10_2).f3.f1, (rd_T46 l0_4 x10_2).f3.f2⟩ : S28)⟩ : S46)]) a1 a2 false 0 0 0) else (none))) else (none)) else (none)) = some (r1, r2, r3, r4, r5, r6) := by first | (rw [hji75] at H; exact H) | (simp only [hji75] at H ⊢; exact H)
            have hji75w : (IntKind.i64.wrap (x10_2 - 1)) = ji75 := (i64_w _).trans hji75
            by_cases c76 : 0 ≤ (ji75)
            ·rw [if_pos c76] at H
             have c76b0 : decide (0 ≤ (ji75)) = true := decide_eq_true c76
             clear c76
             by_cases c77 : (ji75) < (l0_4.length : Int)
             ·rw [if_pos c77] at H
              have c77b0 : decide ((ji75) < (l0_4.length : Int)) = true := decide_eq_true c77
              clear c77
              by_cases c78 : ((rd_T46 l0_4 (ji75)).f0) < a1
              ·rw [if_pos c78] at H
               have c78b0 : decide (((rd_T46 l0_4 (ji75)).f0) < a1) = true := decide_eq_true c78
               clear c78
               by_cases c79 : x192004_2.length < 2932031007402
               ·rw [if_pos c79] at H
                have LMc79 := Aside0.mk c79
                clear c79
                obtain ⟨y202, hy202⟩ : ∃ y_ : List (S46), y_ = (x192004_2 ++ [(⟨a1, a2, false, (⟨0, 0, 0⟩ : S28)⟩ : S46)]) := ⟨_, rfl⟩
                replace H : (if y202.length < 2932031007402 then (spec_FairJoin.l0 k2 a1 (wrap64 (x10_2 + 1)) a0_0 a0_1 a0_2 a0_3 l0_4 a0_0 a0_1 a0_2 a0_3 (y202 ++ [(⟨(rd_T46 l0_4 x10_2).f0, (rd_T46 l0_4 x10_2).f1, (rd_T46 l0_4 x10_2).f2, (⟨(rd_T46 l0_4 x10_2).f3.f0, (rd_T46 l0_4 x10_2).f3.f1, (rd_T46 l0_4 x10_2).f3.f2⟩ : S28)⟩ : S46)]) a1 a2 false 0 0 0) else (none)) = some (r1, r2, r3, r4, r5, r6) := by first | (rw [hy202]; with_reducible exact H) | (have H2_ := (Option.bind_some _ _).symm.trans H; rw [hy202]; with_reducible exact H2_) | (have H2_ := (Option.bind_some _ _).symm.trans H; with_reducible exact H2_) | with_reducible exact H | (rw [hy202]; exact H) | exact H
                have Ny202 := Aside0.mk hy202
                clear hy202
                by_cases c80 : y202.length < 2932031007402
                ·rw [if_pos c80] at H
                 have LMc80 := Aside0.mk c80
                 clear c80
                 obtain ⟨y206, hy206⟩ : ∃ y_ : List (S46), y_ = (y202 ++ [(⟨(rd_T46 l0_4 x10_2).f0, (rd_T46 l0_4 x10_2).f1, (rd_T46 l0_4 x10_2).f2, (⟨(rd_T46 l0_4 x10_2).f3.f0, (rd_T46 l0_4 x10_2).f3.f1, (rd_T46 l0_4 x10_2).f3.f2⟩ : S28)⟩ : S46)]) := ⟨_, rfl⟩
                 replace H : (spec_FairJoin.l0 k2 a1 (wrap64 (x10_2 + 1)) a0_0 a0_1 a0_2 a0_3 l0_4 a0_0 a0_1 a0_2 a0_3 y206 a1 a2 false 0 0 0) = some (r1, r2, r3, r4, r5, r6) := by first | (rw [hy206]; with_reducible exact H) | (have H2_ := (Option.bind_some _ _).symm.trans H; rw [hy206]; with_reducible exact H2_) | (have H2_ := (Option.bind_some _ _).symm.trans H; with_reducible exact H2_) | with_reducible exact H | (rw [hy206]; exact H) | exact H
                 have Ny206 := Aside0.mk hy206
                 clear hy206
                 have H' := Aside0.mk H
                 clear H; have hnb81 := NB186_187.out; have hnc81 := NB187_186.out; have hnb82 := NB186_191.out; have hnc82 := NB191_186.out; have hnb83 := NB186_192.out; have hnc83 := NB192_186.out; obtain ⟨hcz84_0, hcz84_1, hcz84_2, hcz84_3, hcz84_4, hfz84_0, hfz84_1, hfz84_2, hfz84_3, hfz84_4⟩ := bz5_ BK186
                 have p193 : 0 ≤ (x10_2 : Int) := od_
                 have q193 : x10_2 < (l0_4.length : Int) := od_
                 obtain ⟨ad193, e193, hx193_0, hx193_1, hx193_2, hx193_3, hx193_4, hx193_5⟩ := at_T46 HR0_4.out x10_2 p193 q193
                 cases e193
                 replace hx193_0 := hb_ HB hx193_0
                 replace hx193_1 := hb_ HB hx193_1
                 replace hx193_2 := hb_ HB hx193_2
                 replace hx193_3 := hb_ HB hx193_3
                 replace hx193_4 := hb_ HB hx193_4
                 replace hx193_5 := hb_ HB hx193_5
                 replace p193 := eq_true p193
                 replace q193 := eq_true q193
                 have p201 : 0 ≤ ((ji75) : Int) := od_
                 have q201 : (ji75) < (l0_4.length : Int) := od_
                 obtain ⟨ad201, e201, hx201_0, hx201_1, hx201_2, hx201_3, hx201_4, hx201_5⟩ := at_T46 HR0_4.out (ji75) p201 q201
                 obtain rfl : ad193 = ad201 := (by injection e201)
                 replace hx201_0 := hb_ HB hx201_0
                 replace hx201_1 := hb_ HB hx201_1
                 replace hx201_2 := hb_ HB hx201_2
                 replace hx201_3 := hb_ HB hx201_3
                 replace hx201_4 := hb_ HB hx201_4
                 replace hx201_5 := hb_ HB hx201_5
                 replace p201 := eq_true p201
                 replace q201 := eq_true q201
                 have hnb85 := NB191_187.out; have hnc85 := NB187_191.out; have hnb86 := NB191_192.out; have hnc86 := NB192_191.out; obtain ⟨hcz87_0, hcz87_1, hcz87_2, hcz87_3, hcz87_4, hfz87_0, hfz87_1, hfz87_2, hfz87_3, hfz87_4⟩ := bz5_ BK191; have hnb88 := NB192_187.out; have hnc88 := NB187_192.out; obtain ⟨hcz89_0, hcz89_1, hcz89_2, hcz89_3, hcz89_4, hcz89_5, hfz89_0, hfz89_1, hfz89_2, hfz89_3, hfz89_4, hfz89_5⟩ := bz6_ BK192
                 try go_wp2_with (first | ((with_reducible refine gate_builtin (b := .append) (xs := #[.tmp 77, .tmp 79]) rfl ?_); at_builtin; refine Kd.R_append k46 (w0 := w) w.heap.size rfl (.tmp 77) (.tmp 79) 29 46 (.agg #[(.int .i64 0), (.int .i64 0), (.bool false), (.int .i64 0), (.int .i64 0), (.int .i64 0)]) 48 rfl Try.underlying29 info46 rfl (by decide) (by omega) u192004 x192004_2 (⟨a1, a2, false, (⟨0, 0, 0⟩ : S28)⟩ : S46) [.int .i64 a1, .int .i64 a2, .bool false, .int .i64 0, .int .i64 0, .int .i64 0] (fun k_ => k_ ≠ gb192) (fun _ => False) rfl rfl ?aP (fun _ hk => by first | exact hk.elim | grind) ?aF ?aO ?aB ?aS ?aL ?_; (case aP => exact k46_mkM _ _ _ (⟨a1, a2, false, (⟨0, 0, 0⟩ : S28)⟩ : S46)); (case aB => exact (bf_ HB)); (case aF => exact (fun k_ hk => by first | exact Kd.freshB (g := gb192) (o := .cells #[.int .i64 a1, .int .i64 a2, .bool false, .int .i64 0, .int .i64 0, .int .i64 0] 46 (0, 0)) (bk_ BK192) k_ hk | grind)); (case aO => exact (kr_ HO_192004)); (case aS => exact (below_size (bf_ HB))); (case aL => have := LMc79.out; omega); intro v203 w90 ho hb hg hat; rw [← Ny202.out] at ho; replace BK186 := Aside0.mk (blk_grown (g := gb186) (o := .cells #[.int .i64 a0_0, .int .i64 a0_1, .int .i64 a0_2, .int .i64 a0_3, .slice (some ad193) l0_4.length c0_4] 31 (0, 0)) (bk_ BK186) hg (Kd.R_ne HO_192004.out BK186.out (by decide))); replace BK187 := Aside0.mk (blk_grown (g := gb187) (o := .cells #[.int .i64 0, .int .i64 0, .int .i64 0, .int .i64 0, .slice none 0 0] 31 (0, 0)) (bk_ BK187) hg (Kd.R_ne HO_192004.out BK187.out (by decide))); replace BK191 := Aside0.mk (blk_grown (g := gb191) (o := .cells #[.int .i64 a0_0, .int .i64 a0_1, .int .i64 a0_2, .int .i64 a0_3, u192004] 31 (0, 0)) (bk_ BK191) hg (Kd.R_ne HO_192004.out BK191.out (by decide))); replace BK192 := Aside0.mk (blk_grown (g := gb192) (o := .cells #[.int .i64 a1, .int .i64 a2, .bool false, .int .i64 0, .int .i64 0, .int .i64 0] 46 (0, 0)) (bk_ BK192) hg (Kd.R_away HO_192004.out (fun _ hk => by first | exact hk | grind))); replace HB := Aside0.mk (hb); have HO204 := Aside0.mk (ho); clear HO_192004 ho hb hg hat; obtain ⟨Ao91, co91, eo91⟩ := Kd.R_slice HO204.out; subst eo91; obtain ⟨hcz92_0, hcz92_1, hcz92_2, hcz92_3, hcz92_4, hfz92_0, hfz92_1, hfz92_2, hfz92_3, hfz92_4⟩ := bz5_ BK191))
                 generalize hW_ : (w90.setCell ⟨gb191, 4, none⟩ (.slice Ao91 y202.length co91)) = w93
                 replace HO204 : Aside0 (Kd.R k46 46 w93 w.heap.size (fun k_ => k_ ≠ gb192) (.slice Ao91 y202.length co91) y202) := ⟨by cases hW_; (with_reducible repeat (first | apply Kd.R_alloc | apply Kd.R_drewN | apply Kd.R_drew)); exact Kd.R_mono (Kd.R_far (p := ⟨gb191, 4, none⟩) (Kd.R_types HO204.out BK191.out (by decide)) (fun _ hk => by first | exact hk.2 | grind) (.slice Ao91 y202.length co91)) (fun _ hk => by first | exact hk.1 | grind)⟩
                 replace BK186 := fc1_ hW_ BK186 NB186_191
                 replace BK187 := fc1_ hW_ BK187 NB187_191
                 replace BK191 : Aside0 (w93.heap[gb191]? = some (.cells #[.int .i64 a0_0, .int .i64 a0_1, .int .i64 a0_2, .int .i64 a0_3, .slice Ao91 y202.length co91] 31 (0, 0))) := pc1_ hW_ BK191
                 replace BK192 := fc1_ hW_ BK192 NB192_191
                 replace HB : Aside0 (Below w.heap.size w w93) := ⟨by cases hW_; exact bf_ HB⟩
                 clear hW_; replace HO204 := Aside0.mk (Kd.R_drew HO204.out); replace BK186 := Aside0.mk (blk_drew BK186.out); replace BK187 := Aside0.mk (blk_drew BK187.out); replace BK191 := Aside0.mk (blk_drew BK191.out); replace BK192 := Aside0.mk (blk_drew BK192.out); replace HB := Aside0.mk (below_drew1 HB.out)
                 have p205 : 0 ≤ (x10_2 : Int) := od_
                 have q205 : x10_2 < (l0_4.length : Int) := od_
                 obtain ⟨ad205, e205, hx205_0, hx205_1, hx205_2, hx205_3, hx205_4, hx205_5⟩ := at_T46 HR0_4.out x10_2 p205 q205
                 have hw205_5 := hx205_5; have hw205_4 := hx205_4; have hw205_3 := hx205_3; have hw205_2 := hx205_2; have hw205_1 := hx205_1; have hw205_0 := hx205_0
                 obtain rfl : ad193 = ad205 := (by injection e205)
                 replace hx205_0 := hb_ HB hx205_0
                 replace hx205_1 := hb_ HB hx205_1
                 replace hx205_2 := hb_ HB hx205_2
                 replace hx205_3 := hb_ HB hx205_3
                 replace hx205_4 := hb_ HB hx205_4
                 replace hx205_5 := hb_ HB hx205_5
                 replace p205 := eq_true p205
                 replace q205 := eq_true q205
                 refine start_ (n := 11) (S := fun w' => cw_ w' gb191 0 (.int .i64 a0_0) ∧ cw_ w' gb191 1 (.int .i64 a0_1) ∧ cw_ w' gb191 2 (.int .i64 a0_2) ∧ cw_ w' gb191 3 (.int .i64 a0_3) ∧ cw_ w' gb191 4 (.slice Ao91 y202.length co91) ∧ cw_ w' gb186 0 (.int .i64 a0_0) ∧ cw_ w' gb186 1 (.int .i64 a0_1) ∧ cw_ w' gb186 2 (.int .i64 a0_2) ∧ cw_ w' gb186 3 (.int .i64 a0_3) ∧ cw_ w' gb186 4 (.slice (some ad193) l0_4.length c0_4) ∧ w'.cell? (ad193.add ((x10_2).toNat * 6)) = some (.int .i64 ((rd_T46 l0_4 x10_2).f0)) ∧ w'.cell? ⟨(ad193.add ((x10_2).toNat * 6)).block, (ad193.add ((x10_2).toNat * 6)).off + 1, none⟩ = some (.int .i64 ((rd_T46 l0_4 x10_2).f1)) ∧ w'.cell? ⟨(ad193.add ((x10_2).toNat * 6)).block, (ad193.add ((x10_2).toNat * 6)).off + 2, none⟩ = some (.bool ((rd_T46 l0_4 x10_2).f2)) ∧ w'.cell? ⟨(ad193.add ((x10_2).toNat * 6)).block, (ad193.add ((x10_2).toNat * 6)).off + 3, none⟩ = some (.int .i64 ((rd_T46 l0_4 x10_2).f3.f0)) ∧ w'.cell? ⟨(ad193.add ((x10_2).toNat * 6)).block, (ad193.add ((x10_2).toNat * 6)).off + 4, none⟩ = some (.int .i64 ((rd_T46 l0_4 x10_2).f3.f1)) ∧ w'.cell? ⟨(ad193.add ((x10_2).toNat * 6)).block, (ad193.add ((x10_2).toNat * 6)).off + 5, none⟩ = some (.int .i64 ((rd_T46 l0_4 x10_2).f3.f2))) (ds := [10]) (bs 11 0) (by kernel_rfl) rfl rfl ⟨bt_ BK191 0, bt_ BK191 1, bt_ BK191 2, bt_ BK191 3, bt_ BK191 4, bt_ BK186 0, bt_ BK186 1, bt_ BK186 2, bt_ BK186 3, bt_ BK186 4, (hd_ HB hw205_0), (hd_ HB hw205_1), (hd_ HB hw205_2), (hd_ HB hw205_3), (hd_ HB hw205_4), (hd_ HB hw205_5)⟩ (fun hHeld => ?_); refine with_tabW spec_FairJoin.tab14 spec_FairJoin.bits14 (fun HT_ HW_ => ?_)
                 generalize w93.drew = w94 at HO204 BK186 BK187 BK191 BK192 HB hx205_0 hx205_1 hx205_2 hx205_3 hx205_4 hx205_5 hHeld ⊢
                 refine psn_ HT_ ?_
                 refine ps_ 2 84 (bm 11 5) HT_ ?_
                 refine ps_ 4 86 (bm 11 21) HT_ ?_
                 refine tk_ 1 83 (bm 11 23) HT_ HW_ hHeld ?_
                 refine tk_ 3 85 (bs 11 5) HT_ HW_ hHeld ?_
                 refine psn_ HT_ ?_
                 refine tkn_ HT_ HW_ hHeld ?_
                 refine on_ 7 (some 89) (bs 11 8) HT_ (fun K hK => ?_)
                 refine value_ (w1 := ?_) (v := ?_) (by rfl) rfl ?_ ?_
                 rotate_left 2
                 ·go_simp
                  constructor
                  ·rfl
                  ·rfl
                 refine hK.out _ _ ⟨(blk_cell (blk_alloc BK191.out _) 0).trans rfl, (blk_cell (blk_alloc BK191.out _) 1).trans rfl, (blk_cell (blk_alloc BK191.out _) 2).trans rfl, (blk_cell (blk_alloc BK191.out _) 3).trans rfl, (blk_cell (blk_alloc BK191.out _) 4).trans rfl, (blk_cell (blk_alloc BK186.out _) 0).trans rfl, (blk_cell (blk_alloc BK186.out _) 1).trans rfl, (blk_cell (blk_alloc BK186.out _) 2).trans rfl, (blk_cell (blk_alloc BK186.out _) 3).trans rfl, (blk_cell (blk_alloc BK186.out _) 4).trans rfl, (World.cell?_alloc_lt _ _ _ (World.block_lt_of_cell? _ _ ((hd_ HB hw205_0)))).trans ((hd_ HB hw205_0)), (World.cell?_alloc_lt _ _ _ (World.block_lt_of_cell? _ _ ((hd_ HB hw205_1)))).trans ((hd_ HB hw205_1)), (World.cell?_alloc_lt _ _ _ (World.block_lt_of_cell? _ _ ((hd_ HB hw205_2)))).trans ((hd_ HB hw205_2)), (World.cell?_alloc_lt _ _ _ (World.block_lt_of_cell? _ _ ((hd_ HB hw205_3)))).trans ((hd_ HB hw205_3)), (World.cell?_alloc_lt _ _ _ (World.block_lt_of_cell? _ _ ((hd_ HB hw205_4)))).trans ((hd_ HB hw205_4)), (World.cell?_alloc_lt _ _ _ (World.block_lt_of_cell? _ _ ((hd_ HB hw205_5)))).trans ((hd_ HB hw205_5))⟩ (fun hHeld => ?_)
                 clear hK K
                 refine norm_ (a' := ?_) ?_ ?_
                 rotate_left
                 ·show Act.put _ (some 89) _ = _
                  simp only [Act.put, ls0_, ls1_, ls2_, i64_w, i32_w]
                  rfl
                 refine on_ 8 (some 90) (bs 11 9) HT_ (fun K hK => ?_)
                 refine Kd.R_append_step k46 (w0 := w) w.heap.size (by rfl) (.tmp 83) (.tmp 89) 29 46 (.agg #[(.int .i64 0), (.int .i64 0), (.bool false), (.int .i64 0), (.int .i64 0), (.int .i64 0)]) 48 rfl Try.underlying29 info46 rfl (by decide) (by omega) (.slice Ao91 y202.length co91) y202 (⟨(rd_T46 l0_4 x10_2).f0, (rd_T46 l0_4 x10_2).f1, (rd_T46 l0_4 x10_2).f2, (⟨(rd_T46 l0_4 x10_2).f3.f0, (rd_T46 l0_4 x10_2).f3.f1, (rd_T46 l0_4 x10_2).f3.f2⟩ : S28)⟩ : S46) [.int .i64 ((rd_T46 l0_4 x10_2).f0), .int .i64 ((rd_T46 l0_4 x10_2).f1), .bool ((rd_T46 l0_4 x10_2).f2), .int .i64 ((rd_T46 l0_4 x10_2).f3.f0), .int .i64 ((rd_T46 l0_4 x10_2).f3.f1), .int .i64 ((rd_T46 l0_4 x10_2).f3.f2)] (fun k_ => k_ ≠ gb192) (fun _ => False) rfl rfl ?aP (fun _ hk => by first | exact hk.elim | grind) ?aF ?aO ?aB ?aS ?aL ?_
                 (case aP => exact k46_mkM _ _ _ (⟨(rd_T46 l0_4 x10_2).f0, (rd_T46 l0_4 x10_2).f1, (rd_T46 l0_4 x10_2).f2, (⟨(rd_T46 l0_4 x10_2).f3.f0, (rd_T46 l0_4 x10_2).f3.f1, (rd_T46 l0_4 x10_2).f3.f2⟩ : S28)⟩ : S46))
                 (case aB => exact (bf_ HB))
                 (case aF => exact (fun k_ hk => by first | exact Kd.freshB (g := gb192) (o := .cells #[.int .i64 a1, .int .i64 a2, .bool false, .int .i64 0, .int .i64 0, .int .i64 0] 46 (0, 0)) (bk_ BK192) k_ hk | grind))
                 (case aO => exact (kr_ HO204))
                 (case aS => exact (below_size (bf_ HB)))
                 (case aL => have := LMc80.out; omega)
                 intro v207 w95 ho hb hg hat
                 rw [← Ny206.out] at ho
                 have n0_ := Aside0.mk (blk_grown (g := gb186) (o := .cells #[.int .i64 a0_0, .int .i64 a0_1, .int .i64 a0_2, .int .i64 a0_3, .slice (some ad193) l0_4.length c0_4] 31 (0, 0)) (bk_ BK186) hg (Kd.R_ne HO204.out BK186.out (by decide)))
                 have n1_ := Aside0.mk (blk_grown (g := gb187) (o := .cells #[.int .i64 0, .int .i64 0, .int .i64 0, .int .i64 0, .slice none 0 0] 31 (0, 0)) (bk_ BK187) hg (Kd.R_ne HO204.out BK187.out (by decide)))
                 have n2_ := Aside0.mk (blk_grown (g := gb191) (o := .cells #[.int .i64 a0_0, .int .i64 a0_1, .int .i64 a0_2, .int .i64 a0_3, .slice Ao91 y202.length co91] 31 (0, 0)) (bk_ BK191) hg (Kd.R_ne HO204.out BK191.out (by decide)))
                 have n3_ := Aside0.mk (blk_grown (g := gb192) (o := .cells #[.int .i64 a1, .int .i64 a2, .bool false, .int .i64 0, .int .i64 0, .int .i64 0] 46 (0, 0)) (bk_ BK192) hg (Kd.R_away HO204.out (fun _ hk => by first | exact hk | grind)))
                 have n4_ := Aside0.mk (hb); have n5_ := Aside0.mk (ho); clear BK186 BK187 BK191 BK192 HB HO204; have BK186 := n0_; have BK187 := n1_; have BK191 := n2_; have BK192 := n3_; have HB := n4_; have HO208 := n5_; clear n0_ n1_ n2_ n3_ n4_ n5_ ho hb hg hat
                 obtain ⟨Ao96, co96, eo96⟩ := Kd.R_slice HO208.out
                 (first | subst eo96 | (injection eo96 with f1_ f2_ f3_; have f4_ := f1_.symm; have f5_ := f3_.symm; clear f1_ f2_ f3_; subst f4_; subst f5_))
                 refine hK.out _ _ ⟨bt_ BK191 0, bt_ BK191 1, bt_ BK191 2, bt_ BK191 3, bt_ BK191 4, bt_ BK186 0, bt_ BK186 1, bt_ BK186 2, bt_ BK186 3, bt_ BK186 4, (hd_ HB hw205_0), (hd_ HB hw205_1), (hd_ HB hw205_2), (hd_ HB hw205_3), (hd_ HB hw205_4), (hd_ HB hw205_5)⟩ (fun hHeld => ?_)
                 clear hK K
                 refine norm_ (a' := ?_) ?_ ?_
                 rotate_left
                 ·show Act.put _ (some 90) _ = _
                  simp only [Act.put, ls0_, ls1_, ls2_, i64_w, i32_w]
                  rfl
                 refine psn_ HT_ ?_
                 refine last_ (i := 10) (N := none) (bs 11 11) rfl rfl (one_of HT_.out (by kernel_rfl)) (by decide) (fun K hK => ?_)
                 have hs97 := bc_ BK191 4 (.slice Ao91 y202.length co91) rfl; have hfs97 := blk_frozen BK191.out 4; have hns97_0 := NB186_191.out; have hns97_1 := NB187_191.out; have hns97_3 := NB192_191.out; have hms97_0 := NB191_186.out; have hms97_1 := NB191_187.out; have hms97_3 := NB191_192.out
                 refine skip_ (w1 := ?_) (by rfl) rfl ?_ ?_
                 rotate_left
                 ·go_simp
                  rfl
                 refine hK.out _ _ ?_
                 clear hK K
                 refine done_ (done_of HT_.out (by kernel_rfl)) ?_
                 try go_wp2
                 go_roundg k2
                 case measure => have := HJ3.out; have := HK2.out; omega
                 case rel => exact ⟨(wrap64 (x10_2 + 1)), (y206), (.slice Ao96 y206.length co96), (by first | rfl | (simp; done) | (simp [*]; done)), H', ⟨by have := HJ3.out; have := HK2.out; omega⟩, ⟨by (with_reducible repeat (first | apply Kd.R_alloc | apply Kd.R_drewN | apply Kd.R_drew)); exact Kd.R_mono (Kd.R_far (p := ⟨gb191, 4, none⟩) (Kd.R_types HO208.out BK191.out (by decide)) (fun _ hk => by first | exact hk.2 | grind) (.slice Ao96 y206.length co96)) (fun _ hk => by first | exact hk.1 | grind)⟩, ⟨by (with_reducible repeat (first | refine blk_drewN ?_ _ | refine blk_drew ?_ | refine blk_alloc ?_ _)); refine blk_far ?_ NB186_191.out _; exact bk_ BK186⟩, ⟨by (with_reducible repeat (first | refine blk_drewN ?_ _ | refine blk_drew ?_ | refine blk_alloc ?_ _)); refine blk_far ?_ NB187_191.out _; exact bk_ BK187⟩, ⟨by (with_reducible repeat (first | refine blk_drewN ?_ _ | refine blk_drew ?_ | refine blk_alloc ?_ _)); refine blk_put (cs := #[.int .i64 a0_0, .int .i64 a0_1, .int .i64 a0_2, .int .i64 a0_3, .slice Ao91 y202.length co91]) ?_ 4 _ rfl; exact bk_ BK191⟩, ⟨by (with_reducible repeat (first | refine blk_drewN ?_ _ | refine blk_drew ?_ | refine blk_alloc ?_ _)); refine blk_far ?_ NB192_191.out _; exact bk_ BK192⟩, ⟨bf_ HB⟩⟩
                ·rw [if_neg c80] at H
                 exact absurd H (by simp)
               ·rw [if_neg c79] at H
                exact absurd H (by simp)
              ·rw [if_neg c78] at H
               have c78b0 : decide (((rd_T46 l0_4 (ji75)).f0) < a1) = false := decide_eq_false c78
               clear c78
               by_cases c98 : x192004_2.length < 2932031007402
               ·rw [if_pos c98] at H
                have LMc98 := Aside0.mk c98
                clear c98
                obtain ⟨y210, hy210⟩ : ∃ y_ : List (S46), y_ = (x192004_2 ++ [(⟨(rd_T46 l0_4 x10_2).f0, (rd_T46 l0_4 x10_2).f1, (rd_T46 l0_4 x10_2).f2, (⟨(rd_T46 l0_4 x10_2).f3.f0, (rd_T46 l0_4 x10_2).f3.f1, (rd_T46 l0_4 x10_2).f3.f2⟩ : S28)⟩ : S46)]) := ⟨_, rfl⟩
                replace H : (spec_FairJoin.l0 k2 a1 (wrap64 (x10_2 + 1)) a0_0 a0_1 a0_2 a0_3 l0_4 a0_0 a0_1 a0_2 a0_3 y210 a1 a2 false 0 0 0) = some (r1, r2, r3, r4, r5, r6) := by first | (rw [hy210]; with_reducible exact H) | (have H2_ := (Option.bind_some _ _).symm.trans H; rw [hy210]; with_reducible exact H2_) | (have H2_ := (Option.bind_some _ _).symm.trans H; with_reducible exact H2_) | with_reducible exact H | (rw [hy210]; exact H) | exact H
                have Ny210 := Aside0.mk hy210
                clear hy210
                have H' := Aside0.mk H
                clear H; have hnb99 := NB186_187.out; have hnc99 := NB187_186.out; have hnb100 := NB186_191.out; have hnc100 := NB191_186.out; have hnb101 := NB186_192.out; have hnc101 := NB192_186.out; obtain ⟨hcz102_0, hcz102_1, hcz102_2, hcz102_3, hcz102_4, hfz102_0, hfz102_1, hfz102_2, hfz102_3, hfz102_4⟩ := bz5_ BK186
                have p193 : 0 ≤ (x10_2 : Int) := od_
                have q193 : x10_2 < (l0_4.length : Int) := od_
                obtain ⟨ad193, e193, hx193_0, hx193_1, hx193_2, hx193_3, hx193_4, hx193_5⟩ := at_T46 HR0_4.out x10_2 p193 q193
                cases e193
                replace hx193_0 := hb_ HB hx193_0
                replace hx193_1 := hb_ HB hx193_1
                replace hx193_2 := hb_ HB hx193_2
                replace hx193_3 := hb_ HB hx193_3
                replace hx193_4 := hb_ HB hx193_4
                replace hx193_5 := hb_ HB hx193_5
                replace p193 := eq_true p193
                replace q193 := eq_true q193
                have p201 : 0 ≤ ((ji75) : Int) := od_
                have q201 : (ji75) < (l0_4.length : Int) := od_
                obtain ⟨ad201, e201, hx201_0, hx201_1, hx201_2, hx201_3, hx201_4, hx201_5⟩ := at_T46 HR0_4.out (ji75) p201 q201
                obtain rfl : ad193 = ad201 := (by injection e201)
                replace hx201_0 := hb_ HB hx201_0
                replace hx201_1 := hb_ HB hx201_1
                replace hx201_2 := hb_ HB hx201_2
                replace hx201_3 := hb_ HB hx201_3
                replace hx201_4 := hb_ HB hx201_4
                replace hx201_5 := hb_ HB hx201_5
                replace p201 := eq_true p201
                replace q201 := eq_true q201
                try go_wp2
                replace HO_192004 := Aside0.mk (Kd.R_drew HO_192004.out); replace BK186 := Aside0.mk (blk_drew BK186.out); replace BK187 := Aside0.mk (blk_drew BK187.out); replace BK191 := Aside0.mk (blk_drew BK191.out); replace BK192 := Aside0.mk (blk_drew BK192.out); replace HB := Aside0.mk (below_drew1 HB.out)
                have p209 : 0 ≤ (x10_2 : Int) := od_
                have q209 : x10_2 < (l0_4.length : Int) := od_
                obtain ⟨ad209, e209, hx209_0, hx209_1, hx209_2, hx209_3, hx209_4, hx209_5⟩ := at_T46 HR0_4.out x10_2 p209 q209
                have hw209_5 := hx209_5; have hw209_4 := hx209_4; have hw209_3 := hx209_3; have hw209_2 := hx209_2; have hw209_1 := hx209_1; have hw209_0 := hx209_0
                obtain rfl : ad193 = ad209 := (by injection e209)
                replace hx209_0 := hb_ HB hx209_0
                replace hx209_1 := hb_ HB hx209_1
                replace hx209_2 := hb_ HB hx209_2
                replace hx209_3 := hb_ HB hx209_3
                replace hx209_4 := hb_ HB hx209_4
                replace hx209_5 := hb_ HB hx209_5
                replace p209 := eq_true p209
                replace q209 := eq_true q209
                refine start_ (n := 11) (S := fun w' => cw_ w' gb191 0 (.int .i64 a0_0) ∧ cw_ w' gb191 1 (.int .i64 a0_1) ∧ cw_ w' gb191 2 (.int .i64 a0_2) ∧ cw_ w' gb191 3 (.int .i64 a0_3) ∧ cw_ w' gb191 4 (u192004) ∧ cw_ w' gb186 0 (.int .i64 a0_0) ∧ cw_ w' gb186 1 (.int .i64 a0_1) ∧ cw_ w' gb186 2 (.int .i64 a0_2) ∧ cw_ w' gb186 3 (.int .i64 a0_3) ∧ cw_ w' gb186 4 (.slice (some ad193) l0_4.length c0_4) ∧ w'.cell? (ad193.add ((x10_2).toNat * 6)) = some (.int .i64 ((rd_T46 l0_4 x10_2).f0)) ∧ w'.cell? ⟨(ad193.add ((x10_2).toNat * 6)).block, (ad193.add ((x10_2).toNat * 6)).off + 1, none⟩ = some (.int .i64 ((rd_T46 l0_4 x10_2).f1)) ∧ w'.cell? ⟨(ad193.add ((x10_2).toNat * 6)).block, (ad193.add ((x10_2).toNat * 6)).off + 2, none⟩ = some (.bool ((rd_T46 l0_4 x10_2).f2)) ∧ w'.cell? ⟨(ad193.add ((x10_2).toNat * 6)).block, (ad193.add ((x10_2).toNat * 6)).off + 3, none⟩ = some (.int .i64 ((rd_T46 l0_4 x10_2).f3.f0)) ∧ w'.cell? ⟨(ad193.add ((x10_2).toNat * 6)).block, (ad193.add ((x10_2).toNat * 6)).off + 4, none⟩ = some (.int .i64 ((rd_T46 l0_4 x10_2).f3.f1)) ∧ w'.cell? ⟨(ad193.add ((x10_2).toNat * 6)).block, (ad193.add ((x10_2).toNat * 6)).off + 5, none⟩ = some (.int .i64 ((rd_T46 l0_4 x10_2).f3.f2))) (ds := [10]) (bs 11 0) (by kernel_rfl) rfl rfl ⟨bt_ BK191 0, bt_ BK191 1, bt_ BK191 2, bt_ BK191 3, bt_ BK191 4, bt_ BK186 0, bt_ BK186 1, bt_ BK186 2, bt_ BK186 3, bt_ BK186 4, (hd_ HB hw209_0), (hd_ HB hw209_1), (hd_ HB hw209_2), (hd_ HB hw209_3), (hd_ HB hw209_4), (hd_ HB hw209_5)⟩ (fun hHeld => ?_); refine with_tabW spec_FairJoin.tab14 spec_FairJoin.bits14 (fun HT_ HW_ => ?_)
                generalize wr.drew = w103 at HO_192004 BK186 BK187 BK191 BK192 HB hx209_0 hx209_1 hx209_2 hx209_3 hx209_4 hx209_5 hHeld ⊢
                refine psn_ HT_ ?_
                refine ps_ 2 84 (bm 11 5) HT_ ?_
                refine ps_ 4 86 (bm 11 21) HT_ ?_
                refine tk_ 1 83 (bm 11 23) HT_ HW_ hHeld ?_
                refine tk_ 3 85 (bs 11 5) HT_ HW_ hHeld ?_
                refine psn_ HT_ ?_
                refine tkn_ HT_ HW_ hHeld ?_
                refine on_ 7 (some 89) (bs 11 8) HT_ (fun K hK => ?_)
                refine value_ (w1 := ?_) (v := ?_) (by rfl) rfl ?_ ?_
                rotate_left 2
                ·go_simp
                 constructor
                 ·rfl
                 ·rfl
                refine hK.out _ _ ⟨(blk_cell (blk_alloc BK191.out _) 0).trans rfl, (blk_cell (blk_alloc BK191.out _) 1).trans rfl, (blk_cell (blk_alloc BK191.out _) 2).trans rfl, (blk_cell (blk_alloc BK191.out _) 3).trans rfl, (blk_cell (blk_alloc BK191.out _) 4).trans rfl, (blk_cell (blk_alloc BK186.out _) 0).trans rfl, (blk_cell (blk_alloc BK186.out _) 1).trans rfl, (blk_cell (blk_alloc BK186.out _) 2).trans rfl, (blk_cell (blk_alloc BK186.out _) 3).trans rfl, (blk_cell (blk_alloc BK186.out _) 4).trans rfl, (World.cell?_alloc_lt _ _ _ (World.block_lt_of_cell? _ _ ((hd_ HB hw209_0)))).trans ((hd_ HB hw209_0)), (World.cell?_alloc_lt _ _ _ (World.block_lt_of_cell? _ _ ((hd_ HB hw209_1)))).trans ((hd_ HB hw209_1)), (World.cell?_alloc_lt _ _ _ (World.block_lt_of_cell? _ _ ((hd_ HB hw209_2)))).trans ((hd_ HB hw209_2)), (World.cell?_alloc_lt _ _ _ (World.block_lt_of_cell? _ _ ((hd_ HB hw209_3)))).trans ((hd_ HB hw209_3)), (World.cell?_alloc_lt _ _ _ (World.block_lt_of_cell? _ _ ((hd_ HB hw209_4)))).trans ((hd_ HB hw209_4)), (World.cell?_alloc_lt _ _ _ (World.block_lt_of_cell? _ _ ((hd_ HB hw209_5)))).trans ((hd_ HB hw209_5))⟩ (fun hHeld => ?_)
                clear hK K
                refine norm_ (a' := ?_) ?_ ?_
                rotate_left
                ·show Act.put _ (some 89) _ = _
                 simp only [Act.put, ls0_, ls1_, ls2_, i64_w, i32_w]
                 rfl
                refine on_ 8 (some 90) (bs 11 9) HT_ (fun K hK => ?_)
                refine Kd.R_append_step k46 (w0 := w) w.heap.size (by rfl) (.tmp 83) (.tmp 89) 29 46 (.agg #[(.int .i64 0), (.int .i64 0), (.bool false), (.int .i64 0), (.int .i64 0), (.int .i64 0)]) 48 rfl Try.underlying29 info46 rfl (by decide) (by omega) u192004 x192004_2 (⟨(rd_T46 l0_4 x10_2).f0, (rd_T46 l0_4 x10_2).f1, (rd_T46 l0_4 x10_2).f2, (⟨(rd_T46 l0_4 x10_2).f3.f0, (rd_T46 l0_4 x10_2).f3.f1, (rd_T46 l0_4 x10_2).f3.f2⟩ : S28)⟩ : S46) [.int .i64 ((rd_T46 l0_4 x10_2).f0), .int .i64 ((rd_T46 l0_4 x10_2).f1), .bool ((rd_T46 l0_4 x10_2).f2), .int .i64 ((rd_T46 l0_4 x10_2).f3.f0), .int .i64 ((rd_T46 l0_4 x10_2).f3.f1), .int .i64 ((rd_T46 l0_4 x10_2).f3.f2)] (fun k_ => k_ ≠ gb192) (fun _ => False) rfl rfl ?aP (fun _ hk => by first | exact hk.elim | grind) ?aF ?aO ?aB ?aS ?aL ?_
                (case aP => exact k46_mkM _ _ _ (⟨(rd_T46 l0_4 x10_2).f0, (rd_T46 l0_4 x10_2).f1, (rd_T46 l0_4 x10_2).f2, (⟨(rd_T46 l0_4 x10_2).f3.f0, (rd_T46 l0_4 x10_2).f3.f1, (rd_T46 l0_4 x10_2).f3.f2⟩ : S28)⟩ : S46))
                (case aB => exact (bf_ HB))
                (case aF => exact (fun k_ hk => by first | exact Kd.freshB (g := gb192) (o := .cells #[.int .i64 a1, .int .i64 a2, .bool false, .int .i64 0, .int .i64 0, .int .i64 0] 46 (0, 0)) (bk_ BK192) k_ hk | grind))
                (case aO => exact (kr_ HO_192004))
                (case aS => exact (below_size (bf_ HB)))
                (case aL => have := LMc98.out; omega)
                intro v211 w104 ho hb hg hat
                rw [← Ny210.out] at ho
                have n0_ := Aside0.mk (blk_grown (g := gb186) (o := .cells #[.int .i64 a0_0, .int .i64 a0_1, .int .i64 a0_2, .int .i64 a0_3, .slice (some ad193) l0_4.length c0_4] 31 (0, 0)) (bk_ BK186) hg (Kd.R_ne HO_192004.out BK186.out (by decide)))
                have n1_ := Aside0.mk (blk_grown (g := gb187) (o := .cells #[.int .i64 0, .int .i64 0, .int .i64 0, .int .i64 0, .slice none 0 0] 31 (0, 0)) (bk_ BK187) hg (Kd.R_ne HO_192004.out BK187.out (by decide)))
                have n2_ := Aside0.mk (blk_grown (g := gb191) (o := .cells #[.int .i64 a0_0, .int .i64 a0_1, .int .i64 a0_2, .int .i64 a0_3, u192004] 31 (0, 0)) (bk_ BK191) hg (Kd.R_ne HO_192004.out BK191.out (by decide)))
                have n3_ := Aside0.mk (blk_grown (g := gb192) (o := .cells #[.int .i64 a1, .int .i64 a2, .bool false, .int .i64 0, .int .i64 0, .int .i64 0] 46 (0, 0)) (bk_ BK192) hg (Kd.R_away HO_192004.out (fun _ hk => by first | exact hk | grind)))
                have n4_ := Aside0.mk (hb); have n5_ := Aside0.mk (ho); clear BK186 BK187 BK191 BK192 HB HO_192004; have BK186 := n0_; have BK187 := n1_; have BK191 := n2_; have BK192 := n3_; have HB := n4_; have HO212 := n5_; clear n0_ n1_ n2_ n3_ n4_ n5_ ho hb hg hat
                obtain ⟨Ao105, co105, eo105⟩ := Kd.R_slice HO212.out
                (first | subst eo105 | (injection eo105 with f1_ f2_ f3_; have f4_ := f1_.symm; have f5_ := f3_.symm; clear f1_ f2_ f3_; subst f4_; subst f5_))
                refine hK.out _ _ ⟨bt_ BK191 0, bt_ BK191 1, bt_ BK191 2, bt_ BK191 3, bt_ BK191 4, bt_ BK186 0, bt_ BK186 1, bt_ BK186 2, bt_ BK186 3, bt_ BK186 4, (hd_ HB hw209_0), (hd_ HB hw209_1), (hd_ HB hw209_2), (hd_ HB hw209_3), (hd_ HB hw209_4), (hd_ HB hw209_5)⟩ (fun hHeld => ?_)
                clear hK K
                refine norm_ (a' := ?_) ?_ ?_
                rotate_left
                ·show Act.put _ (some 90) _ = _
                 simp only [Act.put, ls0_, ls1_, ls2_, i64_w, i32_w]
                 rfl
                refine psn_ HT_ ?_
                refine last_ (i := 10) (N := none) (bs 11 11) rfl rfl (one_of HT_.out (by kernel_rfl)) (by decide) (fun K hK => ?_)
                have hs106 := bc_ BK191 4 (u192004) rfl; have hfs106 := blk_frozen BK191.out 4; have hns106_0 := NB186_191.out; have hns106_1 := NB187_191.out; have hns106_3 := NB192_191.out; have hms106_0 := NB191_186.out; have hms106_1 := NB191_187.out; have hms106_3 := NB191_192.out
                refine skip_ (w1 := ?_) (by rfl) rfl ?_ ?_
                rotate_left
                ·go_simp
                 rfl
                refine hK.out _ _ ?_
                clear hK K
                refine done_ (done_of HT_.out (by kernel_rfl)) ?_
                try go_wp2
                go_roundg k2
                case measure => have := HJ3.out; have := HK2.out; omega
                case rel => exact ⟨(wrap64 (x10_2 + 1)), (y210), (.slice Ao105 y210.length co105), (by first | rfl | (simp; done) | (simp [*]; done)), H', ⟨by have := HJ3.out; have := HK2.out; omega⟩, ⟨by (with_reducible repeat (first | apply Kd.R_alloc | apply Kd.R_drewN | apply Kd.R_drew)); exact Kd.R_mono (Kd.R_far (p := ⟨gb191, 4, none⟩) (Kd.R_types HO212.out BK191.out (by decide)) (fun _ hk => by first | exact hk.2 | grind) (.slice Ao105 y210.length co105)) (fun _ hk => by first | exact hk.1 | grind)⟩, ⟨by (with_reducible repeat (first | refine blk_drewN ?_ _ | refine blk_drew ?_ | refine blk_alloc ?_ _)); refine blk_far ?_ NB186_191.out _; exact bk_ BK186⟩, ⟨by (with_reducible repeat (first | refine blk_drewN ?_ _ | refine blk_drew ?_ | refine blk_alloc ?_ _)); refine blk_far ?_ NB187_191.out _; exact bk_ BK187⟩, ⟨by (with_reducible repeat (first | refine blk_drewN ?_ _ | refine blk_drew ?_ | refine blk_alloc ?_ _)); refine blk_put (cs := #[.int .i64 a0_0, .int .i64 a0_1, .int .i64 a0_2, .int .i64 a0_3, u192004]) ?_ 4 _ rfl; exact bk_ BK191⟩, ⟨by (with_reducible repeat (first | refine blk_drewN ?_ _ | refine blk_drew ?_ | refine blk_alloc ?_ _)); refine blk_far ?_ NB192_191.out _; exact bk_ BK192⟩, ⟨bf_ HB⟩⟩
               ·rw [if_neg c98] at H
                exact absurd H (by simp)
             ·rw [if_neg c77] at H
              exact absurd H (by simp)
            ·rw [if_neg c76] at H
             exact absurd H (by simp)
          ·rw [if_neg c54] at H
           have c54b0 : decide (a1 < ((rd_T46 l0_4 x10_2).f0)) = false := decide_eq_false c54
           clear c54
           by_cases c107 : x192004_2.length < 2932031007402
           ·rw [if_pos c107] at H
            have LMc107 := Aside0.mk c107
            clear c107
            obtain ⟨y214, hy214⟩ : ∃ y_ : List (S46), y_ = (x192004_2 ++ [(⟨(rd_T46 l0_4 x10_2).f0, (rd_T46 l0_4 x10_2).f1, (rd_T46 l0_4 x10_2).f2, (⟨(rd_T46 l0_4 x10_2).f3.f0, (rd_T46 l0_4 x10_2).f3.f1, (rd_T46 l0_4 x10_2).f3.f2⟩ : S28)⟩ : S46)]) := ⟨_, rfl⟩
            replace H : (spec_FairJoin.l0 k2 a1 (wrap64 (x10_2 + 1)) a0_0 a0_1 a0_2 a0_3 l0_4 a0_0 a0_1 a0_2 a0_3 y214 a1 a2 false 0 0 0) = some (r1, r2, r3, r4, r5, r6) := by first | (rw [hy214]; with_reducible exact H) | (have H2_ := (Option.bind_some _ _).symm.trans H; rw [hy214]; with_reducible exact H2_) | (have H2_ := (Option.bind_some _ _).symm.trans H; with_reducible exact H2_) | with_reducible exact H | (rw [hy214]; exact H) | exact H
            have Ny214 := Aside0.mk hy214
            clear hy214
            have H' := Aside0.mk H
            clear H; have hnb108 := NB186_187.out; have hnc108 := NB187_186.out; have hnb109 := NB186_191.out; have hnc109 := NB191_186.out; have hnb110 := NB186_192.out; have hnc110 := NB192_186.out; obtain ⟨hcz111_0, hcz111_1, hcz111_2, hcz111_3, hcz111_4, hfz111_0, hfz111_1, hfz111_2, hfz111_3, hfz111_4⟩ := bz5_ BK186
            have p193 : 0 ≤ (x10_2 : Int) := od_
            have q193 : x10_2 < (l0_4.length : Int) := od_
            obtain ⟨ad193, e193, hx193_0, hx193_1, hx193_2, hx193_3, hx193_4, hx193_5⟩ := at_T46 HR0_4.out x10_2 p193 q193
            cases e193
            replace hx193_0 := hb_ HB hx193_0
            replace hx193_1 := hb_ HB hx193_1
            replace hx193_2 := hb_ HB hx193_2
            replace hx193_3 := hb_ HB hx193_3
            replace hx193_4 := hb_ HB hx193_4
            replace hx193_5 := hb_ HB hx193_5
            replace p193 := eq_true p193
            replace q193 := eq_true q193
            try go_wp2
            replace HO_192004 := Aside0.mk (Kd.R_drew HO_192004.out); replace BK186 := Aside0.mk (blk_drew BK186.out); replace BK187 := Aside0.mk (blk_drew BK187.out); replace BK191 := Aside0.mk (blk_drew BK191.out); replace BK192 := Aside0.mk (blk_drew BK192.out); replace HB := Aside0.mk (below_drew1 HB.out)
            have p213 : 0 ≤ (x10_2 : Int) := od_
            have q213 : x10_2 < (l0_4.length : Int) := od_
            obtain ⟨ad213, e213, hx213_0, hx213_1, hx213_2, hx213_3, hx213_4, hx213_5⟩ := at_T46 HR0_4.out x10_2 p213 q213
            have hw213_5 := hx213_5; have hw213_4 := hx213_4; have hw213_3 := hx213_3; have hw213_2 := hx213_2; have hw213_1 := hx213_1; have hw213_0 := hx213_0
            obtain rfl : ad193 = ad213 := (by injection e213)
            replace hx213_0 := hb_ HB hx213_0
            replace hx213_1 := hb_ HB hx213_1
            replace hx213_2 := hb_ HB hx213_2
            replace hx213_3 := hb_ HB hx213_3
            replace hx213_4 := hb_ HB hx213_4
            replace hx213_5 := hb_ HB hx213_5
            replace p213 := eq_true p213
            replace q213 := eq_true q213
            refine start_ (n := 11) (S := fun w' => cw_ w' gb191 0 (.int .i64 a0_0) ∧ cw_ w' gb191 1 (.int .i64 a0_1) ∧ cw_ w' gb191 2 (.int .i64 a0_2) ∧ cw_ w' gb191 3 (.int .i64 a0_3) ∧ cw_ w' gb191 4 (u192004) ∧ cw_ w' gb186 0 (.int .i64 a0_0) ∧ cw_ w' gb186 1 (.int .i64 a0_1) ∧ cw_ w' gb186 2 (.int .i64 a0_2) ∧ cw_ w' gb186 3 (.int .i64 a0_3) ∧ cw_ w' gb186 4 (.slice (some ad193) l0_4.length c0_4) ∧ w'.cell? (ad193.add ((x10_2).toNat * 6)) = some (.int .i64 ((rd_T46 l0_4 x10_2).f0)) ∧ w'.cell? ⟨(ad193.add ((x10_2).toNat * 6)).block, (ad193.add ((x10_2).toNat * 6)).off + 1, none⟩ = some (.int .i64 ((rd_T46 l0_4 x10_2).f1)) ∧ w'.cell? ⟨(ad193.add ((x10_2).toNat * 6)).block, (ad193.add ((x10_2).toNat * 6)).off + 2, none⟩ = some (.bool ((rd_T46 l0_4 x10_2).f2)) ∧ w'.cell? ⟨(ad193.add ((x10_2).toNat * 6)).block, (ad193.add ((x10_2).toNat * 6)).off + 3, none⟩ = some (.int .i64 ((rd_T46 l0_4 x10_2).f3.f0)) ∧ w'.cell? ⟨(ad193.add ((x10_2).toNat * 6)).block, (ad193.add ((x10_2).toNat * 6)).off + 4, none⟩ = some (.int .i64 ((rd_T46 l0_4 x10_2).f3.f1)) ∧ w'.cell? ⟨(ad193.add ((x10_2).toNat * 6)).block, (ad193.add ((x10_2).toNat * 6)).off + 5, none⟩ = some (.int .i64 ((rd_T46 l0_4 x10_2).f3.f2))) (ds := [10]) (bs 11 0) (by kernel_rfl) rfl rfl ⟨bt_ BK191 0, bt_ BK191 1, bt_ BK191 2, bt_ BK191 3, bt_ BK191 4, bt_ BK186 0, bt_ BK186 1, bt_ BK186 2, bt_ BK186 3, bt_ BK186 4, (hd_ HB hw213_0), (hd_ HB hw213_1), (hd_ HB hw213_2), (hd_ HB hw213_3), (hd_ HB hw213_4), (hd_ HB hw213_5)⟩ (fun hHeld => ?_); refine with_tabW spec_FairJoin.tab14 spec_FairJoin.bits14 (fun HT_ HW_ => ?_)
            generalize wr.drew = w112 at HO_192004 BK186 BK187 BK191 BK192 HB hx213_0 hx213_1 hx213_2 hx213_3 hx213_4 hx213_5 hHeld ⊢
            refine psn_ HT_ ?_
            refine ps_ 2 84 (bm 11 5) HT_ ?_
            refine ps_ 4 86 (bm 11 21) HT_ ?_
            refine tk_ 1 83 (bm 11 23) HT_ HW_ hHeld ?_
            refine tk_ 3 85 (bs 11 5) HT_ HW_ hHeld ?_
            refine psn_ HT_ ?_
            refine tkn_ HT_ HW_ hHeld ?_
            refine on_ 7 (some 89) (bs 11 8) HT_ (fun K hK => ?_)
            refine value_ (w1 := ?_) (v := ?_) (by rfl) rfl ?_ ?_
            rotate_left 2
            ·go_simp
             constructor
             ·rfl
             ·rfl
            refine hK.out _ _ ⟨(blk_cell (blk_alloc BK191.out _) 0).trans rfl, (blk_cell (blk_alloc BK191.out _) 1).trans rfl, (blk_cell (blk_alloc BK191.out _) 2).trans rfl, (blk_cell (blk_alloc BK191.out _) 3).trans rfl, (blk_cell (blk_alloc BK191.out _) 4).trans rfl, (blk_cell (blk_alloc BK186.out _) 0).trans rfl, (blk_cell (blk_alloc BK186.out _) 1).trans rfl, (blk_cell (blk_alloc BK186.out _) 2).trans rfl, (blk_cell (blk_alloc BK186.out _) 3).trans rfl, (blk_cell (blk_alloc BK186.out _) 4).trans rfl, (World.cell?_alloc_lt _ _ _ (World.block_lt_of_cell? _ _ ((hd_ HB hw213_0)))).trans ((hd_ HB hw213_0)), (World.cell?_alloc_lt _ _ _ (World.block_lt_of_cell? _ _ ((hd_ HB hw213_1)))).trans ((hd_ HB hw213_1)), (World.cell?_alloc_lt _ _ _ (World.block_lt_of_cell? _ _ ((hd_ HB hw213_2)))).trans ((hd_ HB hw213_2)), (World.cell?_alloc_lt _ _ _ (World.block_lt_of_cell? _ _ ((hd_ HB hw213_3)))).trans ((hd_ HB hw213_3)), (World.cell?_alloc_lt _ _ _ (World.block_lt_of_cell? _ _ ((hd_ HB hw213_4)))).trans ((hd_ HB hw213_4)), (World.cell?_alloc_lt _ _ _ (World.block_lt_of_cell? _ _ ((hd_ HB hw213_5)))).trans ((hd_ HB hw213_5))⟩ (fun hHeld => ?_)
            clear hK K
            refine norm_ (a' := ?_) ?_ ?_
            rotate_left
            ·show Act.put _ (some 89) _ = _
             simp only [Act.put, ls0_, ls1_, ls2_, i64_w, i32_w]
             rfl
            refine on_ 8 (some 90) (bs 11 9) HT_ (fun K hK => ?_)
            refine Kd.R_append_step k46 (w0 := w) w.heap.size (by rfl) (.tmp 83) (.tmp 89) 29 46 (.agg #[(.int .i64 0), (.int .i64 0), (.bool false), (.int .i64 0), (.int .i64 0), (.int .i64 0)]) 48 rfl Try.underlying29 info46 rfl (by decide) (by omega) u192004 x192004_2 (⟨(rd_T46 l0_4 x10_2).f0, (rd_T46 l0_4 x10_2).f1, (rd_T46 l0_4 x10_2).f2, (⟨(rd_T46 l0_4 x10_2).f3.f0, (rd_T46 l0_4 x10_2).f3.f1, (rd_T46 l0_4 x10_2).f3.f2⟩ : S28)⟩ : S46) [.int .i64 ((rd_T46 l0_4 x10_2).f0), .int .i64 ((rd_T46 l0_4 x10_2).f1), .bool ((rd_T46 l0_4 x10_2).f2), .int .i64 ((rd_T46 l0_4 x10_2).f3.f0), .int .i64 ((rd_T46 l0_4 x10_2).f3.f1), .int .i64 ((rd_T46 l0_4 x10_2).f3.f2)] (fun k_ => k_ ≠ gb192) (fun _ => False) rfl rfl ?aP (fun _ hk => by first | exact hk.elim | grind) ?aF ?aO ?aB ?aS ?aL ?_
            (case aP => exact k46_mkM _ _ _ (⟨(rd_T46 l0_4 x10_2).f0, (rd_T46 l0_4 x10_2).f1, (rd_T46 l0_4 x10_2).f2, (⟨(rd_T46 l0_4 x10_2).f3.f0, (rd_T46 l0_4 x10_2).f3.f1, (rd_T46 l0_4 x10_2).f3.f2⟩ : S28)⟩ : S46))
            (case aB => exact (bf_ HB))
            (case aF => exact (fun k_ hk => by first | exact Kd.freshB (g := gb192) (o := .cells #[.int .i64 a1, .int .i64 a2, .bool false, .int .i64 0, .int .i64 0, .int .i64 0] 46 (0, 0)) (bk_ BK192) k_ hk | grind))
            (case aO => exact (kr_ HO_192004))
            (case aS => exact (below_size (bf_ HB)))
            (case aL => have := LMc107.out; omega)
            intro v215 w113 ho hb hg hat
            rw [← Ny214.out] at ho
            have n0_ := Aside0.mk (blk_grown (g := gb186) (o := .cells #[.int .i64 a0_0, .int .i64 a0_1, .int .i64 a0_2, .int .i64 a0_3, .slice (some ad193) l0_4.length c0_4] 31 (0, 0)) (bk_ BK186) hg (Kd.R_ne HO_192004.out BK186.out (by decide)))
            have n1_ := Aside0.mk (blk_grown (g := gb187) (o := .cells #[.int .i64 0, .int .i64 0, .int .i64 0, .int .i64 0, .slice none 0 0] 31 (0, 0)) (bk_ BK187) hg (Kd.R_ne HO_192004.out BK187.out (by decide)))
            have n2_ := Aside0.mk (blk_grown (g := gb191) (o := .cells #[.int .i64 a0_0, .int .i64 a0_1, .int .i64 a0_2, .int .i64 a0_3, u192004] 31 (0, 0)) (bk_ BK191) hg (Kd.R_ne HO_192004.out BK191.out (by decide)))
            have n3_ := Aside0.mk (blk_grown (g := gb192) (o := .cells #[.int .i64 a1, .int .i64 a2, .bool false, .int .i64 0, .int .i64 0, .int .i64 0] 46 (0, 0)) (bk_ BK192) hg (Kd.R_away HO_192004.out (fun _ hk => by first | exact hk | grind)))
            have n4_ := Aside0.mk (hb); have n5_ := Aside0.mk (ho); clear BK186 BK187 BK191 BK192 HB HO_192004; have BK186 := n0_; have BK187 := n1_; have BK191 := n2_; have BK192 := n3_; have HB := n4_; have HO216 := n5_; clear n0_ n1_ n2_ n3_ n4_ n5_ ho hb hg hat
            obtain ⟨Ao114, co114, eo114⟩ := Kd.R_slice HO216.out
            (first | subst eo114 | (injection eo114 with f1_ f2_ f3_; have f4_ := f1_.symm; have f5_ := f3_.symm; clear f1_ f2_ f3_; subst f4_; subst f5_))
            refine hK.out _ _ ⟨bt_ BK191 0, bt_ BK191 1, bt_ BK191 2, bt_ BK191 3, bt_ BK191 4, bt_ BK186 0, bt_ BK186 1, bt_ BK186 2, bt_ BK186 3, bt_ BK186 4, (hd_ HB hw213_0), (hd_ HB hw213_1), (hd_ HB hw213_2), (hd_ HB hw213_3), (hd_ HB hw213_4), (hd_ HB hw213_5)⟩ (fun hHeld => ?_)
            clear hK K
            refine norm_ (a' := ?_) ?_ ?_
            rotate_left
            ·show Act.put _ (some 90) _ = _
             simp only [Act.put, ls0_, ls1_, ls2_, i64_w, i32_w]
             rfl
            refine psn_ HT_ ?_
            refine last_ (i := 10) (N := none) (bs 11 11) rfl rfl (one_of HT_.out (by kernel_rfl)) (by decide) (fun K hK => ?_)
            have hs115 := bc_ BK191 4 (u192004) rfl; have hfs115 := blk_frozen BK191.out 4; have hns115_0 := NB186_191.out; have hns115_1 := NB187_191.out; have hns115_3 := NB192_191.out; have hms115_0 := NB191_186.out; have hms115_1 := NB191_187.out; have hms115_3 := NB191_192.out
            refine skip_ (w1 := ?_) (by rfl) rfl ?_ ?_
            rotate_left
            ·go_simp
             rfl
            refine hK.out _ _ ?_
            clear hK K
            refine done_ (done_of HT_.out (by kernel_rfl)) ?_
            try go_wp2
            go_roundg k2
            case measure => have := HJ3.out; have := HK2.out; omega
            case rel => exact ⟨(wrap64 (x10_2 + 1)), (y214), (.slice Ao114 y214.length co114), (by first | rfl | (simp; done) | (simp [*]; done)), H', ⟨by have := HJ3.out; have := HK2.out; omega⟩, ⟨by (with_reducible repeat (first | apply Kd.R_alloc | apply Kd.R_drewN | apply Kd.R_drew)); exact Kd.R_mono (Kd.R_far (p := ⟨gb191, 4, none⟩) (Kd.R_types HO216.out BK191.out (by decide)) (fun _ hk => by first | exact hk.2 | grind) (.slice Ao114 y214.length co114)) (fun _ hk => by first | exact hk.1 | grind)⟩, ⟨by (with_reducible repeat (first | refine blk_drewN ?_ _ | refine blk_drew ?_ | refine blk_alloc ?_ _)); refine blk_far ?_ NB186_191.out _; exact bk_ BK186⟩, ⟨by (with_reducible repeat (first | refine blk_drewN ?_ _ | refine blk_drew ?_ | refine blk_alloc ?_ _)); refine blk_far ?_ NB187_191.out _; exact bk_ BK187⟩, ⟨by (with_reducible repeat (first | refine blk_drewN ?_ _ | refine blk_drew ?_ | refine blk_alloc ?_ _)); refine blk_put (cs := #[.int .i64 a0_0, .int .i64 a0_1, .int .i64 a0_2, .int .i64 a0_3, u192004]) ?_ 4 _ rfl; exact bk_ BK191⟩, ⟨by (with_reducible repeat (first | refine blk_drewN ?_ _ | refine blk_drew ?_ | refine blk_alloc ?_ _)); refine blk_far ?_ NB192_191.out _; exact bk_ BK192⟩, ⟨bf_ HB⟩⟩
           ·rw [if_neg c107] at H
            exact absurd H (by simp)
         ·rw [if_neg c53] at H
          exact absurd H (by simp)
        ·rw [if_neg c52] at H
         have c52b0 : decide (x10_2 < (l0_4.length : Int)) = false := decide_eq_false c52
         clear c52
         by_cases c116 : (x192004_2.length : Int) = (l0_4.length : Int)
         ·rw [if_pos c116] at H
          have c116b0 : ((x192004_2.length : Int) == (l0_4.length : Int)) = true := beq_iff_eq.mpr c116
          have c116b1 : ((x192004_2.length : Int) != (l0_4.length : Int)) = false := bne_eq_false_iff_eq.mpr c116
          have c116b2 : (x192004_2.length == l0_4.length) = true := by first | simpa using c116 | (simp at c116 ⊢; omega)
          clear c116
          by_cases c117 : x192004_2.length < 2932031007402
          ·rw [if_pos c117] at H
           have LMc117 := Aside0.mk c117
           clear c117
           obtain ⟨y217, hy217⟩ : ∃ y_ : List (S46), y_ = (x192004_2 ++ [(⟨a1, a2, false, (⟨0, 0, 0⟩ : S28)⟩ : S46)]) := ⟨_, rfl⟩
           replace H : (some (a0_0, a0_1, a0_2, a0_3, y217, 0)) = some (r1, r2, r3, r4, r5, r6) := by first | (rw [hy217]; with_reducible exact H) | (have H2_ := (Option.bind_some _ _).symm.trans H; rw [hy217]; with_reducible exact H2_) | (have H2_ := (Option.bind_some _ _).symm.trans H; with_reducible exact H2_) | with_reducible exact H | (rw [hy217]; exact H) | exact H
           have Ny217 := Aside0.mk hy217
           clear hy217
           simp only [Option.some.injEq, Prod.mk.injEq] at H
           obtain ⟨rfl, rfl, rfl, rfl, rfl, rfl⟩ := H
           have hnb118 := NB186_187.out; have hnc118 := NB187_186.out; have hnb119 := NB186_191.out; have hnc119 := NB191_186.out; have hnb120 := NB186_192.out; have hnc120 := NB192_186.out; obtain ⟨hcz121_0, hcz121_1, hcz121_2, hcz121_3, hcz121_4, hfz121_0, hfz121_1, hfz121_2, hfz121_3, hfz121_4⟩ := bz5_ BK186; have hnb122 := NB191_187.out; have hnc122 := NB187_191.out; have hnb123 := NB191_192.out; have hnc123 := NB192_191.out; obtain ⟨hcz124_0, hcz124_1, hcz124_2, hcz124_3, hcz124_4, hfz124_0, hfz124_1, hfz124_2, hfz124_3, hfz124_4⟩ := bz5_ BK191
           obtain ⟨Ao125, co125, eo125⟩ := Kd.R_slice HO_192004.out
           subst eo125
           have hnb126 := NB192_187.out; have hnc126 := NB187_192.out; obtain ⟨hcz127_0, hcz127_1, hcz127_2, hcz127_3, hcz127_4, hcz127_5, hfz127_0, hfz127_1, hfz127_2, hfz127_3, hfz127_4, hfz127_5⟩ := bz6_ BK192
           go_wp2_with (first | ((with_reducible refine gate_builtin (b := .append) (xs := #[.tmp 100, .tmp 102]) rfl ?_); at_builtin; refine Kd.R_append k46 (w0 := w) w.heap.size rfl (.tmp 100) (.tmp 102) 29 46 (.agg #[(.int .i64 0), (.int .i64 0), (.bool false), (.int .i64 0), (.int .i64 0), (.int .i64 0)]) 48 rfl Try.underlying29 info46 rfl (by decide) (by omega) (.slice Ao125 x192004_2.length co125) x192004_2 (⟨a1, a2, false, (⟨0, 0, 0⟩ : S28)⟩ : S46) [.int .i64 a1, .int .i64 a2, .bool false, .int .i64 0, .int .i64 0, .int .i64 0] (fun k_ => k_ ≠ gb192) (fun _ => False) rfl rfl ?aP (fun _ hk => by first | exact hk.elim | grind) ?aF ?aO ?aB ?aS ?aL ?_; (case aP => exact k46_mkM _ _ _ (⟨a1, a2, false, (⟨0, 0, 0⟩ : S28)⟩ : S46)); (case aB => exact (bf_ HB)); (case aF => exact (fun k_ hk => by first | exact Kd.freshB (g := gb192) (o := .cells #[.int .i64 a1, .int .i64 a2, .bool false, .int .i64 0, .int .i64 0, .int .i64 0] 46 (0, 0)) (bk_ BK192) k_ hk | grind)); (case aO => exact (kr_ HO_192004)); (case aS => exact (below_size (bf_ HB))); (case aL => have := LMc117.out; omega); intro v218 w128 ho hb hg hat; rw [← Ny217.out] at ho; replace BK186 := Aside0.mk (blk_grown (g := gb186) (o := .cells #[.int .i64 a0_0, .int .i64 a0_1, .int .i64 a0_2, .int .i64 a0_3, .slice A0_4 l0_4.length c0_4] 31 (0, 0)) (bk_ BK186) hg (Kd.R_ne HO_192004.out BK186.out (by decide))); replace BK187 := Aside0.mk (blk_grown (g := gb187) (o := .cells #[.int .i64 0, .int .i64 0, .int .i64 0, .int .i64 0, .slice none 0 0] 31 (0, 0)) (bk_ BK187) hg (Kd.R_ne HO_192004.out BK187.out (by decide))); replace BK191 := Aside0.mk (blk_grown (g := gb191) (o := .cells #[.int .i64 a0_0, .int .i64 a0_1, .int .i64 a0_2, .int .i64 a0_3, .slice Ao125 x192004_2.length co125] 31 (0, 0)) (bk_ BK191) hg (Kd.R_ne HO_192004.out BK191.out (by decide))); replace BK192 := Aside0.mk (blk_grown (g := gb192) (o := .cells #[.int .i64 a1, .int .i64 a2, .bool false, .int .i64 0, .int .i64 0, .int .i64 0] 46 (0, 0)) (bk_ BK192) hg (Kd.R_away HO_192004.out (fun _ hk => by first | exact hk | grind))); replace HB := Aside0.mk (hb); have HO219 := Aside0.mk (ho); clear HO_192004 ho hb hg hat; obtain ⟨Ao129, co129, eo129⟩ := Kd.R_slice HO219.out; subst eo129; obtain ⟨hcz130_0, hcz130_1, hcz130_2, hcz130_3, hcz130_4, hfz130_0, hfz130_1, hfz130_2, hfz130_3, hfz130_4⟩ := bz5_ BK191; obtain ⟨hcz131_0, hcz131_1, hcz131_2, hcz131_3, hcz131_4, hfz131_0, hfz131_1, hfz131_2, hfz131_3, hfz131_4⟩ := bz5_ BK187))
           refine bodyPost_ret (results_ct rfl _ _ gb187 31 #[.int .i64 a0_0, .int .i64 a0_1, .int .i64 a0_2, .int .i64 a0_3, .slice Ao129 y217.length co129] (0, 0) _ rfl (by (with_reducible repeat (first | refine blk_drewN ?_ _ | refine blk_drew ?_ | refine blk_alloc ?_ _)); refine blk_put (cs := #[.int .i64 a0_0, .int .i64 a0_1, .int .i64 a0_2, .int .i64 a0_3, .slice none 0 0]) ?_ 4 _ rfl; (with_reducible repeat (first | refine blk_drewN ?_ _ | refine blk_drew ?_ | refine blk_alloc ?_ _)); refine blk_put (cs := #[.int .i64 a0_0, .int .i64 a0_1, .int .i64 a0_2, .int .i64 0, .slice none 0 0]) ?_ 3 _ rfl; (with_reducible repeat (first | refine blk_drewN ?_ _ | refine blk_drew ?_ | refine blk_alloc ?_ _)); refine blk_put (cs := #[.int .i64 a0_0, .int .i64 a0_1, .int .i64 0, .int .i64 0, .slice none 0 0]) ?_ 2 _ rfl; (with_reducible repeat (first | refine blk_drewN ?_ _ | refine blk_drew ?_ | refine blk_alloc ?_ _)); refine blk_put (cs := #[.int .i64 a0_0, .int .i64 0, .int .i64 0, .int .i64 0, .slice none 0 0]) ?_ 1 _ rfl; (with_reducible repeat (first | refine blk_drewN ?_ _ | refine blk_drew ?_ | refine blk_alloc ?_ _)); refine blk_put (cs := #[.int .i64 0, .int .i64 0, .int .i64 0, .int .i64 0, .slice none 0 0]) ?_ 0 _ rfl; (with_reducible repeat (first | refine blk_drewN ?_ _ | refine blk_drew ?_ | refine blk_alloc ?_ _)); refine blk_far ?_ NB187_191.out _; exact bk_ BK187) Try.underlying31 rfl (by kernel_rfl)) rfl ?_
           exact ⟨_, by first | rfl | (simp [errW_none, errW_some] <;> rfl) | (simp [*, errW_none, errW_some] <;> rfl), by (with_reducible repeat (first | apply Kd.R_alloc | apply Kd.R_drewN | apply Kd.R_drew)); exact Kd.R_mono (Kd.R_far (p := ⟨gb187, 4, none⟩) (Kd.R_far (p := ⟨gb187, 3, none⟩) (Kd.R_far (p := ⟨gb187, 2, none⟩) (Kd.R_far (p := ⟨gb187, 1, none⟩) (Kd.R_far (p := ⟨gb187, 0, none⟩) (Kd.R_far (p := ⟨gb191, 4, none⟩) (Kd.R_types (Kd.R_types HO219.out BK191.out (by decide)) BK187.out (by decide)) (fun _ hk => by first | exact hk.1.2 | grind) (.slice Ao129 y217.length co129)) (fun _ hk => by first | exact hk.2 | grind) (.int .i64 a0_0)) (fun _ hk => by first | exact hk.2 | grind) (.int .i64 a0_1)) (fun _ hk => by first | exact hk.2 | grind) (.int .i64 a0_2)) (fun _ hk => by first | exact hk.2 | grind) (.int .i64 a0_3)) (fun _ hk => by first | exact hk.2 | grind) (.slice Ao129 y217.length co129)) (fun _ hk => by first | exact trivial | grind), bf_ HB⟩
          ·rw [if_neg c117] at H
           exact absurd H (by simp)
         ·rw [if_neg c116] at H
          have c116b0 : ((x192004_2.length : Int) == (l0_4.length : Int)) = false := beq_eq_false_iff_ne.mpr c116
          have c116b1 : ((x192004_2.length : Int) != (l0_4.length : Int)) = true := bne_iff_ne.mpr c116
          have c116b2 : (x192004_2.length == l0_4.length) = false := by first | simpa using c116 | (simp at c116 ⊢; omega)
          simp only [Option.some.injEq, Prod.mk.injEq] at H
          obtain ⟨rfl, rfl, rfl, rfl, rfl, rfl⟩ := H
          have hnb132 := NB186_187.out; have hnc132 := NB187_186.out; have hnb133 := NB186_191.out; have hnc133 := NB191_186.out; have hnb134 := NB186_192.out; have hnc134 := NB192_186.out; obtain ⟨hcz135_0, hcz135_1, hcz135_2, hcz135_3, hcz135_4, hfz135_0, hfz135_1, hfz135_2, hfz135_3, hfz135_4⟩ := bz5_ BK186; have hnb136 := NB191_187.out; have hnc136 := NB187_191.out; have hnb137 := NB191_192.out; have hnc137 := NB192_191.out; obtain ⟨hcz138_0, hcz138_1, hcz138_2, hcz138_3, hcz138_4, hfz138_0, hfz138_1, hfz138_2, hfz138_3, hfz138_4⟩ := bz5_ BK191
          obtain ⟨Ao139, co139, eo139⟩ := Kd.R_slice HO_192004.out
          subst eo139
          have hnb140 := NB187_192.out; have hnc140 := NB192_187.out; obtain ⟨hcz141_0, hcz141_1, hcz141_2, hcz141_3, hcz141_4, hfz141_0, hfz141_1, hfz141_2, hfz141_3, hfz141_4⟩ := bz5_ BK187
          go_wp2
          refine bodyPost_ret (results_ct rfl _ _ gb187 31 #[.int .i64 a0_0, .int .i64 a0_1, .int .i64 a0_2, .int .i64 a0_3, .slice Ao139 x192004_2.length co139] (0, 0) _ rfl (by (with_reducible repeat (first | refine blk_drewN ?_ _ | refine blk_drew ?_ | refine blk_alloc ?_ _)); refine blk_put (cs := #[.int .i64 a0_0, .int .i64 a0_1, .int .i64 a0_2, .int .i64 a0_3, .slice none 0 0]) ?_ 4 _ rfl; (with_reducible repeat (first | refine blk_drewN ?_ _ | refine blk_drew ?_ | refine blk_alloc ?_ _)); refine blk_put (cs := #[.int .i64 a0_0, .int .i64 a0_1, .int .i64 a0_2, .int .i64 0, .slice none 0 0]) ?_ 3 _ rfl; (with_reducible repeat (first | refine blk_drewN ?_ _ | refine blk_drew ?_ | refine blk_alloc ?_ _)); refine blk_put (cs := #[.int .i64 a0_0, .int .i64 a0_1, .int .i64 0, .int .i64 0, .slice none 0 0]) ?_ 2 _ rfl; (with_reducible repeat (first | refine blk_drewN ?_ _ | refine blk_drew ?_ | refine blk_alloc ?_ _)); refine blk_put (cs := #[.int .i64 a0_0, .int .i64 0, .int .i64 0, .int .i64 0, .slice none 0 0]) ?_ 1 _ rfl; (with_reducible repeat (first | refine blk_drewN ?_ _ | refine blk_drew ?_ | refine blk_alloc ?_ _)); refine blk_put (cs := #[.int .i64 0, .int .i64 0, .int .i64 0, .int .i64 0, .slice none 0 0]) ?_ 0 _ rfl; exact bk_ BK187) Try.underlying31 rfl (by kernel_rfl)) rfl ?_
          exact ⟨_, by first | rfl | (simp [errW_none, errW_some] <;> rfl) | (simp [*, errW_none, errW_some] <;> rfl), by (with_reducible repeat (first | apply Kd.R_alloc | apply Kd.R_drewN | apply Kd.R_drew)); exact Kd.R_mono (Kd.R_far (p := ⟨gb187, 4, none⟩) (Kd.R_far (p := ⟨gb187, 3, none⟩) (Kd.R_far (p := ⟨gb187, 2, none⟩) (Kd.R_far (p := ⟨gb187, 1, none⟩) (Kd.R_far (p := ⟨gb187, 0, none⟩) (Kd.R_types HO_192004.out BK187.out (by decide)) (fun _ hk => by first | exact hk.2 | grind) (.int .i64 a0_0)) (fun _ hk => by first | exact hk.2 | grind) (.int .i64 a0_1)) (fun _ hk => by first | exact hk.2 | grind) (.int .i64 a0_2)) (fun _ hk => by first | exact hk.2 | grind) (.int .i64 a0_3)) (fun _ hk => by first | exact hk.2 | grind) (.slice Ao139 x192004_2.length co139)) (fun _ hk => by first | exact trivial | grind), bf_ HB⟩

/-! ### impl_VecTop: function 52 -/
def impl_VecTop.f (a0_0 : Int) (a0_1 : Int) (a0_2 : Int) : Option (Int) := some (mx (mx a0_0 a0_1) a0_2)
set_option maxHeartbeats 8000000 in
set_option maxRecDepth 100000 in
theorem impl_VecTop.calls (a0_0 : Int) (a0_1 : Int) (a0_2 : Int) (r : Int) (w : World) (h : impl_VecTop.f a0_0 a0_1 a0_2 = some r) :
  Calls Try.prog 52 #[.agg #[.int .i64 a0_0, .int .i64 a0_1, .int .i64 a0_2]] w fun e w' => e = .returned (.int .i64 r) ∧ Below w.heap.size w w' := by
 have hu28 := Try.underlying28; have HB := Aside0.mk (Below.refl w.heap.size w)
 have H := h
 clear h
 unfold impl_VecTop.f at H
 obtain ⟨ji2, hji2⟩ : ∃ j_ : Int, (mx a0_0 a0_1) = j_ := ⟨_, rfl⟩
 replace H : (some (mx (ji2) a0_2)) = some r := by first | (rw [hji2] at H; exact H) | (simp only [hji2] at H ⊢; exact H)
 have hji2_ : (if a0_0 < a0_1 then a0_1 else a0_0) = ji2 := hji2
 obtain ⟨ji3, hji3⟩ : ∃ j_ : Int, (mx (ji2) a0_2) = j_ := ⟨_, rfl⟩
 replace H : (some ji3) = some r := by first | (rw [hji3] at H; exact H) | (simp only [hji3] at H ⊢; exact H)
 have hji3_ : (if (ji2) < a0_2 then a0_2 else (ji2)) = ji3 := hji3
 obtain rfl := Option.some.inj H
 go_enter Try.func52, Try.ntmps52
 go_wp2_with (first | ((with_reducible refine gd_ 1 rfl ?_); refine bv_ 1 #[.int .i64 a0_0, .int .i64 a0_1, .int .i64 a0_2] 28 ?_; intro gb220 hg w4 hbox hb; have BK220 := Aside0.mk (hbox); have GW220 := gw_ HB hg; have GE220 := gw_ HB hg; replace HB := Aside0.mk (below_step (be_ HB) hb); clear hb hbox hg; obtain ⟨hcz5_0, hcz5_1, hcz5_2, hfz5_0, hfz5_1, hfz5_2⟩ := bz3_ BK220))
 go_ret
 exact ⟨by first | rfl | (simp [errW_none, errW_some] <;> rfl) | (simp only [← hji2, ← hji3]; first | rfl | (simp [errW_none, errW_some] <;> rfl)) | (simp [*, errW_none, errW_some] <;> rfl), bf_ HB⟩

end Go.Proofs.Ytppmbdfbhahngaa.PFnExactFairJoin
