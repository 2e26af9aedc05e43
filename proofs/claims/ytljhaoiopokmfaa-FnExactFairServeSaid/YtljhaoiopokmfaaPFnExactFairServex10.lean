-- printed by a program of this session (wip/printx) out of the translation; Lean checks it
import Derived.Test.YtljhaoiopokmfaaVFnExactFairServe
import Derived.Test.YtljhaoiopokmfaaPFnExactFairServex0
import Derived.Test.YtljhaoiopokmfaaPFnExactFairServex7
import Derived.Test.YtljhaoiopokmfaaPFnExactFairServex9
namespace Go.Proofs.Ytljhaoiopokmfaa.PFnExactFairServe
open Go.RowKit Go.Proofs.YtljhaoiopokmfaaW.PrintWords Go.Proofs.YtljhaoiopokmfaaW.PrintLast Go.Proofs.YtljhaoiopokmfaaW.PrintMore
attribute [local go_sem] max2_int min2_int max_two min_two max_three min_three max_four min_four   -- for this text's walks alone
set_option linter.unusedVariables false
set_option linter.unusedSimpArgs false

/-! ### spec_FairPick: function 20 -/
def spec_FairPick.l0 : Nat → Int → Int → Int → Int → Int → Int → List (S38) → Option (Int)
  | 0, _, _, _, _, _, _, _ => none
  | k + 1, x3, x4, x297000, x297001, x297002, x297003, x297004 => if x4 < (x297004.length : Int) then (if 0 ≤ x4 then (if (rd_T38 x297004 x4).f2 = true then (if x3 < 0 then (spec_FairPick.l0 k x4 (wrap64 (x4 + 1)) x297000 x297001 x297002 x297003 x297004) else ((spec_VecTop.f ((rd_T38 x297004 x4).f3.f0) ((rd_T38 x297004 x4).f3.f1) ((rd_T38 x297004 x4).f3.f2)).bind fun t301 => (if 0 ≤ x3 then (if x3 < (x297004.length : Int) then ((spec_VecTop.f ((rd_T38 x297004 x3).f3.f0) ((rd_T38 x297004 x3).f3.f1) ((rd_T38 x297004 x3).f3.f2)).bind fun t303 => (if t301 < t303 then (spec_FairPick.l0 k x4 (wrap64 (x4 + 1)) x297000 x297001 x297002 x297003 x297004) else (spec_FairPick.l0 k x3 (wrap64 (x4 + 1)) x297000 x297001 x297002 x297003 x297004))) else (none)) else (none)))) else (spec_FairPick.l0 k x3 (wrap64 (x4 + 1)) x297000 x297001 x297002 x297003 x297004)) else (none)) else (if x3 < 0 then (some (-1)) else (if 0 ≤ x3 then (if x3 < (x297004.length : Int) then (some ((rd_T38 x297004 x3).f0)) else (none)) else (none)))
def spec_FairPick.f (k : Nat) (a0_0 : Int) (a0_1 : Int) (a0_2 : Int) (a0_3 : Int) (l0_4 : List (S38)) : Option (Int) := (spec_FairOk.f k a0_0 a0_1 a0_2 a0_3 l0_4).bind fun t297 => (if t297 = true then (spec_FairPick.l0 k (-1) 0 a0_0 a0_1 a0_2 a0_3 l0_4) else (some (-1)))
theorem spec_FairPick.mono_l : ∀ k, (∀ y0 y1 y2 y3 y4 y5 y6, LeO (spec_FairPick.l0 k y0 y1 y2 y3 y4 y5 y6) (spec_FairPick.l0 (k + 1) y0 y1 y2 y3 y4 y5 y6))
 | 0 => fun _ _ _ _ _ _ _ r h => by simp [spec_FairPick.l0] at h
 | k + 1 => by
  have ih0 := spec_FairPick.mono_l k
  ·intro y0 y1 y2 y3 y4 y5 y6
   unfold spec_FairPick.l0
   repeat' first
   | (with_reducible exact ih0 _ _ _ _ _ _ _)
   | (with_reducible exact spec_FairOk.mono _ _ _ _ _ _)
   | (with_reducible exact LeO.refl _)
   | (with_reducible exact LeO.none _)
   | (with_reducible refine LeO.ite ?_ ?_)
   | (with_reducible refine LeO.bind ?_ (fun _ => ?_))
   | exact ih0 _ _ _ _ _ _ _
   | exact spec_FairOk.mono _ _ _ _ _ _
   | exact LeO.none _
   | refine LeO.ite ?_ ?_
   | refine LeO.bind ?_ (fun _ => ?_)
theorem spec_FairPick.mono : ∀ a0 a1 a2 a3 a4 k, LeO (spec_FairPick.f k a0 a1 a2 a3 a4) (spec_FairPick.f (k + 1) a0 a1 a2 a3 a4) := by
 intro a0 a1 a2 a3 a4 k
 have ih0 := spec_FairPick.mono_l k
 unfold spec_FairPick.f
 repeat' first
   | (with_reducible exact ih0 _ _ _ _ _ _ _)
   | (with_reducible exact spec_FairOk.mono _ _ _ _ _ _)
   | (with_reducible exact LeO.refl _)
   | (with_reducible exact LeO.none _)
   | (with_reducible refine LeO.ite ?_ ?_)
   | (with_reducible refine LeO.bind ?_ (fun _ => ?_))
   | exact ih0 _ _ _ _ _ _ _
   | exact spec_FairOk.mono _ _ _ _ _ _
   | exact LeO.none _
   | refine LeO.ite ?_ ?_
   | refine LeO.bind ?_ (fun _ => ?_)
def spec_FairPick.T7 : Bool × List (List Nat × List Nat) := (true, [([], []), ([0], [0]), ([], []), ([1, 2], [1, 2]), ([3], [3]), ([4], [4]), ([5], [5]), ([6], [6]), ([7, 6], [6, 7]), ([8, 6, 6], [6, 8]), ([9], [9]), ([10, 9], [9, 10]), ([9], [9]), ([11, 12, 9], [9, 11, 12]), ([13, 9], [9, 13]), ([14, 9], [9, 14]), ([15, 9, 9], [9, 15]), ([9], [9]), ([17, 9], [9, 17]), ([9], [9]), ([18, 19, 9], [9, 18, 19]), ([20, 9], [9, 20]), ([21, 9], [9, 21]), ([22, 16, 9], [9, 22]), ([16, 23, 9], [9, 16, 23]), ([9, 24, 6], [6, 9, 24]), ([6, 25], [6, 25])])
def spec_FairPick.B7 : List Nat := [0, 1, 0, 7, 15, 31, 63, 127, 255, 511, 1023, 2047, 1023, 8191, 16383, 32767, 65535, 1023, 132095, 1023, 918527, 1967103, 4064255, 8388607, 16777215, 33554431, 67108863]
theorem spec_FairPick.tab7 : rtab .any (opsOf Try.f20 7) = spec_FairPick.T7 := by kernel_rfl
theorem spec_FairPick.bits7 : waitsOk spec_FairPick.T7.2 spec_FairPick.B7 = true := by kernel_rfl
set_option maxHeartbeats 8000000 in
set_option maxRecDepth 100000 in
theorem spec_FairPick.calls (k : Nat) (a0_0 : Int) (a0_1 : Int) (a0_2 : Int) (a0_3 : Int) (A0_4 : Option Addr) (c0_4 : Nat) (l0_4 : List (S38)) (r : Int) (w : World) (hr0_4 : Kd.C k38 w A0_4 l0_4.length l0_4) (hc0_4 : l0_4.length ≤ c0_4) (h : spec_FairPick.f k a0_0 a0_1 a0_2 a0_3 l0_4 = some r) :
  Calls Try.prog 20 #[.agg #[.int .i64 a0_0, .int .i64 a0_1, .int .i64 a0_2, .int .i64 a0_3, .slice A0_4 l0_4.length c0_4]] w fun e w' => e = .returned (.int .i64 r) ∧ Below w.heap.size w w' := by
 have hu32 := Try.underlying32; have hu29 := Try.underlying29
 have HR0_4 := Aside0.mk hr0_4
 have HC0_4 := Aside0.mk hc0_4
 clear hr0_4 hc0_4; have HB := Aside0.mk (Below.refl w.heap.size w)
 have H : ((spec_FairOk.f k a0_0 a0_1 a0_2 a0_3 l0_4).bind fun t297 => (if t297 = true then (spec_FairPick.l0 k (-1) 0 a0_0 a0_1 a0_2 a0_3 l0_4) else (some (-1)))) = some r := h
 clear h
 replace H := Option.bind_eq_some_iff.mp H
 obtain ⟨t297, A20, H⟩ := H
 replace H : (if t297 = true then (spec_FairPick.l0 k (-1) 0 a0_0 a0_1 a0_2 a0_3 l0_4) else (some (-1))) = some r := H
 have A2 := Aside0.mk A20
 clear A20
 by_cases c3 : t297 = true
 ·subst c3
  have H1 : (spec_FairPick.l0 k (-1) 0 a0_0 a0_1 a0_2 a0_3 l0_4) = some r := by rw [if_pos rfl] at H; exact H
  clear H
  have H := H1
  clear H1
  have H' := Aside0.mk H
  clear H
  go_enter Try.func20, Try.ntmps20
  go_wp2_with (first | ((with_reducible refine gd_ 1 rfl ?_); refine bv_ 1 #[.int .i64 a0_0, .int .i64 a0_1, .int .i64 a0_2, .int .i64 a0_3, .slice A0_4 l0_4.length c0_4] 32 ?_; intro gb296 hg w4 hbox hb; have BK296 := Aside0.mk (hbox); have GW296 := gw_ HB hg; have GE296 := gw_ HB hg; replace HB := Aside0.mk (below_step (be_ HB) hb); clear hb hbox hg; obtain ⟨hcz5_0, hcz5_1, hcz5_2, hcz5_3, hcz5_4, hfz5_0, hfz5_1, hfz5_2, hfz5_3, hfz5_4⟩ := bz5_ BK296) | ((with_reducible refine gc_ 16 rfl ?_); refine gl_ 6 Try.func16 #[.agg #[.int .i64 a0_0, .int .i64 a0_1, .int .i64 a0_2, .int .i64 a0_3, .slice A0_4 l0_4.length c0_4]] ?_; (with_reducible refine (spec_FairOk.calls k a0_0 a0_1 a0_2 a0_3 _ _ l0_4 true _ ?side1 ?side2 A2.out).mono ?_); (case side1 => repeat (first | exact (Kd.C_below HR0_4.out HB.out) | (with_reducible refine Kd.C_alloc ?_ _) | (with_reducible refine Kd.C_drewN ?_ _) | (with_reducible refine Kd.C_drew ?_))); (case side2 => exact HC0_4.out); rintro e w6 ⟨rfl, hb⟩; refine ⟨_, rfl, ?_⟩; replace BK296 := bb_ BK296 hb; replace HB := Aside0.mk (below_step (bf_ HB) hb); (try clear hb); (try clear hb2); (try clear hk); (try clear hi)))
  go_loopg [3, 4] k (fun kq v3 v4 w' => ∃ (x3_1 : Int) (x4_1 : Int), v3 = .int .i64 x3_1 ∧ v4 = .int .i64 x4_1 ∧ Aside0 (spec_FairPick.l0 kq x3_1 x4_1 a0_0 a0_1 a0_2 a0_3 l0_4 = some r) ∧ Aside0 (kq ≤ k) ∧ Aside0 (w'.heap[gb296]? = some (.cells #[.int .i64 a0_0, .int .i64 a0_1, .int .i64 a0_2, .int .i64 a0_3, (.slice A0_4 l0_4.length c0_4)] 32 (0, 0))) ∧ Aside0 (Below w.heap.size w w'))
  case atStart => exact ⟨((-1)), (0), (by first | rfl | (simp; done) | (simp [*]; done)), (by first | rfl | (simp; done) | (simp [*]; done)), H', ⟨Nat.le_refl _⟩, ⟨bk_ BK296⟩, ⟨bf_ HB⟩⟩
  case round =>
   clear H'
   (try clear c1); (try clear c2); (try clear p2); (try clear c3); (try clear hcz5_0 hcz5_1 hcz5_2 hcz5_3 hcz5_4 hfz5_0 hfz5_1 hfz5_2 hfz5_3 hfz5_4)
   obtain ⟨x3_1, x4_1, rfl, rfl, HA, HK1, BK296, HB⟩ := hrel
   cases gk with
   | zero => exact absurd HA.out (by simp [spec_FairPick.l0])
   | succ k1 =>
    have H := HA.out
    clear HA
    simp only [spec_FairPick.l0] at H
    by_cases c7 : x4_1 < (l0_4.length : Int)
    ·rw [if_pos c7] at H
     have c7b0 : decide (x4_1 < (l0_4.length : Int)) = true := decide_eq_true c7
     clear c7
     by_cases c8 : 0 ≤ x4_1
     ·rw [if_pos c8] at H
      have c8b0 : decide (0 ≤ x4_1) = true := decide_eq_true c8
      clear c8
      obtain ⟨bq9, hbq9⟩ : ∃ b_ : Bool, b_ = ((rd_T38 l0_4 x4_1).f2) := ⟨_, rfl⟩
      replace H : (if bq9 = true then (if x3_1 < 0 then (spec_FairPick.l0 k1 x4_1 (wrap64 (x4_1 + 1)) a0_0 a0_1 a0_2 a0_3 l0_4) else ((spec_VecTop.f ((rd_T38 l0_4 x4_1).f3.f0) ((rd_T38 l0_4 x4_1).f3.f1) ((rd_T38 l0_4 x4_1).f3.f2)).bind fun t301 => (if 0 ≤ x3_1 then (if x3_1 < (l0_4.length : Int) then ((spec_VecTop.f ((rd_T38 l0_4 x3_1).f3.f0) ((rd_T38 l0_4 x3_1).f3.f1) ((rd_T38 l0_4 x3_1).f3.f2)).bind fun t303 => (if t301 < t303 then (spec_FairPick.l0 k1 x4_1 (wrap64 (x4_1 + 1)) a0_0 a0_1 a0_2 a0_3 l0_4) else (spec_FairPick.l0 k1 x3_1 (wrap64 (x4_1 + 1)) a0_0 a0_1 a0_2 a0_3 l0_4))) else (none)) else (none)))) else (spec_FairPick.l0 k1 x3_1 (wrap64 (x4_1 + 1)) a0_0 a0_1 a0_2 a0_3 l0_4)) = some r := by rw [← hbq9] at H; exact H
      have Nbq9 := Aside0.mk hbq9
      clear hbq9
      by_cases c10 : bq9 = true
      ·subst c10
       have H1 : (if x3_1 < 0 then (spec_FairPick.l0 k1 x4_1 (wrap64 (x4_1 + 1)) a0_0 a0_1 a0_2 a0_3 l0_4) else ((spec_VecTop.f ((rd_T38 l0_4 x4_1).f3.f0) ((rd_T38 l0_4 x4_1).f3.f1) ((rd_T38 l0_4 x4_1).f3.f2)).bind fun t301 => (if 0 ≤ x3_1 then (if x3_1 < (l0_4.length : Int) then ((spec_VecTop.f ((rd_T38 l0_4 x3_1).f3.f0) ((rd_T38 l0_4 x3_1).f3.f1) ((rd_T38 l0_4 x3_1).f3.f2)).bind fun t303 => (if t301 < t303 then (spec_FairPick.l0 k1 x4_1 (wrap64 (x4_1 + 1)) a0_0 a0_1 a0_2 a0_3 l0_4) else (spec_FairPick.l0 k1 x3_1 (wrap64 (x4_1 + 1)) a0_0 a0_1 a0_2 a0_3 l0_4))) else (none)) else (none)))) = some r := by rw [if_pos rfl] at H; exact H
       clear H
       have H := H1
       clear H1
       by_cases c11 : x3_1 < 0
       ·rw [if_pos c11] at H
        have c11b0 : decide (x3_1 < 0) = true := decide_eq_true c11
        clear c11
        have H' := Aside0.mk H
        clear H; obtain ⟨hcz12_0, hcz12_1, hcz12_2, hcz12_3, hcz12_4, hfz12_0, hfz12_1, hfz12_2, hfz12_3, hfz12_4⟩ := bz5_ BK296
        try go_wp2
        replace BK296 := Aside0.mk (blk_drew BK296.out); replace HB := Aside0.mk (below_drew1 HB.out)
        have p299 : 0 ≤ (x4_1 : Int) := od_
        have q299 : x4_1 < (l0_4.length : Int) := od_
        obtain ⟨ad299, e299, hx299_0, hx299_1, hx299_2, hx299_3, hx299_4, hx299_5⟩ := at_T38 HR0_4.out x4_1 p299 q299
        have hw299_5 := hx299_5; have hw299_4 := hx299_4; have hw299_3 := hx299_3; have hw299_2 := hx299_2; have hw299_1 := hx299_1; have hw299_0 := hx299_0
        (try rw [← Nbq9.out] at hx299_2)
        (try rw [← Nbq9.out] at hw299_2)
        cases e299
        replace hx299_0 := hb_ HB hx299_0
        replace hx299_1 := hb_ HB hx299_1
        replace hx299_2 := hb_ HB hx299_2
        replace hx299_3 := hb_ HB hx299_3
        replace hx299_4 := hb_ HB hx299_4
        replace hx299_5 := hb_ HB hx299_5
        replace p299 := eq_true p299
        replace q299 := eq_true q299
        refine start_ (n := 27) (S := fun w' => cw_ w' gb296 0 (.int .i64 a0_0) ∧ cw_ w' gb296 1 (.int .i64 a0_1) ∧ cw_ w' gb296 2 (.int .i64 a0_2) ∧ cw_ w' gb296 3 (.int .i64 a0_3) ∧ cw_ w' gb296 4 (.slice (some ad299) l0_4.length c0_4) ∧ w'.cell? (ad299.add ((x4_1).toNat * 6)) = some (.int .i64 ((rd_T38 l0_4 x4_1).f0)) ∧ w'.cell? ⟨(ad299.add ((x4_1).toNat * 6)).block, (ad299.add ((x4_1).toNat * 6)).off + 1, none⟩ = some (.int .i64 ((rd_T38 l0_4 x4_1).f1)) ∧ w'.cell? ⟨(ad299.add ((x4_1).toNat * 6)).block, (ad299.add ((x4_1).toNat * 6)).off + 2, none⟩ = some (.bool true) ∧ w'.cell? ⟨(ad299.add ((x4_1).toNat * 6)).block, (ad299.add ((x4_1).toNat * 6)).off + 3, none⟩ = some (.int .i64 ((rd_T38 l0_4 x4_1).f3.f0)) ∧ w'.cell? ⟨(ad299.add ((x4_1).toNat * 6)).block, (ad299.add ((x4_1).toNat * 6)).off + 4, none⟩ = some (.int .i64 ((rd_T38 l0_4 x4_1).f3.f1)) ∧ w'.cell? ⟨(ad299.add ((x4_1).toNat * 6)).block, (ad299.add ((x4_1).toNat * 6)).off + 5, none⟩ = some (.int .i64 ((rd_T38 l0_4 x4_1).f3.f2))) (ds := []) (bs 27 0) (by kernel_rfl) rfl rfl ⟨bt_ BK296 0, bt_ BK296 1, bt_ BK296 2, bt_ BK296 3, bt_ BK296 4, (hd_ HB hw299_0), (hd_ HB hw299_1), (hd_ HB hw299_2), (hd_ HB hw299_3), (hd_ HB hw299_4), (hd_ HB hw299_5)⟩ (fun hHeld => ?_); refine with_tabW spec_FairPick.tab7 spec_FairPick.bits7 (fun HT_ HW_ => ?_)
        generalize wr.drew = w13 at BK296 HB hx299_0 hx299_1 hx299_2 hx299_3 hx299_4 hx299_5 hHeld ⊢
        refine ps_ 0 15 (bs 27 1) HT_ ?_
        refine ps_ 2 17 (bm 27 5) HT_ ?_
        refine tk_ 1 16 (bs 27 3) HT_ HW_ hHeld ?_
        refine ps_ 3 18 (bs 27 4) HT_ ?_
        refine ps_ 4 19 (bs 27 5) HT_ ?_
        refine tk_ 5 20 (bs 27 6) HT_ HW_ hHeld ?_
        refine ps_ 6 21 (bs 27 7) HT_ ?_
        refine ps_ 7 22 (bs 27 8) HT_ ?_
        refine ps_ 8 23 (bs 27 9) HT_ ?_
        refine ps_ 9 24 (bs 27 10) HT_ ?_
        refine pu_ 10 25 (bs 27 11) HT_ ?_
        refine pu_ 11 26 (bs 27 12) HT_ ?_
        refine pu_ 12 27 (bs 27 13) HT_ ?_
        refine pu_ 13 28 (bs 27 14) HT_ ?_
        refine pu_ 14 29 (bs 27 15) HT_ ?_
        refine pu_ 15 30 (bs 27 16) HT_ ?_
        refine pu_ 16 31 (bs 27 17) HT_ ?_
        refine pu_ 17 32 (bs 27 18) HT_ ?_
        refine pu_ 18 33 (bs 27 19) HT_ ?_
        refine pu_ 19 34 (bs 27 20) HT_ ?_
        refine pu_ 20 35 (bs 27 21) HT_ ?_
        refine pu_ 21 36 (bs 27 22) HT_ ?_
        refine pu_ 22 37 (bs 27 23) HT_ ?_
        refine pu_ 23 38 (bs 27 24) HT_ ?_
        refine pu_ 24 39 (bs 27 25) HT_ ?_
        refine ps_ 25 40 (bs 27 26) HT_ ?_
        refine ps_ 26 41 (bs 27 27) HT_ ?_
        refine done_ (done_of HT_.out (by kernel_rfl)) ?_
        try go_wp2
        go_roundg k1
        case measure => have := HK1.out; omega
        case rel => exact ⟨(x4_1), (wrap64 (x4_1 + 1)), (by first | rfl | (simp; done) | (simp [*]; done)), (by first | rfl | (simp; done) | (simp [*]; done)), H', ⟨by have := HK1.out; omega⟩, ⟨bk_ BK296⟩, ⟨bf_ HB⟩⟩
       ·rw [if_neg c11] at H
        have c11b0 : decide (x3_1 < 0) = false := decide_eq_false c11
        clear c11
        replace H := Option.bind_eq_some_iff.mp H
        obtain ⟨t301, A140, H⟩ := H
        replace H : (if 0 ≤ x3_1 then (if x3_1 < (l0_4.length : Int) then ((spec_VecTop.f ((rd_T38 l0_4 x3_1).f3.f0) ((rd_T38 l0_4 x3_1).f3.f1) ((rd_T38 l0_4 x3_1).f3.f2)).bind fun t303 => (if t301 < t303 then (spec_FairPick.l0 k1 x4_1 (wrap64 (x4_1 + 1)) a0_0 a0_1 a0_2 a0_3 l0_4) else (spec_FairPick.l0 k1 x3_1 (wrap64 (x4_1 + 1)) a0_0 a0_1 a0_2 a0_3 l0_4))) else (none)) else (none)) = some r := H
        have A14 := Aside0.mk A140
        clear A140
        by_cases c15 : 0 ≤ x3_1
        ·rw [if_pos c15] at H
         have c15b0 : decide (0 ≤ x3_1) = true := decide_eq_true c15
         clear c15
         by_cases c16 : x3_1 < (l0_4.length : Int)
         ·rw [if_pos c16] at H
          have c16b0 : decide (x3_1 < (l0_4.length : Int)) = true := decide_eq_true c16
          clear c16
          replace H := Option.bind_eq_some_iff.mp H
          obtain ⟨t303, A170, H⟩ := H
          replace H : (if t301 < t303 then (spec_FairPick.l0 k1 x4_1 (wrap64 (x4_1 + 1)) a0_0 a0_1 a0_2 a0_3 l0_4) else (spec_FairPick.l0 k1 x3_1 (wrap64 (x4_1 + 1)) a0_0 a0_1 a0_2 a0_3 l0_4)) = some r := H
          have A17 := Aside0.mk A170
          clear A170
          by_cases c18 : t301 < t303
          ·rw [if_pos c18] at H
           have c18b0 : decide (t301 < t303) = true := decide_eq_true c18
           clear c18
           have H' := Aside0.mk H
           clear H; obtain ⟨hcz19_0, hcz19_1, hcz19_2, hcz19_3, hcz19_4, hfz19_0, hfz19_1, hfz19_2, hfz19_3, hfz19_4⟩ := bz5_ BK296
           try go_wp2
           replace BK296 := Aside0.mk (blk_drew BK296.out); replace HB := Aside0.mk (below_drew1 HB.out)
           have p299 : 0 ≤ (x4_1 : Int) := od_
           have q299 : x4_1 < (l0_4.length : Int) := od_
           obtain ⟨ad299, e299, hx299_0, hx299_1, hx299_2, hx299_3, hx299_4, hx299_5⟩ := at_T38 HR0_4.out x4_1 p299 q299
           have hw299_5 := hx299_5; have hw299_4 := hx299_4; have hw299_3 := hx299_3; have hw299_2 := hx299_2; have hw299_1 := hx299_1; have hw299_0 := hx299_0
           (try rw [← Nbq9.out] at hx299_2)
           (try rw [← Nbq9.out] at hw299_2)
           cases e299
           replace hx299_0 := hb_ HB hx299_0
           replace hx299_1 := hb_ HB hx299_1
           replace hx299_2 := hb_ HB hx299_2
           replace hx299_3 := hb_ HB hx299_3
           replace hx299_4 := hb_ HB hx299_4
           replace hx299_5 := hb_ HB hx299_5
           replace p299 := eq_true p299
           replace q299 := eq_true q299
           have p300 : 0 ≤ (x4_1 : Int) := od_
           have q300 : x4_1 < (l0_4.length : Int) := od_
           obtain ⟨ad300, e300, hx300_0, hx300_1, hx300_2, hx300_3, hx300_4, hx300_5⟩ := at_T38 HR0_4.out x4_1 p300 q300
           have hw300_5 := hx300_5; have hw300_4 := hx300_4; have hw300_3 := hx300_3; have hw300_2 := hx300_2; have hw300_1 := hx300_1; have hw300_0 := hx300_0
           (try rw [← Nbq9.out] at hx300_2)
           (try rw [← Nbq9.out] at hw300_2)
           obtain rfl : ad299 = ad300 := (by injection e300)
           replace hx300_0 := hb_ HB hx300_0
           replace hx300_1 := hb_ HB hx300_1
           replace hx300_2 := hb_ HB hx300_2
           replace hx300_3 := hb_ HB hx300_3
           replace hx300_4 := hb_ HB hx300_4
           replace hx300_5 := hb_ HB hx300_5
           replace p300 := eq_true p300
           replace q300 := eq_true q300
           have p302 : 0 ≤ (x3_1 : Int) := od_
           have q302 : x3_1 < (l0_4.length : Int) := od_
           obtain ⟨ad302, e302, hx302_0, hx302_1, hx302_2, hx302_3, hx302_4, hx302_5⟩ := at_T38 HR0_4.out x3_1 p302 q302
           have hw302_5 := hx302_5; have hw302_4 := hx302_4; have hw302_3 := hx302_3; have hw302_2 := hx302_2; have hw302_1 := hx302_1; have hw302_0 := hx302_0
           (try rw [← Nbq9.out] at hx302_2)
           (try rw [← Nbq9.out] at hw302_2)
           obtain rfl : ad299 = ad302 := (by injection e302)
           replace hx302_0 := hb_ HB hx302_0
           replace hx302_1 := hb_ HB hx302_1
           replace hx302_2 := hb_ HB hx302_2
           replace hx302_3 := hb_ HB hx302_3
           replace hx302_4 := hb_ HB hx302_4
           replace hx302_5 := hb_ HB hx302_5
           replace p302 := eq_true p302
           replace q302 := eq_true q302
           refine start_ (n := 27) (S := fun w' => cw_ w' gb296 0 (.int .i64 a0_0) ∧ cw_ w' gb296 1 (.int .i64 a0_1) ∧ cw_ w' gb296 2 (.int .i64 a0_2) ∧ cw_ w' gb296 3 (.int .i64 a0_3) ∧ cw_ w' gb296 4 (.slice (some ad299) l0_4.length c0_4) ∧ w'.cell? (ad299.add ((x4_1).toNat * 6)) = some (.int .i64 ((rd_T38 l0_4 x4_1).f0)) ∧ w'.cell? ⟨(ad299.add ((x4_1).toNat * 6)).block, (ad299.add ((x4_1).toNat * 6)).off + 1, none⟩ = some (.int .i64 ((rd_T38 l0_4 x4_1).f1)) ∧ w'.cell? ⟨(ad299.add ((x4_1).toNat * 6)).block, (ad299.add ((x4_1).toNat * 6)).off + 2, none⟩ = some (.bool true) ∧ w'.cell? ⟨(ad299.add ((x4_1).toNat * 6)).block, (ad299.add ((x4_1).toNat * 6)).off + 3, none⟩ = some (.int .i64 ((rd_T38 l0_4 x4_1).f3.f0)) ∧ w'.cell? ⟨(ad299.add ((x4_1).toNat * 6)).block, (ad299.add ((x4_1).toNat * 6)).off + 4, none⟩ = some (.int .i64 ((rd_T38 l0_4 x4_1).f3.f1)) ∧ w'.cell? ⟨(ad299.add ((x4_1).toNat * 6)).block, (ad299.add ((x4_1).toNat * 6)).off + 5, none⟩ = some (.int .i64 ((rd_T38 l0_4 x4_1).f3.f2)) ∧ w'.cell? (ad299.add ((x4_1).toNat * 6)) = some (.int .i64 ((rd_T38 l0_4 x4_1).f0)) ∧ w'.cell? ⟨(ad299.add ((x4_1).toNat * 6)).block, (ad299.add ((x4_1).toNat * 6)).off + 1, none⟩ = some (.int .i64 ((rd_T38 l0_4 x4_1).f1)) ∧ w'.cell? ⟨(ad299.add ((x4_1).toNat * 6)).block, (ad299.add ((x4_1).toNat * 6)).off + 2, none⟩ = some (.bool (true)) ∧ w'.cell? ⟨(ad299.add ((x4_1).toNat * 6)).block, (ad299.add ((x4_1).toNat * 6)).off + 3, none⟩ = some (.int .i64 ((rd_T38 l0_4 x4_1).f3.f0)) ∧ w'.cell? ⟨(ad299.add ((x4_1).toNat * 6)).block, (ad299.add ((x4_1).toNat * 6)).off + 4, none⟩ = some (.int .i64 ((rd_T38 l0_4 x4_1).f3.f1)) ∧ w'.cell? ⟨(ad299.add ((x4_1).toNat * 6)).block, (ad299.add ((x4_1).toNat * 6)).off + 5, none⟩ = some (.int .i64 ((rd_T38 l0_4 x4_1).f3.f2)) ∧ w'.cell? (ad299.add ((x3_1).toNat * 6)) = some (.int .i64 ((rd_T38 l0_4 x3_1).f0)) ∧ w'.cell? ⟨(ad299.add ((x3_1).toNat * 6)).block, (ad299.add ((x3_1).toNat * 6)).off + 1, none⟩ = some (.int .i64 ((rd_T38 l0_4 x3_1).f1)) ∧ w'.cell? ⟨(ad299.add ((x3_1).toNat * 6)).block, (ad299.add ((x3_1).toNat * 6)).off + 2, none⟩ = some (.bool ((rd_T38 l0_4 x3_1).f2)) ∧ w'.cell? ⟨(ad299.add ((x3_1).toNat * 6)).block, (ad299.add ((x3_1).toNat * 6)).off + 3, none⟩ = some (.int .i64 ((rd_T38 l0_4 x3_1).f3.f0)) ∧ w'.cell? ⟨(ad299.add ((x3_1).toNat * 6)).block, (ad299.add ((x3_1).toNat * 6)).off + 4, none⟩ = some (.int .i64 ((rd_T38 l0_4 x3_1).f3.f1)) ∧ w'.cell? ⟨(ad299.add ((x3_1).toNat * 6)).block, (ad299.add ((x3_1).toNat * 6)).off + 5, none⟩ = some (.int .i64 ((rd_T38 l0_4 x3_1).f3.f2))) (ds := []) (bs 27 0) (by kernel_rfl) rfl rfl ⟨bt_ BK296 0, bt_ BK296 1, bt_ BK296 2, bt_ BK296 3, bt_ BK296 4, (hd_ HB hw299_0), (hd_ HB hw299_1), (hd_ HB hw299_2), (hd_ HB hw299_3), (hd_ HB hw299_4), (hd_ HB hw299_5), (hd_ HB hw300_0), (hd_ HB hw300_1), (hd_ HB hw300_2), (hd_ HB hw300_3), (hd_ HB hw300_4), (hd_ HB hw300_5), (hd_ HB hw302_0), (hd_ HB hw302_1), (hd_ HB hw302_2), (hd_ HB hw302_3), (hd_ HB hw302_4), (hd_ HB hw302_5)⟩ (fun hHeld => ?_); refine with_tabW spec_FairPick.tab7 spec_FairPick.bits7 (fun HT_ HW_ => ?_)
           generalize wr.drew = w20 at BK296 HB hx299_0 hx299_1 hx299_2 hx299_3 hx299_4 hx299_5 hx300_0 hx300_1 hx300_2 hx300_3 hx300_4 hx300_5 hx302_0 hx302_1 hx302_2 hx302_3 hx302_4 hx302_5 hHeld ⊢
           refine ps_ 0 15 (bs 27 1) HT_ ?_
           refine ps_ 2 17 (bm 27 5) HT_ ?_
           refine tk_ 1 16 (bs 27 3) HT_ HW_ hHeld ?_
           refine ps_ 3 18 (bs 27 4) HT_ ?_
           refine ps_ 4 19 (bs 27 5) HT_ ?_
           refine tk_ 5 20 (bs 27 6) HT_ HW_ hHeld ?_
           refine ps_ 6 21 (bs 27 7) HT_ ?_
           refine ps_ 7 22 (bs 27 8) HT_ ?_
           refine ps_ 8 23 (bs 27 9) HT_ ?_
           refine ps_ 9 24 (bs 27 10) HT_ ?_
           refine ps_ 10 25 (bs 27 11) HT_ ?_
           refine ps_ 12 27 (bm 27 6143) HT_ ?_
           refine ps_ 17 32 (bm 27 137215) HT_ ?_
           refine ps_ 19 34 (bm 27 661503) HT_ ?_
           refine tk_ 11 26 (bm 27 663551) HT_ HW_ hHeld ?_
           refine ps_ 13 28 (bm 27 671743) HT_ ?_
           refine ps_ 14 29 (bm 27 688127) HT_ ?_
           refine tk_ 15 30 (bm 27 720895) HT_ HW_ hHeld ?_
           refine tk_ 18 33 (bm 27 983039) HT_ HW_ hHeld ?_
           refine ps_ 20 35 (bm 27 2031615) HT_ ?_
           refine ps_ 21 36 (bm 27 4128767) HT_ ?_
           refine tk_ 22 37 (bm 27 8323071) HT_ HW_ hHeld ?_
           refine on_ 16 (some 31) (bs 27 23) HT_ (fun K hK => ?_)
           refine gs_ Try.func40 #[.agg #[.int .i64 ((rd_T38 l0_4 x4_1).f3.f0), .int .i64 ((rd_T38 l0_4 x4_1).f3.f1), .int .i64 ((rd_T38 l0_4 x4_1).f3.f2)]] ?_
           with_reducible refine (spec_VecTop.calls ((rd_T38 l0_4 x4_1).f3.f0) ((rd_T38 l0_4 x4_1).f3.f1) ((rd_T38 l0_4 x4_1).f3.f2) t301 _ A14.out).mono ?_
           rintro e w21 ⟨rfl, hb⟩
           refine ⟨_, rfl, ?_⟩
           replace BK296 := bb_ BK296 hb; replace HB := Aside0.mk (below_step (bf_ HB) hb); (try clear hb); (try clear hb2); (try clear hk); (try clear hi)
           refine hK.out _ _ ⟨bt_ BK296 0, bt_ BK296 1, bt_ BK296 2, bt_ BK296 3, bt_ BK296 4, (hd_ HB hw299_0), (hd_ HB hw299_1), (hd_ HB hw299_2), (hd_ HB hw299_3), (hd_ HB hw299_4), (hd_ HB hw299_5), (hd_ HB hw300_0), (hd_ HB hw300_1), (hd_ HB hw300_2), (hd_ HB hw300_3), (hd_ HB hw300_4), (hd_ HB hw300_5), (hd_ HB hw302_0), (hd_ HB hw302_1), (hd_ HB hw302_2), (hd_ HB hw302_3), (hd_ HB hw302_4), (hd_ HB hw302_5)⟩ (fun hHeld => ?_)
           clear hK K
           refine norm_ (a' := ?_) ?_ ?_
           rotate_left
           ·show Act.put _ (some 31) _ = _
            simp only [Act.put, ls0_, ls1_, ls2_, i64_w, i32_w]
            rfl
           refine on_ 23 (some 38) (bs 27 24) HT_ (fun K hK => ?_)
           refine gs_ Try.func40 #[.agg #[.int .i64 ((rd_T38 l0_4 x3_1).f3.f0), .int .i64 ((rd_T38 l0_4 x3_1).f3.f1), .int .i64 ((rd_T38 l0_4 x3_1).f3.f2)]] ?_
           with_reducible refine (spec_VecTop.calls ((rd_T38 l0_4 x3_1).f3.f0) ((rd_T38 l0_4 x3_1).f3.f1) ((rd_T38 l0_4 x3_1).f3.f2) t303 _ A17.out).mono ?_
           rintro e w22 ⟨rfl, hb⟩
           refine ⟨_, rfl, ?_⟩
           replace BK296 := bb_ BK296 hb; replace HB := Aside0.mk (below_step (bf_ HB) hb); (try clear hb); (try clear hb2); (try clear hk); (try clear hi)
           refine hK.out _ _ ⟨bt_ BK296 0, bt_ BK296 1, bt_ BK296 2, bt_ BK296 3, bt_ BK296 4, (hd_ HB hw299_0), (hd_ HB hw299_1), (hd_ HB hw299_2), (hd_ HB hw299_3), (hd_ HB hw299_4), (hd_ HB hw299_5), (hd_ HB hw300_0), (hd_ HB hw300_1), (hd_ HB hw300_2), (hd_ HB hw300_3), (hd_ HB hw300_4), (hd_ HB hw300_5), (hd_ HB hw302_0), (hd_ HB hw302_1), (hd_ HB hw302_2), (hd_ HB hw302_3), (hd_ HB hw302_4), (hd_ HB hw302_5)⟩ (fun hHeld => ?_)
           clear hK K
           refine norm_ (a' := ?_) ?_ ?_
           rotate_left
           ·show Act.put _ (some 38) _ = _
            simp only [Act.put, ls0_, ls1_, ls2_, i64_w, i32_w]
            rfl
           refine ps_ 24 39 (bs 27 25) HT_ ?_
           refine ps_ 25 40 (bs 27 26) HT_ ?_
           refine ps_ 26 41 (bs 27 27) HT_ ?_
           refine done_ (done_of HT_.out (by kernel_rfl)) ?_
           try go_wp2
           go_roundg k1
           case measure => have := HK1.out; omega
           case rel => exact ⟨(x4_1), (wrap64 (x4_1 + 1)), (by first | rfl | (simp; done) | (simp [*]; done)), (by first | rfl | (simp; done) | (simp [*]; done)), H', ⟨by have := HK1.out; omega⟩, ⟨bk_ BK296⟩, ⟨bf_ HB⟩⟩
          ·rw [if_neg c18] at H
           have c18b0 : decide (t301 < t303) = false := decide_eq_false c18
           clear c18
           have H' := Aside0.mk H
           clear H; obtain ⟨hcz23_0, hcz23_1, hcz23_2, hcz23_3, hcz23_4, hfz23_0, hfz23_1, hfz23_2, hfz23_3, hfz23_4⟩ := bz5_ BK296
           try go_wp2
           replace BK296 := Aside0.mk (blk_drew BK296.out); replace HB := Aside0.mk (below_drew1 HB.out)
           have p299 : 0 ≤ (x4_1 : Int) := od_
           have q299 : x4_1 < (l0_4.length : Int) := od_
           obtain ⟨ad299, e299, hx299_0, hx299_1, hx299_2, hx299_3, hx299_4, hx299_5⟩ := at_T38 HR0_4.out x4_1 p299 q299
           have hw299_5 := hx299_5; have hw299_4 := hx299_4; have hw299_3 := hx299_3; have hw299_2 := hx299_2; have hw299_1 := hx299_1; have hw299_0 := hx299_0
           (try rw [← Nbq9.out] at hx299_2)
           (try rw [← Nbq9.out] at hw299_2)
           cases e299
           replace hx299_0 := hb_ HB hx299_0
           replace hx299_1 := hb_ HB hx299_1
           replace hx299_2 := hb_ HB hx299_2
           replace hx299_3 := hb_ HB hx299_3
           replace hx299_4 := hb_ HB hx299_4
           replace hx299_5 := hb_ HB hx299_5
           replace p299 := eq_true p299
           replace q299 := eq_true q299
           have p300 : 0 ≤ (x4_1 : Int) := od_
           have q300 : x4_1 < (l0_4.length : Int) := od_
           obtain ⟨ad300, e300, hx300_0, hx300_1, hx300_2, hx300_3, hx300_4, hx300_5⟩ := at_T38 HR0_4.out x4_1 p300 q300
           have hw300_5 := hx300_5; have hw300_4 := hx300_4; have hw300_3 := hx300_3; have hw300_2 := hx300_2; have hw300_1 := hx300_1; have hw300_0 := hx300_0
           (try rw [← Nbq9.out] at hx300_2)
           (try rw [← Nbq9.out] at hw300_2)
           obtain rfl : ad299 = ad300 := (by injection e300)
           replace hx300_0 := hb_ HB hx300_0
           replace hx300_1 := hb_ HB hx300_1
           replace hx300_2 := hb_ HB hx300_2
           replace hx300_3 := hb_ HB hx300_3
           replace hx300_4 := hb_ HB hx300_4
           replace hx300_5 := hb_ HB hx300_5
           replace p300 := eq_true p300
           replace q300 := eq_true q300
           have p302 : 0 ≤ (x3_1 : Int) := od_
           have q302 : x3_1 < (l0_4.length : Int) := od_
           obtain ⟨ad302, e302, hx302_0, hx302_1, hx302_2, hx302_3, hx302_4, hx302_5⟩ := at_T38 HR0_4.out x3_1 p302 q302
           have hw302_5 := hx302_5; have hw302_4 := hx302_4; have hw302_3 := hx302_3; have hw302_2 := hx302_2; have hw302_1 := hx302_1; have hw302_0 := hx302_0
           (try rw [← Nbq9.out] at hx302_2)
           (try rw [← Nbq9.out] at hw302_2)
           obtain rfl : ad299 = ad302 := (by injection e302)
           replace hx302_0 := hb_ HB hx302_0
           replace hx302_1 := hb_ HB hx302_1
           replace hx302_2 := hb_ HB hx302_2
           replace hx302_3 := hb_ HB hx302_3
           replace hx302_4 := hb_ HB hx302_4
           replace hx302_5 := hb_ HB hx302_5
           replace p302 := eq_true p302
           replace q302 := eq_true q302
           refine start_ (n := 27) (S := fun w' => cw_ w' gb296 0 (.int .i64 a0_0) ∧ cw_ w' gb296 1 (.int .i64 a0_1) ∧ cw_ w' gb296 2 (.int .i64 a0_2) ∧ cw_ w' gb296 3 (.int .i64 a0_3) ∧ cw_ w' gb296 4 (.slice (some ad299) l0_4.length c0_4) ∧ w'.cell? (ad299.add ((x4_1).toNat * 6)) = some (.int .i64 ((rd_T38 l0_4 x4_1).f0)) ∧ w'.cell? ⟨(ad299.add ((x4_1).toNat * 6)).block, (ad299.add ((x4_1).toNat * 6)).off + 1, none⟩ = some (.int .i64 ((rd_T38 l0_4 x4_1).f1)) ∧ w'.cell? ⟨(ad299.add ((x4_1).toNat * 6)).block, (ad299.add ((x4_1).toNat * 6)).off + 2, none⟩ = some (.bool true) ∧ w'.cell? ⟨(ad299.add ((x4_1).toNat * 6)).block, (ad299.add ((x4_1).toNat * 6)).off + 3, none⟩ = some (.int .i64 ((rd_T38 l0_4 x4_1).f3.f0)) ∧ w'.cell? ⟨(ad299.add ((x4_1).toNat * 6)).block, (ad299.add ((x4_1).toNat * 6)).off + 4, none⟩ = some (.int .i64 ((rd_T38 l0_4 x4_1).f3.f1)) ∧ w'.cell? ⟨(ad299.add ((x4_1).toNat * 6)).block, (ad299.add ((x4_1).toNat * 6)).off + 5, none⟩ = some (.int .i64 ((rd_T38 l0_4 x4_1).f3.f2)) ∧ w'.cell? (ad299.add ((x4_1).toNat * 6)) = some (.int .i64 ((rd_T38 l0_4 x4_1).f0)) ∧ w'.cell? ⟨(ad299.add ((x4_1).toNat * 6)).block, (ad299.add ((x4_1).toNat * 6)).off + 1, none⟩ = some (.int .i64 ((rd_T38 l0_4 x4_1).f1)) ∧ w'.cell? ⟨(ad299.add ((x4_1).toNat * 6)).block, (ad299.add ((x4_1).toNat * 6)).off + 2, none⟩ = some (.bool (true)) ∧ w'.cell? ⟨(ad299.add ((x4_1).toNat * 6)).block, (ad299.add ((x4_1).toNat * 6)).off + 3, none⟩ = some (.int .i64 ((rd_T38 l0_4 x4_1).f3.f0)) ∧ w'.cell? ⟨(ad299.add ((x4_1).toNat * 6)).block, (ad299.add ((x4_1).toNat * 6)).off + 4, none⟩ = some (.int .i64 ((rd_T38 l0_4 x4_1).f3.f1)) ∧ w'.cell? ⟨(ad299.add ((x4_1).toNat * 6)).block, (ad299.add ((x4_1).toNat * 6)).off + 5, none⟩ = some (.int .i64 ((rd_T38 l0_4 x4_1).f3.f2)) ∧ w'.cell? (ad299.add ((x3_1).toNat * 6)) = some (.int .i64 ((rd_T38 l0_4 x3_1).f0)) ∧ w'.cell? ⟨(ad299.add ((x3_1).toNat * 6)).block, (ad299.add ((x3_1).toNat * 6)).off + 1, none⟩ = some (.int .i64 ((rd_T38 l0_4 x3_1).f1)) ∧ w'.cell? ⟨(ad299.add ((x3_1).toNat * 6)).block, (ad299.add ((x3_1).toNat * 6)).off + 2, none⟩ = some (.bool ((rd_T38 l0_4 x3_1).f2)) ∧ w'.cell? ⟨(ad299.add ((x3_1).toNat * 6)).block, (ad299.add ((x3_1).toNat * 6)).off + 3, none⟩ = some (.int .i64 ((rd_T38 l0_4 x3_1).f3.f0)) ∧ w'.cell? ⟨(ad299.add ((x3_1).toNat * 6)).block, (ad299.add ((x3_1).toNat * 6)).off + 4, none⟩ = some (.int .i64 ((rd_T38 l0_4 x3_1).f3.f1)) ∧ w'.cell? ⟨(ad299.add ((x3_1).toNat * 6)).block, (ad299.add ((x3_1).toNat * 6)).off + 5, none⟩ = some (.int .i64 ((rd_T38 l0_4 x3_1).f3.f2))) (ds := []) (bs 27 0) (by kernel_rfl) rfl rfl ⟨bt_ BK296 0, bt_ BK296 1, bt_ BK296 2, bt_ BK296 3, bt_ BK296 4, (hd_ HB hw299_0), (hd_ HB hw299_1), (hd_ HB hw299_2), (hd_ HB hw299_3), (hd_ HB hw299_4), (hd_ HB hw299_5), (hd_ HB hw300_0), (hd_ HB hw300_1), (hd_ HB hw300_2), (hd_ HB hw300_3), (hd_ HB hw300_4), (hd_ HB hw300_5), (hd_ HB hw302_0), (hd_ HB hw302_1), (hd_ HB hw302_2), (hd_ HB hw302_3), (hd_ HB hw302_4), (hd_ HB hw302_5)⟩ (fun hHeld => ?_); refine with_tabW spec_FairPick.tab7 spec_FairPick.bits7 (fun HT_ HW_ => ?_)
           generalize wr.drew = w24 at BK296 HB hx299_0 hx299_1 hx299_2 hx299_3 hx299_4 hx299_5 hx300_0 hx300_1 hx300_2 hx300_3 hx300_4 hx300_5 hx302_0 hx302_1 hx302_2 hx302_3 hx302_4 hx302_5 hHeld ⊢
           refine ps_ 0 15 (bs 27 1) HT_ ?_
           refine ps_ 2 17 (bm 27 5) HT_ ?_
           refine tk_ 1 16 (bs 27 3) HT_ HW_ hHeld ?_
           refine ps_ 3 18 (bs 27 4) HT_ ?_
           refine ps_ 4 19 (bs 27 5) HT_ ?_
           refine tk_ 5 20 (bs 27 6) HT_ HW_ hHeld ?_
           refine ps_ 6 21 (bs 27 7) HT_ ?_
           refine ps_ 7 22 (bs 27 8) HT_ ?_
           refine ps_ 8 23 (bs 27 9) HT_ ?_
           refine ps_ 9 24 (bs 27 10) HT_ ?_
           refine ps_ 10 25 (bs 27 11) HT_ ?_
           refine ps_ 12 27 (bm 27 6143) HT_ ?_
           refine ps_ 17 32 (bm 27 137215) HT_ ?_
           refine ps_ 19 34 (bm 27 661503) HT_ ?_
           refine tk_ 11 26 (bm 27 663551) HT_ HW_ hHeld ?_
           refine ps_ 13 28 (bm 27 671743) HT_ ?_
           refine ps_ 14 29 (bm 27 688127) HT_ ?_
           refine tk_ 15 30 (bm 27 720895) HT_ HW_ hHeld ?_
           refine tk_ 18 33 (bm 27 983039) HT_ HW_ hHeld ?_
           refine ps_ 20 35 (bm 27 2031615) HT_ ?_
           refine ps_ 21 36 (bm 27 4128767) HT_ ?_
           refine tk_ 22 37 (bm 27 8323071) HT_ HW_ hHeld ?_
           refine on_ 16 (some 31) (bs 27 23) HT_ (fun K hK => ?_)
           refine gs_ Try.func40 #[.agg #[.int .i64 ((rd_T38 l0_4 x4_1).f3.f0), .int .i64 ((rd_T38 l0_4 x4_1).f3.f1), .int .i64 ((rd_T38 l0_4 x4_1).f3.f2)]] ?_
           with_reducible refine (spec_VecTop.calls ((rd_T38 l0_4 x4_1).f3.f0) ((rd_T38 l0_4 x4_1).f3.f1) ((rd_T38 l0_4 x4_1).f3.f2) t301 _ A14.out).mono ?_
           rintro e w25 ⟨rfl, hb⟩
           refine ⟨_, rfl, ?_⟩
           replace BK296 := bb_ BK296 hb; replace HB := Aside0.mk (below_step (bf_ HB) hb); (try clear hb); (try clear hb2); (try clear hk); (try clear hi)
           refine hK.out _ _ ⟨bt_ BK296 0, bt_ BK296 1, bt_ BK296 2, bt_ BK296 3, bt_ BK296 4, (hd_ HB hw299_0), (hd_ HB hw299_1), (hd_ HB hw299_2), (hd_ HB hw299_3), (hd_ HB hw299_4), (hd_ HB hw299_5), (hd_ HB hw300_0), (hd_ HB hw300_1), (hd_ HB hw300_2), (hd_ HB hw300_3), (hd_ HB hw300_4), (hd_ HB hw300_5), (hd_ HB hw302_0), (hd_ HB hw302_1), (hd_ HB hw302_2), (hd_ HB hw302_3), (hd_ HB hw302_4), (hd_ HB hw302_5)⟩ (fun hHeld => ?_)
           clear hK K
           refine norm_ (a' := ?_) ?_ ?_
           rotate_left
           ·show Act.put _ (some 31) _ = _
            simp only [Act.put, ls0_, ls1_, ls2_, i64_w, i32_w]
            rfl
           refine on_ 23 (some 38) (bs 27 24) HT_ (fun K hK => ?_)
           refine gs_ Try.func40 #[.agg #[.int .i64 ((rd_T38 l0_4 x3_1).f3.f0), .int .i64 ((rd_T38 l0_4 x3_1).f3.f1), .int .i64 ((rd_T38 l0_4 x3_1).f3.f2)]] ?_
           with_reducible refine (spec_VecTop.calls ((rd_T38 l0_4 x3_1).f3.f0) ((rd_T38 l0_4 x3_1).f3.f1) ((rd_T38 l0_4 x3_1).f3.f2) t303 _ A17.out).mono ?_
           rintro e w26 ⟨rfl, hb⟩
           refine ⟨_, rfl, ?_⟩
           replace BK296 := bb_ BK296 hb; replace HB := Aside0.mk (below_step (bf_ HB) hb); (try clear hb); (try clear hb2); (try clear hk); (try clear hi)
           refine hK.out _ _ ⟨bt_ BK296 0, bt_ BK296 1, bt_ BK296 2, bt_ BK296 3, bt_ BK296 4, (hd_ HB hw299_0), (hd_ HB hw299_1), (hd_ HB hw299_2), (hd_ HB hw299_3), (hd_ HB hw299_4), (hd_ HB hw299_5), (hd_ HB hw300_0), (hd_ HB hw300_1), (hd_ HB hw300_2), (hd_ HB hw300_3), (hd_ HB hw300_4), (hd_ HB hw300_5), (hd_ HB hw302_0), (hd_ HB hw302_1), (hd_ HB hw302_2), (hd_ HB hw302_3), (hd_ HB hw302_4), (hd_ HB hw302_5)⟩ (fun hHeld => ?_)
           clear hK K
           refine norm_ (a' := ?_) ?_ ?_
           rotate_left
           ·show Act.put _ (some 38) _ = _
            simp only [Act.put, ls0_, ls1_, ls2_, i64_w, i32_w]
            rfl
           refine ps_ 24 39 (bs 27 25) HT_ ?_
           refine ps_ 25 40 (bs 27 26) HT_ ?_
           refine ps_ 26 41 (bs 27 27) HT_ ?_
           refine done_ (done_of HT_.out (by kernel_rfl)) ?_
           try go_wp2
           go_roundg k1
           case measure => have := HK1.out; omega
           case rel => exact ⟨(x3_1), (wrap64 (x4_1 + 1)), (by first | rfl | (simp; done) | (simp [*]; done)), (by first | rfl | (simp; done) | (simp [*]; done)), H', ⟨by have := HK1.out; omega⟩, ⟨bk_ BK296⟩, ⟨bf_ HB⟩⟩
         ·rw [if_neg c16] at H
          exact absurd H (by simp)
        ·rw [if_neg c15] at H
         exact absurd H (by simp)
      ·replace c10 := Bool.eq_false_iff.mpr c10
       subst c10
       have H1 : (spec_FairPick.l0 k1 x3_1 (wrap64 (x4_1 + 1)) a0_0 a0_1 a0_2 a0_3 l0_4) = some r := by rw [if_neg (show ¬ (false = true) by decide)] at H; exact H
       clear H
       have H := H1
       clear H1
       have H' := Aside0.mk H
       clear H; obtain ⟨hcz27_0, hcz27_1, hcz27_2, hcz27_3, hcz27_4, hfz27_0, hfz27_1, hfz27_2, hfz27_3, hfz27_4⟩ := bz5_ BK296
       try go_wp2
       replace BK296 := Aside0.mk (blk_drew BK296.out); replace HB := Aside0.mk (below_drew1 HB.out)
       have p299 : 0 ≤ (x4_1 : Int) := od_
       have q299 : x4_1 < (l0_4.length : Int) := od_
       obtain ⟨ad299, e299, hx299_0, hx299_1, hx299_2, hx299_3, hx299_4, hx299_5⟩ := at_T38 HR0_4.out x4_1 p299 q299
       have hw299_5 := hx299_5; have hw299_4 := hx299_4; have hw299_3 := hx299_3; have hw299_2 := hx299_2; have hw299_1 := hx299_1; have hw299_0 := hx299_0
       (try rw [← Nbq9.out] at hx299_2)
       (try rw [← Nbq9.out] at hw299_2)
       cases e299
       replace hx299_0 := hb_ HB hx299_0
       replace hx299_1 := hb_ HB hx299_1
       replace hx299_2 := hb_ HB hx299_2
       replace hx299_3 := hb_ HB hx299_3
       replace hx299_4 := hb_ HB hx299_4
       replace hx299_5 := hb_ HB hx299_5
       replace p299 := eq_true p299
       replace q299 := eq_true q299
       refine start_ (n := 27) (S := fun w' => cw_ w' gb296 0 (.int .i64 a0_0) ∧ cw_ w' gb296 1 (.int .i64 a0_1) ∧ cw_ w' gb296 2 (.int .i64 a0_2) ∧ cw_ w' gb296 3 (.int .i64 a0_3) ∧ cw_ w' gb296 4 (.slice (some ad299) l0_4.length c0_4) ∧ w'.cell? (ad299.add ((x4_1).toNat * 6)) = some (.int .i64 ((rd_T38 l0_4 x4_1).f0)) ∧ w'.cell? ⟨(ad299.add ((x4_1).toNat * 6)).block, (ad299.add ((x4_1).toNat * 6)).off + 1, none⟩ = some (.int .i64 ((rd_T38 l0_4 x4_1).f1)) ∧ w'.cell? ⟨(ad299.add ((x4_1).toNat * 6)).block, (ad299.add ((x4_1).toNat * 6)).off + 2, none⟩ = some (.bool false) ∧ w'.cell? ⟨(ad299.add ((x4_1).toNat * 6)).block, (ad299.add ((x4_1).toNat * 6)).off + 3, none⟩ = some (.int .i64 ((rd_T38 l0_4 x4_1).f3.f0)) ∧ w'.cell? ⟨(ad299.add ((x4_1).toNat * 6)).block, (ad299.add ((x4_1).toNat * 6)).off + 4, none⟩ = some (.int .i64 ((rd_T38 l0_4 x4_1).f3.f1)) ∧ w'.cell? ⟨(ad299.add ((x4_1).toNat * 6)).block, (ad299.add ((x4_1).toNat * 6)).off + 5, none⟩ = some (.int .i64 ((rd_T38 l0_4 x4_1).f3.f2))) (ds := []) (bs 27 0) (by kernel_rfl) rfl rfl ⟨bt_ BK296 0, bt_ BK296 1, bt_ BK296 2, bt_ BK296 3, bt_ BK296 4, (hd_ HB hw299_0), (hd_ HB hw299_1), (hd_ HB hw299_2), (hd_ HB hw299_3), (hd_ HB hw299_4), (hd_ HB hw299_5)⟩ (fun hHeld => ?_); refine with_tabW spec_FairPick.tab7 spec_FairPick.bits7 (fun HT_ HW_ => ?_)
       generalize wr.drew = w28 at BK296 HB hx299_0 hx299_1 hx299_2 hx299_3 hx299_4 hx299_5 hHeld ⊢
       refine ps_ 0 15 (bs 27 1) HT_ ?_
       refine ps_ 2 17 (bm 27 5) HT_ ?_
       refine tk_ 1 16 (bs 27 3) HT_ HW_ hHeld ?_
       refine ps_ 3 18 (bs 27 4) HT_ ?_
       refine ps_ 4 19 (bs 27 5) HT_ ?_
       refine tk_ 5 20 (bs 27 6) HT_ HW_ hHeld ?_
       refine ps_ 6 21 (bs 27 7) HT_ ?_
       refine pu_ 7 22 (bs 27 8) HT_ ?_
       refine pu_ 8 23 (bs 27 9) HT_ ?_
       refine pu_ 9 24 (bs 27 10) HT_ ?_
       refine pu_ 10 25 (bs 27 11) HT_ ?_
       refine pu_ 11 26 (bs 27 12) HT_ ?_
       refine pu_ 12 27 (bs 27 13) HT_ ?_
       refine pu_ 13 28 (bs 27 14) HT_ ?_
       refine pu_ 14 29 (bs 27 15) HT_ ?_
       refine pu_ 15 30 (bs 27 16) HT_ ?_
       refine pu_ 16 31 (bs 27 17) HT_ ?_
       refine pu_ 17 32 (bs 27 18) HT_ ?_
       refine pu_ 18 33 (bs 27 19) HT_ ?_
       refine pu_ 19 34 (bs 27 20) HT_ ?_
       refine pu_ 20 35 (bs 27 21) HT_ ?_
       refine pu_ 21 36 (bs 27 22) HT_ ?_
       refine pu_ 22 37 (bs 27 23) HT_ ?_
       refine pu_ 23 38 (bs 27 24) HT_ ?_
       refine pu_ 24 39 (bs 27 25) HT_ ?_
       refine pu_ 25 40 (bs 27 26) HT_ ?_
       refine ps_ 26 41 (bs 27 27) HT_ ?_
       refine done_ (done_of HT_.out (by kernel_rfl)) ?_
       try go_wp2
       go_roundg k1
       case measure => have := HK1.out; omega
       case rel => exact ⟨(x3_1), (wrap64 (x4_1 + 1)), (by first | rfl | (simp; done) | (simp [*]; done)), (by first | rfl | (simp; done) | (simp [*]; done)), H', ⟨by have := HK1.out; omega⟩, ⟨bk_ BK296⟩, ⟨bf_ HB⟩⟩
     ·rw [if_neg c8] at H
      exact absurd H (by simp)
    ·rw [if_neg c7] at H
     have c7b0 : decide (x4_1 < (l0_4.length : Int)) = false := decide_eq_false c7
     clear c7
     by_cases c29 : x3_1 < 0
     ·rw [if_pos c29] at H
      have c29b0 : decide (x3_1 < 0) = true := decide_eq_true c29
      clear c29
      obtain rfl := Option.some.inj H
      obtain ⟨hcz30_0, hcz30_1, hcz30_2, hcz30_3, hcz30_4, hfz30_0, hfz30_1, hfz30_2, hfz30_3, hfz30_4⟩ := bz5_ BK296
      go_wp2
      go_ret
      exact ⟨by first | rfl | (simp [errW_none, errW_some] <;> rfl) | (simp [*, errW_none, errW_some] <;> rfl), bf_ HB⟩
     ·rw [if_neg c29] at H
      have c29b0 : decide (x3_1 < 0) = false := decide_eq_false c29
      clear c29
      by_cases c31 : 0 ≤ x3_1
      ·rw [if_pos c31] at H
       have c31b0 : decide (0 ≤ x3_1) = true := decide_eq_true c31
       clear c31
       by_cases c32 : x3_1 < (l0_4.length : Int)
       ·rw [if_pos c32] at H
        have c32b0 : decide (x3_1 < (l0_4.length : Int)) = true := decide_eq_true c32
        clear c32
        obtain rfl := Option.some.inj H
        obtain ⟨hcz33_0, hcz33_1, hcz33_2, hcz33_3, hcz33_4, hfz33_0, hfz33_1, hfz33_2, hfz33_3, hfz33_4⟩ := bz5_ BK296
        have p298 : 0 ≤ (x3_1 : Int) := od_
        have q298 : x3_1 < (l0_4.length : Int) := od_
        obtain ⟨ad298, e298, hx298_0, hx298_1, hx298_2, hx298_3, hx298_4, hx298_5⟩ := at_T38 HR0_4.out x3_1 p298 q298
        cases e298
        replace hx298_0 := hb_ HB hx298_0
        replace hx298_1 := hb_ HB hx298_1
        replace hx298_2 := hb_ HB hx298_2
        replace hx298_3 := hb_ HB hx298_3
        replace hx298_4 := hb_ HB hx298_4
        replace hx298_5 := hb_ HB hx298_5
        replace p298 := eq_true p298
        replace q298 := eq_true q298
        go_wp2
        go_ret
        exact ⟨by first | rfl | (simp [errW_none, errW_some] <;> rfl) | (simp [*, errW_none, errW_some] <;> rfl), bf_ HB⟩
       ·rw [if_neg c32] at H
        exact absurd H (by simp)
      ·rw [if_neg c31] at H
       exact absurd H (by simp)
 ·replace c3 := Bool.eq_false_iff.mpr c3
  subst c3
  have H1 : (some (-1)) = some r := by rw [if_neg (show ¬ (false = true) by decide)] at H; exact H
  clear H
  have H := H1
  clear H1
  obtain rfl := Option.some.inj H
  go_enter Try.func20, Try.ntmps20
  go_wp2_with (first | ((with_reducible refine gd_ 1 rfl ?_); refine bv_ 1 #[.int .i64 a0_0, .int .i64 a0_1, .int .i64 a0_2, .int .i64 a0_3, .slice A0_4 l0_4.length c0_4] 32 ?_; intro gb296 hg w34 hbox hb; have BK296 := Aside0.mk (hbox); have GW296 := gw_ HB hg; have GE296 := gw_ HB hg; replace HB := Aside0.mk (below_step (be_ HB) hb); clear hb hbox hg; obtain ⟨hcz35_0, hcz35_1, hcz35_2, hcz35_3, hcz35_4, hfz35_0, hfz35_1, hfz35_2, hfz35_3, hfz35_4⟩ := bz5_ BK296) | ((with_reducible refine gc_ 16 rfl ?_); refine gl_ 6 Try.func16 #[.agg #[.int .i64 a0_0, .int .i64 a0_1, .int .i64 a0_2, .int .i64 a0_3, .slice A0_4 l0_4.length c0_4]] ?_; (with_reducible refine (spec_FairOk.calls k a0_0 a0_1 a0_2 a0_3 _ _ l0_4 false _ ?side1 ?side2 A2.out).mono ?_); (case side1 => repeat (first | exact (Kd.C_below HR0_4.out HB.out) | (with_reducible refine Kd.C_alloc ?_ _) | (with_reducible refine Kd.C_drewN ?_ _) | (with_reducible refine Kd.C_drew ?_))); (case side2 => exact HC0_4.out); rintro e w36 ⟨rfl, hb⟩; refine ⟨_, rfl, ?_⟩; replace BK296 := bb_ BK296 hb; replace HB := Aside0.mk (below_step (bf_ HB) hb); (try clear hb); (try clear hb2); (try clear hk); (try clear hi)))
  go_ret
  exact ⟨by first | rfl | (simp [errW_none, errW_some] <;> rfl) | (simp [*, errW_none, errW_some] <;> rfl), bf_ HB⟩

/-! ### spec_l18At: function 57 -/
def spec_l18At.l0 : Nat → Int → Int → Int → Int → Int → Int → List (S38) → Option (Int)
  | 0, _, _, _, _, _, _, _ => none
  | k + 1, x1, x5, x305000, x305001, x305002, x305003, x305004 => if x5 < (x305004.length : Int) then (if 0 ≤ x5 then (if ((rd_T38 x305004 x5).f0) = x1 then (some x5) else (spec_l18At.l0 k x1 (wrap64 (x5 + 1)) x305000 x305001 x305002 x305003 x305004)) else (none)) else (some (-1))
def spec_l18At.f (k : Nat) (a0_0 : Int) (a0_1 : Int) (a0_2 : Int) (a0_3 : Int) (l0_4 : List (S38)) (a1 : Int) : Option (Int) := spec_l18At.l0 k a1 0 a0_0 a0_1 a0_2 a0_3 l0_4
theorem spec_l18At.mono_l : ∀ k, (∀ y0 y1 y2 y3 y4 y5 y6, LeO (spec_l18At.l0 k y0 y1 y2 y3 y4 y5 y6) (spec_l18At.l0 (k + 1) y0 y1 y2 y3 y4 y5 y6))
 | 0 => fun _ _ _ _ _ _ _ r h => by simp [spec_l18At.l0] at h
 | k + 1 => by
  have ih0 := spec_l18At.mono_l k
  ·intro y0 y1 y2 y3 y4 y5 y6
   unfold spec_l18At.l0
   repeat' first
   | (with_reducible exact ih0 _ _ _ _ _ _ _)
   | (with_reducible exact LeO.refl _)
   | (with_reducible exact LeO.none _)
   | (with_reducible refine LeO.ite ?_ ?_)
   | (with_reducible refine LeO.bind ?_ (fun _ => ?_))
   | exact ih0 _ _ _ _ _ _ _
   | exact LeO.none _
   | refine LeO.ite ?_ ?_
   | refine LeO.bind ?_ (fun _ => ?_)
theorem spec_l18At.mono : ∀ a0 a1 a2 a3 a4 a5 k, LeO (spec_l18At.f k a0 a1 a2 a3 a4 a5) (spec_l18At.f (k + 1) a0 a1 a2 a3 a4 a5) := by
 intro a0 a1 a2 a3 a4 a5 k
 have ih0 := spec_l18At.mono_l k
 unfold spec_l18At.f
 repeat' first
   | (with_reducible exact ih0 _ _ _ _ _ _ _)
   | (with_reducible exact LeO.refl _)
   | (with_reducible exact LeO.none _)
   | (with_reducible refine LeO.ite ?_ ?_)
   | (with_reducible refine LeO.bind ?_ (fun _ => ?_))
   | exact ih0 _ _ _ _ _ _ _
   | exact LeO.none _
   | refine LeO.ite ?_ ?_
   | refine LeO.bind ?_ (fun _ => ?_)
set_option maxHeartbeats 8000000 in
set_option maxRecDepth 100000 in
theorem spec_l18At.calls (k : Nat) (a0_0 : Int) (a0_1 : Int) (a0_2 : Int) (a0_3 : Int) (A0_4 : Option Addr) (c0_4 : Nat) (l0_4 : List (S38)) (a1 : Int) (r : Int) (w : World) (hr0_4 : Kd.C k38 w A0_4 l0_4.length l0_4) (hc0_4 : l0_4.length ≤ c0_4) (h : spec_l18At.f k a0_0 a0_1 a0_2 a0_3 l0_4 a1 = some r) :
  Calls Try.prog 57 #[.agg #[.int .i64 a0_0, .int .i64 a0_1, .int .i64 a0_2, .int .i64 a0_3, .slice A0_4 l0_4.length c0_4], .int .i64 a1] w fun e w' => e = .returned (.int .i64 r) ∧ Below w.heap.size w w' := by
 have hu32 := Try.underlying32
 have HR0_4 := Aside0.mk hr0_4
 have HC0_4 := Aside0.mk hc0_4
 clear hr0_4 hc0_4; have HB := Aside0.mk (Below.refl w.heap.size w)
 have H : (spec_l18At.l0 k a1 0 a0_0 a0_1 a0_2 a0_3 l0_4) = some r := h
 clear h
 have H' := Aside0.mk H
 clear H
 go_enter Try.func57, Try.ntmps57
 go_wp2_with (first | ((with_reducible refine gd_ 2 rfl ?_); refine bv_ 2 #[.int .i64 a0_0, .int .i64 a0_1, .int .i64 a0_2, .int .i64 a0_3, .slice A0_4 l0_4.length c0_4] 32 ?_; intro gb304 hg w3 hbox hb; have BK304 := Aside0.mk (hbox); have GW304 := gw_ HB hg; have GE304 := gw_ HB hg; replace HB := Aside0.mk (below_step (be_ HB) hb); clear hb hbox hg))
 go_loopg [5] k (fun kq v5 w' => ∃ (x5_1 : Int), v5 = .int .i64 x5_1 ∧ Aside0 (spec_l18At.l0 kq a1 x5_1 a0_0 a0_1 a0_2 a0_3 l0_4 = some r) ∧ Aside0 (kq ≤ k) ∧ Aside0 (w'.heap[gb304]? = some (.cells #[.int .i64 a0_0, .int .i64 a0_1, .int .i64 a0_2, .int .i64 a0_3, (.slice A0_4 l0_4.length c0_4)] 32 (0, 0))) ∧ Aside0 (Below w.heap.size w w'))
 case atStart => exact ⟨(0), (by first | rfl | (simp; done) | (simp [*]; done)), H', ⟨Nat.le_refl _⟩, ⟨bk_ BK304⟩, ⟨bf_ HB⟩⟩
 case round =>
  clear H'
  (try clear p2)
  obtain ⟨x5_1, rfl, HA, HK1, BK304, HB⟩ := hrel
  cases gk with
  | zero => exact absurd HA.out (by simp [spec_l18At.l0])
  | succ k1 =>
   have H := HA.out
   clear HA
   simp only [spec_l18At.l0] at H
   by_cases c4 : x5_1 < (l0_4.length : Int)
   ·rw [if_pos c4] at H
    have c4b0 : decide (x5_1 < (l0_4.length : Int)) = true := decide_eq_true c4
    clear c4
    by_cases c5 : 0 ≤ x5_1
    ·rw [if_pos c5] at H
     have c5b0 : decide (0 ≤ x5_1) = true := decide_eq_true c5
     clear c5
     by_cases c6 : ((rd_T38 l0_4 x5_1).f0) = a1
     ·rw [if_pos c6] at H
      have c6b0 : (((rd_T38 l0_4 x5_1).f0) == a1) = true := beq_iff_eq.mpr c6
      have c6b1 : (((rd_T38 l0_4 x5_1).f0) != a1) = false := bne_eq_false_iff_eq.mpr c6
      clear c6
      obtain rfl := Option.some.inj H
      obtain ⟨hcz7_0, hcz7_1, hcz7_2, hcz7_3, hcz7_4, hfz7_0, hfz7_1, hfz7_2, hfz7_3, hfz7_4⟩ := bz5_ BK304
      have p305 : 0 ≤ (x5_1 : Int) := od_
      have q305 : x5_1 < (l0_4.length : Int) := od_
      obtain ⟨ad305, e305, hx305_0, hx305_1, hx305_2, hx305_3, hx305_4, hx305_5⟩ := at_T38 HR0_4.out x5_1 p305 q305
      cases e305
      replace hx305_0 := hb_ HB hx305_0
      replace hx305_1 := hb_ HB hx305_1
      replace hx305_2 := hb_ HB hx305_2
      replace hx305_3 := hb_ HB hx305_3
      replace hx305_4 := hb_ HB hx305_4
      replace hx305_5 := hb_ HB hx305_5
      replace p305 := eq_true p305
      replace q305 := eq_true q305
      go_wp2
      go_ret
      exact ⟨by first | rfl | (simp [errW_none, errW_some] <;> rfl) | (simp [*, errW_none, errW_some] <;> rfl), bf_ HB⟩
     ·rw [if_neg c6] at H
      have c6b0 : (((rd_T38 l0_4 x5_1).f0) == a1) = false := beq_eq_false_iff_ne.mpr c6
      have c6b1 : (((rd_T38 l0_4 x5_1).f0) != a1) = true := bne_iff_ne.mpr c6
      have H' := Aside0.mk H
      clear H; obtain ⟨hcz8_0, hcz8_1, hcz8_2, hcz8_3, hcz8_4, hfz8_0, hfz8_1, hfz8_2, hfz8_3, hfz8_4⟩ := bz5_ BK304
      have p305 : 0 ≤ (x5_1 : Int) := od_
      have q305 : x5_1 < (l0_4.length : Int) := od_
      obtain ⟨ad305, e305, hx305_0, hx305_1, hx305_2, hx305_3, hx305_4, hx305_5⟩ := at_T38 HR0_4.out x5_1 p305 q305
      cases e305
      replace hx305_0 := hb_ HB hx305_0
      replace hx305_1 := hb_ HB hx305_1
      replace hx305_2 := hb_ HB hx305_2
      replace hx305_3 := hb_ HB hx305_3
      replace hx305_4 := hb_ HB hx305_4
      replace hx305_5 := hb_ HB hx305_5
      replace p305 := eq_true p305
      replace q305 := eq_true q305
      go_wp2
      go_roundg k1
      case measure => have := HK1.out; omega
      case rel => exact ⟨(wrap64 (x5_1 + 1)), (by first | rfl | (simp; done) | (simp [*]; done)), H', ⟨by have := HK1.out; omega⟩, ⟨bk_ BK304⟩, ⟨bf_ HB⟩⟩
    ·rw [if_neg c5] at H
     exact absurd H (by simp)
   ·rw [if_neg c4] at H
    have c4b0 : decide (x5_1 < (l0_4.length : Int)) = false := decide_eq_false c4
    clear c4
    obtain rfl := Option.some.inj H
    obtain ⟨hcz9_0, hcz9_1, hcz9_2, hcz9_3, hcz9_4, hfz9_0, hfz9_1, hfz9_2, hfz9_3, hfz9_4⟩ := bz5_ BK304
    go_wp2
    go_ret
    exact ⟨by first | rfl | (simp [errW_none, errW_some] <;> rfl) | (simp [*, errW_none, errW_some] <;> rfl), bf_ HB⟩

/-! ### spec_VecMost: function 59 -/
def spec_VecMost.f (a0_0 : Int) (a0_1 : Int) (a0_2 : Int) (a1_0 : Int) (a1_1 : Int) (a1_2 : Int) : Option (Int × Int × Int) := some (mx a0_0 a1_0, mx a0_1 a1_1, mx a0_2 a1_2)
set_option maxHeartbeats 8000000 in
set_option maxRecDepth 100000 in
theorem spec_VecMost.calls (a0_0 : Int) (a0_1 : Int) (a0_2 : Int) (a1_0 : Int) (a1_1 : Int) (a1_2 : Int) (r1 : Int) (r2 : Int) (r3 : Int) (w : World) (h : spec_VecMost.f a0_0 a0_1 a0_2 a1_0 a1_1 a1_2 = some (r1, r2, r3)) :
  Calls Try.prog 59 #[.agg #[.int .i64 a0_0, .int .i64 a0_1, .int .i64 a0_2], .agg #[.int .i64 a1_0, .int .i64 a1_1, .int .i64 a1_2]] w fun e w' => e = .returned (.agg #[.int .i64 r1, .int .i64 r2, .int .i64 r3]) ∧ Below w.heap.size w w' := by
 have hu29 := Try.underlying29; have HB := Aside0.mk (Below.refl w.heap.size w)
 have H : (some (mx a0_0 a1_0, mx a0_1 a1_1, mx a0_2 a1_2)) = some (r1, r2, r3) := h
 clear h
 obtain ⟨ji3, hji3⟩ : ∃ j_ : Int, (mx a0_0 a1_0) = j_ := ⟨_, rfl⟩
 replace H : (some (ji3, mx a0_1 a1_1, mx a0_2 a1_2)) = some (r1, r2, r3) := by first | (rw [hji3] at H; exact H) | (simp only [hji3] at H ⊢; exact H)
 have hji3_ : (if a0_0 < a1_0 then a1_0 else a0_0) = ji3 := hji3
 obtain ⟨ji4, hji4⟩ : ∃ j_ : Int, (mx a0_1 a1_1) = j_ := ⟨_, rfl⟩
 replace H : (some (ji3, ji4, mx a0_2 a1_2)) = some (r1, r2, r3) := by first | (rw [hji4] at H; exact H) | (simp only [hji4] at H ⊢; exact H)
 have hji4_ : (if a0_1 < a1_1 then a1_1 else a0_1) = ji4 := hji4
 obtain ⟨ji5, hji5⟩ : ∃ j_ : Int, (mx a0_2 a1_2) = j_ := ⟨_, rfl⟩
 replace H : (some (ji3, ji4, ji5)) = some (r1, r2, r3) := by first | (rw [hji5] at H; exact H) | (simp only [hji5] at H ⊢; exact H)
 have hji5_ : (if a0_2 < a1_2 then a1_2 else a0_2) = ji5 := hji5
 simp only [Option.some.injEq, Prod.mk.injEq] at H
 obtain ⟨rfl, rfl, rfl⟩ := H
 go_enter Try.func59, Try.ntmps59
 go_wp2_with (first | ((with_reducible refine gd_ 2 rfl ?_); refine bv_ 2 #[.int .i64 a0_0, .int .i64 a0_1, .int .i64 a0_2] 29 ?_; intro gb306 hg w6 hbox hb; have BK306 := Aside0.mk (hbox); have GW306 := gw_ HB hg; have GE306 := gw_ HB hg; replace HB := Aside0.mk (below_step (be_ HB) hb); clear hb hbox hg) | ((with_reducible refine gd_ 3 rfl ?_); refine bv_ 3 #[.int .i64 a1_0, .int .i64 a1_1, .int .i64 a1_2] 29 ?_; intro gb307 hg w7 hbox hb; have BK307 := Aside0.mk (hbox); have GW307 := gw_ HB hg; have GE307 := gw_ HB hg; replace HB := Aside0.mk (below_step (bf_ HB) hb); have NB306_307 := nl_ BK306 hg; have NB307_306 := ng_ BK306 hg; replace BK306 := bb_ BK306 hb; clear hb hbox hg) | ((with_reducible refine gd_ 4 rfl ?_); refine bv_ 4 #[.int .i64 0, .int .i64 0, .int .i64 0] 29 ?_; intro gb308 hg w8 hbox hb; have BK308 := Aside0.mk (hbox); have GW308 := gw_ HB hg; have GE308 := gw_ HB hg; replace HB := Aside0.mk (below_step (bf_ HB) hb); have NB306_308 := nl_ BK306 hg; have NB308_306 := ng_ BK306 hg; replace BK306 := bb_ BK306 hb; have NB307_308 := nl_ BK307 hg; have NB308_307 := ng_ BK307 hg; replace BK307 := bb_ BK307 hb; clear hb hbox hg; have hnb9 := NB306_307.out; have hnc9 := NB307_306.out; have hnb10 := NB306_308.out; have hnc10 := NB308_306.out; obtain ⟨hcz11_0, hcz11_1, hcz11_2, hfz11_0, hfz11_1, hfz11_2⟩ := bz3_ BK306; have hnb12 := NB307_308.out; have hnc12 := NB308_307.out; obtain ⟨hcz13_0, hcz13_1, hcz13_2, hfz13_0, hfz13_1, hfz13_2⟩ := bz3_ BK307; obtain ⟨hcz14_0, hcz14_1, hcz14_2, hfz14_0, hfz14_1, hfz14_2⟩ := bz3_ BK308))
 refine bodyPost_ret (results_cell_row rfl _ _ gb308 29 #[.int .i64 ji3, .int .i64 ji4, .int .i64 ji5] (0, 0) _ rfl (by (with_reducible repeat (first | refine blk_drewN ?_ _ | refine blk_drew ?_ | refine blk_alloc ?_ _)); refine blk_put (cs := #[.int .i64 ji3, .int .i64 ji4, .int .i64 0]) ?_ 2 _ rfl; (with_reducible repeat (first | refine blk_drewN ?_ _ | refine blk_drew ?_ | refine blk_alloc ?_ _)); refine blk_put (cs := #[.int .i64 ji3, .int .i64 0, .int .i64 0]) ?_ 1 _ rfl; (with_reducible repeat (first | refine blk_drewN ?_ _ | refine blk_drew ?_ | refine blk_alloc ?_ _)); refine blk_put (cs := #[.int .i64 0, .int .i64 0, .int .i64 0]) ?_ 0 _ rfl; exact bk_ BK308) Try.underlying29 rfl (by kernel_rfl)) rfl ?_
 exact ⟨by first | rfl | (simp [errW_none, errW_some] <;> rfl) | (simp only [← hji3, ← hji4, ← hji5]; first | rfl | (simp [errW_none, errW_some] <;> rfl)) | (simp [*, errW_none, errW_some] <;> rfl), bf_ HB⟩

/-! ### spec_l18Copy: function 61 -/
def spec_l18Copy.f (a0_0 : Int) (a0_1 : Int) (a0_2 : Int) (a0_3 : Int) (l0_4 : List (S38)) : Option (Int × Int × Int × Int × (List (S38))) := (some (([] : List (S38)) : List (S38))).bind fun y311 => (if y311.length + l0_4.length < 2932031007402 then (some (a0_0, a0_1, a0_2, a0_3, (y311 ++ l0_4))) else (none))
def spec_l18Copy.T1 : Bool × List (List Nat × List Nat) := (true, [([], []), ([0], [0]), ([], []), ([2], [2]), ([], []), ([], []), ([5], [5]), ([4, 6], [4, 6]), ([1, 3, 7], [1, 3, 7]), ([8, 7, 0, 1, 2, 3, 4, 5, 6, 7, 8], [8])])
def spec_l18Copy.B1 : List Nat := [0, 1, 0, 4, 0, 0, 32, 112, 255, 511]
theorem spec_l18Copy.tab1 : rtab .any (opsOf Try.f61 1) = spec_l18Copy.T1 := by kernel_rfl
theorem spec_l18Copy.bits1 : waitsOk spec_l18Copy.T1.2 spec_l18Copy.B1 = true := by kernel_rfl
set_option maxHeartbeats 8000000 in
set_option maxRecDepth 100000 in
theorem spec_l18Copy.calls (a0_0 : Int) (a0_1 : Int) (a0_2 : Int) (a0_3 : Int) (A0_4 : Option Addr) (c0_4 : Nat) (l0_4 : List (S38)) (r1 : Int) (r2 : Int) (r3 : Int) (r4 : Int) (r5 : List (S38)) (w : World) (hr0_4 : Kd.C k38 w A0_4 l0_4.length l0_4) (hc0_4 : l0_4.length ≤ c0_4) (h : spec_l18Copy.f a0_0 a0_1 a0_2 a0_3 l0_4 = some (r1, r2, r3, r4, r5)) :
  Calls Try.prog 61 #[.agg #[.int .i64 a0_0, .int .i64 a0_1, .int .i64 a0_2, .int .i64 a0_3, .slice A0_4 l0_4.length c0_4]] w fun e w' => ∃ v4_ : Value, e = .returned (.agg #[.int .i64 r1, .int .i64 r2, .int .i64 r3, .int .i64 r4, v4_]) ∧ Kd.R k38 38 w' w.heap.size (fun _ => True) v4_ r5 ∧ Below w.heap.size w w' := by
 have hu32 := Try.underlying32; have hu29 := Try.underlying29
 have HR0_4 := Aside0.mk hr0_4
 have HC0_4 := Aside0.mk hc0_4
 clear hr0_4 hc0_4; have HB := Aside0.mk (Below.refl w.heap.size w)
 have H : ((some (([] : List (S38)) : List (S38))).bind fun y311 => (if y311.length + l0_4.length < 2932031007402 then (some (a0_0, a0_1, a0_2, a0_3, (y311 ++ l0_4))) else (none))) = some (r1, r2, r3, r4, r5) := h
 clear h
 obtain ⟨y311, hy311⟩ : ∃ y_ : List (S38), y_ = (([] : List (S38))) := ⟨_, rfl⟩
 replace H : (if y311.length + l0_4.length < 2932031007402 then (some (a0_0, a0_1, a0_2, a0_3, (y311 ++ l0_4))) else (none)) = some (r1, r2, r3, r4, r5) := by first | (rw [hy311]; with_reducible exact H) | (have H2_ := (Option.bind_some _ _).symm.trans H; rw [hy311]; with_reducible exact H2_) | (have H2_ := (Option.bind_some _ _).symm.trans H; with_reducible exact H2_) | with_reducible exact H | (rw [hy311]; exact H) | exact H
 have Ny311 := Aside0.mk hy311
 clear hy311
 by_cases c2 : y311.length + l0_4.length < 2932031007402
 ·rw [if_pos c2] at H
  have LMc2 := Aside0.mk c2
  clear c2
  obtain ⟨y314, hy314⟩ : ∃ y_ : List (S38), y_ = (y311 ++ l0_4) := ⟨_, rfl⟩
  replace H : (some (a0_0, a0_1, a0_2, a0_3, y314)) = some (r1, r2, r3, r4, r5) := by first | (rw [hy314]; with_reducible exact H) | (have H2_ := (Option.bind_some _ _).symm.trans H; rw [hy314]; with_reducible exact H2_) | (have H2_ := (Option.bind_some _ _).symm.trans H; with_reducible exact H2_) | with_reducible exact H | (rw [hy314]; exact H) | exact H
  have Ny314 := Aside0.mk hy314
  clear hy314
  simp only [Option.some.injEq, Prod.mk.injEq] at H
  obtain ⟨rfl, rfl, rfl, rfl, rfl⟩ := H
  go_enter Try.func61, Try.ntmps61
  try go_wp2_with (first | ((with_reducible refine gd_ 1 rfl ?_); refine bv_ 1 #[.int .i64 a0_0, .int .i64 a0_1, .int .i64 a0_2, .int .i64 a0_3, .slice A0_4 l0_4.length c0_4] 32 ?_; intro gb309 hg w3 hbox hb; have BK309 := Aside0.mk (hbox); have GW309 := gw_ HB hg; have GE309 := gw_ HB hg; replace HB := Aside0.mk (below_step (be_ HB) hb); clear hb hbox hg) | ((with_reducible refine gd_ 2 rfl ?_); refine bv_ 2 #[.int .i64 0, .int .i64 0, .int .i64 0, .int .i64 0, .slice none 0 0] 32 ?_; intro gb310 hg w4 hbox hb; have BK310 := Aside0.mk (hbox); have GW310 := gw_ HB hg; have GE310 := gw_ HB hg; replace HB := Aside0.mk (below_step (bf_ HB) hb); have NB309_310 := nl_ BK309 hg; have NB310_309 := ng_ BK309 hg; replace BK309 := bb_ BK309 hb; clear hb hbox hg))
  replace BK309 := Aside0.mk (blk_drew BK309.out); replace BK310 := Aside0.mk (blk_drew BK310.out); replace HB := Aside0.mk (below_drew1 HB.out)
  refine start_ (n := 10) (S := fun w' => cw_ w' gb309 0 (.int .i64 a0_0) ∧ cw_ w' gb309 1 (.int .i64 a0_1) ∧ cw_ w' gb309 2 (.int .i64 a0_2) ∧ cw_ w' gb309 3 (.int .i64 a0_3) ∧ cw_ w' gb309 4 (.slice A0_4 l0_4.length c0_4)) (ds := []) (bs 10 0) (by kernel_rfl) rfl rfl ⟨bt_ BK309 0, bt_ BK309 1, bt_ BK309 2, bt_ BK309 3, bt_ BK309 4⟩ (fun hHeld => ?_); refine with_tabW spec_l18Copy.tab1 spec_l18Copy.bits1 (fun HT_ HW_ => ?_)
  generalize w4.drew = w5 at BK309 BK310 HB hHeld ⊢
  refine ps_ 0 3 (bs 10 1) HT_ ?_
  refine ps_ 2 5 (bm 10 5) HT_ ?_
  refine ps_ 5 8 (bm 10 37) HT_ ?_
  refine tk_ 1 4 (bm 10 39) HT_ HW_ hHeld ?_
  refine tk_ 3 6 (bm 10 47) HT_ HW_ hHeld ?_
  refine tk_ 6 9 (bm 10 111) HT_ HW_ hHeld ?_
  refine on_ 4 (some 7) (bs 10 7) HT_ (fun K hK => ?_)
  refine Kd.R_lit_step k38 _ 38 ?hg (N := 7) ?hd (xs := ([] : List (S38))) (inner := []) (ok := fun _ => True) (okp := fun _ => True) ?hr ?hp (fun _ hk => by first | exact hk | grind) trivial (Below.refl _ _) (Nat.le_refl _) (by simp) ?_; (case hd => rfl); (case hg => rfl); (case hr => first | (go_simp; done) | (go_simp; rfl)); (case hp => exact (Reps.none _ _))
  intro v312 w6 ho7 hb hg_ hnew_
  clear hg_ hnew_
  (first | rw [← Ny311.out] at ho7 | (simp only [Int.reduceToNat] at ho7; rw [← Ny311.out] at ho7))
  have HO313 := Aside0.mk (Kd.R_lower ho7 (below_size (bf_ HB))); replace BK309 := bb_ BK309 hb; replace BK310 := bb_ BK310 hb; replace HB := Aside0.mk (below_step (bf_ HB) hb); clear hb ho7
  refine hK.out _ _ ⟨bt_ BK309 0, bt_ BK309 1, bt_ BK309 2, bt_ BK309 3, bt_ BK309 4⟩ (fun hHeld => ?_)
  clear hK K
  refine norm_ (a' := ?_) ?_ ?_
  rotate_left
  ·show Act.put _ (some 7) _ = _
   simp only [Act.put, ls0_, ls1_, ls2_, i64_w, i32_w]
   rfl
  refine on_ 7 (some 10) (bs 10 8) HT_ (fun K hK => ?_)
  refine Kd.R_append_rows_step k38 (w0 := w) w.heap.size (by rfl) (.tmp 7) (.tmp 9) 30 38 (.agg #[(.int .i64 0), (.int .i64 0), (.bool false), (.int .i64 0), (.int .i64 0), (.int .i64 0)]) 48 rfl Try.underlying30 info38 rfl (by decide) (by omega) v312 y311 l0_4 _ _ _ (fun _ => True) (fun _ => False) rfl rfl ?aO ?aR (fun _ _ h => h) (fun _ h => h.elim) ?aF ?aB ?aS ?aL ?_
  (case aR => repeat (first | exact (Kd.C_below HR0_4.out HB.out) | (with_reducible refine Kd.C_alloc ?_ _) | (with_reducible refine Kd.C_drewN ?_ _) | (with_reducible refine Kd.C_drew ?_)))
  (case aB => exact (bf_ HB))
  (case aF => exact (fun _ _ => trivial))
  (case aO => exact (kr_ HO313))
  (case aS => exact (below_size (bf_ HB)))
  (case aL => have := LMc2.out; omega)
  intro v315 w8 ho hb hg hat
  rw [← Ny314.out] at ho
  have n0_ := Aside0.mk (blk_grown (g := gb309) (o := .cells #[.int .i64 a0_0, .int .i64 a0_1, .int .i64 a0_2, .int .i64 a0_3, .slice A0_4 l0_4.length c0_4] 32 (0, 0)) (bk_ BK309) hg (Kd.R_ne HO313.out BK309.out (by decide)))
  have n1_ := Aside0.mk (blk_grown (g := gb310) (o := .cells #[.int .i64 0, .int .i64 0, .int .i64 0, .int .i64 0, .slice none 0 0] 32 (0, 0)) (bk_ BK310) hg (Kd.R_ne HO313.out BK310.out (by decide)))
  have n2_ := Aside0.mk (hb); have n3_ := Aside0.mk (ho); clear BK309 BK310 HB HO313; have BK309 := n0_; have BK310 := n1_; have HB := n2_; have HO316 := n3_; clear n0_ n1_ n2_ n3_ ho hb hg hat
  obtain ⟨Ao9, co9, eo9⟩ := Kd.R_slice HO316.out
  (first | subst eo9 | (injection eo9 with f1_ f2_ f3_; have f4_ := f1_.symm; have f5_ := f3_.symm; clear f1_ f2_ f3_; subst f4_; subst f5_))
  refine hK.out _ _ ⟨bt_ BK309 0, bt_ BK309 1, bt_ BK309 2, bt_ BK309 3, bt_ BK309 4⟩ (fun hHeld => ?_)
  clear hK K
  refine norm_ (a' := ?_) ?_ ?_
  rotate_left
  ·show Act.put _ (some 10) _ = _
   simp only [Act.put, ls0_, ls1_, ls2_, i64_w, i32_w]
   rfl
  refine ps_ 8 11 (bs 10 9) HT_ ?_
  refine on_ 9 none (bs 10 10) HT_ (fun K hK => ?_)
  have hs10 := bc_ BK310 0 (.int .i64 0) rfl; have hfs10 := blk_frozen BK310.out 0; have hns10_0 := NB309_310.out; have hms10_0 := NB310_309.out; have hs11 := bc_ BK310 1 (.int .i64 0) rfl; have hfs11 := blk_frozen BK310.out 1; have hns11_0 := NB309_310.out; have hms11_0 := NB310_309.out; have hs12 := bc_ BK310 2 (.int .i64 0) rfl; have hfs12 := blk_frozen BK310.out 2; have hns12_0 := NB309_310.out; have hms12_0 := NB310_309.out; have hs13 := bc_ BK310 3 (.int .i64 0) rfl; have hfs13 := blk_frozen BK310.out 3; have hns13_0 := NB309_310.out; have hms13_0 := NB310_309.out; have hs14 := bc_ BK310 4 (.slice none 0 0) rfl; have hfs14 := blk_frozen BK310.out 4; have hns14_0 := NB309_310.out; have hms14_0 := NB310_309.out
  refine skip_ (w1 := ?_) (by rfl) rfl ?_ ?_
  rotate_left
  ·go_simp
   rfl
  refine hK.out _ _ ⟨(cf5_ NB309_310.out hHeld.1), (cf5_ NB309_310.out hHeld.2.1), (cf5_ NB309_310.out hHeld.2.2.1), (cf5_ NB309_310.out hHeld.2.2.2.1), (cf5_ NB309_310.out hHeld.2.2.2.2)⟩ (fun hHeld => ?_)
  clear hK K
  refine done_ (done_of HT_.out (by kernel_rfl)) ?_
  try go_wp2
  refine bodyPost_ret (results_cell_row rfl _ _ gb310 32 #[.int .i64 a0_0, .int .i64 a0_1, .int .i64 a0_2, .int .i64 a0_3, .slice Ao9 y314.length co9] (0, 0) _ rfl (by (with_reducible repeat (first | refine blk_drewN ?_ _ | refine blk_drew ?_ | refine blk_alloc ?_ _)); refine blk_put (cs := #[.int .i64 a0_0, .int .i64 a0_1, .int .i64 a0_2, .int .i64 a0_3, .slice none 0 0]) ?_ 4 _ rfl; (with_reducible repeat (first | refine blk_drewN ?_ _ | refine blk_drew ?_ | refine blk_alloc ?_ _)); refine blk_put (cs := #[.int .i64 a0_0, .int .i64 a0_1, .int .i64 a0_2, .int .i64 0, .slice none 0 0]) ?_ 3 _ rfl; (with_reducible repeat (first | refine blk_drewN ?_ _ | refine blk_drew ?_ | refine blk_alloc ?_ _)); refine blk_put (cs := #[.int .i64 a0_0, .int .i64 a0_1, .int .i64 0, .int .i64 0, .slice none 0 0]) ?_ 2 _ rfl; (with_reducible repeat (first | refine blk_drewN ?_ _ | refine blk_drew ?_ | refine blk_alloc ?_ _)); refine blk_put (cs := #[.int .i64 a0_0, .int .i64 0, .int .i64 0, .int .i64 0, .slice none 0 0]) ?_ 1 _ rfl; (with_reducible repeat (first | refine blk_drewN ?_ _ | refine blk_drew ?_ | refine blk_alloc ?_ _)); refine blk_put (cs := #[.int .i64 0, .int .i64 0, .int .i64 0, .int .i64 0, .slice none 0 0]) ?_ 0 _ rfl; exact bk_ BK310) Try.underlying32 rfl (by kernel_rfl)) rfl ?_
  exact ⟨_, by first | rfl | (simp [errW_none, errW_some] <;> rfl) | (simp [*, errW_none, errW_some] <;> rfl), by (with_reducible repeat (first | apply Kd.R_alloc | apply Kd.R_drewN | apply Kd.R_drew)); exact Kd.R_mono (Kd.R_far (p := ⟨gb310, 4, none⟩) (Kd.R_far (p := ⟨gb310, 3, none⟩) (Kd.R_far (p := ⟨gb310, 2, none⟩) (Kd.R_far (p := ⟨gb310, 1, none⟩) (Kd.R_far (p := ⟨gb310, 0, none⟩) (Kd.R_types HO316.out BK310.out (by decide)) (fun _ hk => by first | exact hk.2 | grind) (.int .i64 a0_0)) (fun _ hk => by first | exact hk.2 | grind) (.int .i64 a0_1)) (fun _ hk => by first | exact hk.2 | grind) (.int .i64 a0_2)) (fun _ hk => by first | exact hk.2 | grind) (.int .i64 a0_3)) (fun _ hk => by first | exact hk.2 | grind) (.slice Ao9 y314.length co9)) (fun _ hk => by first | exact trivial | grind), bf_ HB⟩
 ·rw [if_neg c2] at H
  exact absurd H (by simp)

end Go.Proofs.Ytljhaoiopokmfaa.PFnExactFairServe
