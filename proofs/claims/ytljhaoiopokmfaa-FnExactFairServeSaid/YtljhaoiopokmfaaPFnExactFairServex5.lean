-- printed by a program of this session (wip/printx) out of the translation; Lean checks it
import Derived.Test.YtljhaoiopokmfaaVFnExactFairServe
import Derived.Test.YtljhaoiopokmfaaPFnExactFairServex0
import Derived.Test.YtljhaoiopokmfaaPFnExactFairServex2
namespace Go.Proofs.Ytljhaoiopokmfaa.PFnExactFairServe
open Go.RowKit Go.Proofs.YtljhaoiopokmfaaW.PrintWords Go.Proofs.YtljhaoiopokmfaaW.PrintLast Go.Proofs.YtljhaoiopokmfaaW.PrintMore
attribute [local go_sem] max2_int min2_int max_two min_two max_three min_three max_four min_four   -- for this text's walks alone
set_option linter.unusedVariables false
set_option linter.unusedSimpArgs false

/-! ### impl_Fair_pick: function 56 -/
def impl_Fair_pick.l0 : Nat → Int → List (S38) → Int → Int → Int → Int → Int → Int → List (S38) → Option (Int)
  | 0, _, _, _, _, _, _, _, _, _ => none
  | k + 1, x3, x7, x8, x9, x193000, x193001, x193002, x193003, x193004 => if x9 < x8 then (if 0 ≤ x9 then (if x9 < (x7.length : Int) then (if (rd_T38 x7 x9).f2 = true then (if x3 < 0 then (impl_Fair_pick.l0 k x9 x7 x8 (wrap64 (x9 + 1)) x193000 x193001 x193002 x193003 x193004) else ((impl_VecTop.f ((rd_T38 x7 x9).f3.f0) ((rd_T38 x7 x9).f3.f1) ((rd_T38 x7 x9).f3.f2)).bind fun t195 => (if 0 ≤ x3 then (if x3 < (x193004.length : Int) then ((impl_VecTop.f ((rd_T38 x193004 x3).f3.f0) ((rd_T38 x193004 x3).f3.f1) ((rd_T38 x193004 x3).f3.f2)).bind fun t197 => (if t195 < t197 then (impl_Fair_pick.l0 k x9 x7 x8 (wrap64 (x9 + 1)) x193000 x193001 x193002 x193003 x193004) else (impl_Fair_pick.l0 k x3 x7 x8 (wrap64 (x9 + 1)) x193000 x193001 x193002 x193003 x193004))) else (none)) else (none)))) else (impl_Fair_pick.l0 k x3 x7 x8 (wrap64 (x9 + 1)) x193000 x193001 x193002 x193003 x193004)) else (none)) else (none)) else (some x3)
def impl_Fair_pick.f (k : Nat) (a0_0 : Int) (a0_1 : Int) (a0_2 : Int) (a0_3 : Int) (l0_4 : List (S38)) : Option (Int) := impl_Fair_pick.l0 k (-1) l0_4 (l0_4.length : Int) 0 a0_0 a0_1 a0_2 a0_3 l0_4
theorem impl_Fair_pick.mono_l : ∀ k, (∀ y0 y1 y2 y3 y4 y5 y6 y7 y8, LeO (impl_Fair_pick.l0 k y0 y1 y2 y3 y4 y5 y6 y7 y8) (impl_Fair_pick.l0 (k + 1) y0 y1 y2 y3 y4 y5 y6 y7 y8))
 | 0 => fun _ _ _ _ _ _ _ _ _ r h => by simp [impl_Fair_pick.l0] at h
 | k + 1 => by
  have ih0 := impl_Fair_pick.mono_l k
  ·intro y0 y1 y2 y3 y4 y5 y6 y7 y8
   unfold impl_Fair_pick.l0
   repeat' first
   | (with_reducible exact ih0 _ _ _ _ _ _ _ _ _)
   | (with_reducible exact LeO.refl _)
   | (with_reducible exact LeO.none _)
   | (with_reducible refine LeO.ite ?_ ?_)
   | (with_reducible refine LeO.bind ?_ (fun _ => ?_))
   | exact ih0 _ _ _ _ _ _ _ _ _
   | exact LeO.none _
   | refine LeO.ite ?_ ?_
   | refine LeO.bind ?_ (fun _ => ?_)
theorem impl_Fair_pick.mono : ∀ a0 a1 a2 a3 a4 k, LeO (impl_Fair_pick.f k a0 a1 a2 a3 a4) (impl_Fair_pick.f (k + 1) a0 a1 a2 a3 a4) := by
 intro a0 a1 a2 a3 a4 k
 have ih0 := impl_Fair_pick.mono_l k
 unfold impl_Fair_pick.f
 repeat' first
   | (with_reducible exact ih0 _ _ _ _ _ _ _ _ _)
   | (with_reducible exact LeO.refl _)
   | (with_reducible exact LeO.none _)
   | (with_reducible refine LeO.ite ?_ ?_)
   | (with_reducible refine LeO.bind ?_ (fun _ => ?_))
   | exact ih0 _ _ _ _ _ _ _ _ _
   | exact LeO.none _
   | refine LeO.ite ?_ ?_
   | refine LeO.bind ?_ (fun _ => ?_)
def impl_Fair_pick.T5 : Bool × List (List Nat × List Nat) := (true, [([], []), ([0], [0]), ([1], [1]), ([2], [2]), ([3, 2], [2, 3]), ([4, 2, 2], [2, 4]), ([5], [5]), ([6, 5], [5, 6]), ([7, 5, 5], [5, 7]), ([5], [5]), ([9, 5], [5, 9]), ([5], [5]), ([10, 11, 5], [5, 10, 11]), ([12, 5], [5, 12]), ([13, 5], [5, 13]), ([14, 8, 5], [5, 14]), ([8, 15, 5], [5, 8, 15]), ([5, 16, 2], [2, 5, 16]), ([2, 17], [2, 17])])
def impl_Fair_pick.B5 : List Nat := [0, 1, 3, 7, 15, 31, 63, 127, 255, 63, 575, 63, 3647, 7743, 15935, 32767, 65535, 131071, 262143]
theorem impl_Fair_pick.tab5 : rtab .any (opsOf Try.f56 5) = impl_Fair_pick.T5 := by kernel_rfl
theorem impl_Fair_pick.bits5 : waitsOk impl_Fair_pick.T5.2 impl_Fair_pick.B5 = true := by kernel_rfl
set_option maxHeartbeats 8000000 in
set_option maxRecDepth 100000 in
theorem impl_Fair_pick.calls (k : Nat) (a0_0 : Int) (a0_1 : Int) (a0_2 : Int) (a0_3 : Int) (A0_4 : Option Addr) (c0_4 : Nat) (l0_4 : List (S38)) (r : Int) (w : World) (hr0_4 : Kd.C k38 w A0_4 l0_4.length l0_4) (hc0_4 : l0_4.length ≤ c0_4) (h : impl_Fair_pick.f k a0_0 a0_1 a0_2 a0_3 l0_4 = some r) :
  Calls Try.prog 56 #[.agg #[.int .i64 a0_0, .int .i64 a0_1, .int .i64 a0_2, .int .i64 a0_3, .slice A0_4 l0_4.length c0_4]] w fun e w' => e = .returned (.int .i64 r) ∧ Below w.heap.size w w' := by
 have hu32 := Try.underlying32; have hu38 := Try.underlying38; have hu29 := Try.underlying29
 have HR0_4 := Aside0.mk hr0_4
 have HC0_4 := Aside0.mk hc0_4
 clear hr0_4 hc0_4; have HB := Aside0.mk (Below.refl w.heap.size w)
 have H : (impl_Fair_pick.l0 k (-1) l0_4 (l0_4.length : Int) 0 a0_0 a0_1 a0_2 a0_3 l0_4) = some r := h
 clear h
 have H' := Aside0.mk H
 clear H
 go_enter Try.func56, Try.ntmps56
 go_wp2_with (first | ((with_reducible refine gd_ 1 rfl ?_); refine bv_ 1 #[.int .i64 a0_0, .int .i64 a0_1, .int .i64 a0_2, .int .i64 a0_3, .slice A0_4 l0_4.length c0_4] 32 ?_; intro gb192 hg w2 hbox hb; have BK192 := Aside0.mk (hbox); have GW192 := gw_ HB hg; have GE192 := gw_ HB hg; replace HB := Aside0.mk (below_step (be_ HB) hb); clear hb hbox hg; obtain ⟨hcz3_0, hcz3_1, hcz3_2, hcz3_3, hcz3_4, hfz3_0, hfz3_1, hfz3_2, hfz3_3, hfz3_4⟩ := bz5_ BK192))
 go_loopg [3, 9] k (fun kq v3 v9 w' => ∃ (x3_1 : Int) (x9_1 : Int), v3 = .int .i64 x3_1 ∧ v9 = .int .i64 x9_1 ∧ Aside0 (impl_Fair_pick.l0 kq x3_1 l0_4 (l0_4.length : Int) x9_1 a0_0 a0_1 a0_2 a0_3 l0_4 = some r) ∧ Aside0 (kq ≤ k) ∧ Aside0 (w'.heap[gb192]? = some (.cells #[.int .i64 a0_0, .int .i64 a0_1, .int .i64 a0_2, .int .i64 a0_3, (.slice A0_4 l0_4.length c0_4)] 32 (0, 0))) ∧ Aside0 (Below w.heap.size w w'))
 case atStart => exact ⟨((-1)), (0), (by first | rfl | (simp; done) | (simp [*]; done)), (by first | rfl | (simp; done) | (simp [*]; done)), H', ⟨Nat.le_refl _⟩, ⟨bk_ BK192⟩, ⟨bf_ HB⟩⟩
 case round =>
  clear H'
  (try clear p2); (try clear hcz3_0 hcz3_1 hcz3_2 hcz3_3 hcz3_4 hfz3_0 hfz3_1 hfz3_2 hfz3_3 hfz3_4)
  obtain ⟨x3_1, x9_1, rfl, rfl, HA, HK1, BK192, HB⟩ := hrel
  cases gk with
  | zero => exact absurd HA.out (by simp [impl_Fair_pick.l0])
  | succ k1 =>
   have H := HA.out
   clear HA
   simp only [impl_Fair_pick.l0] at H
   by_cases c4 : x9_1 < (l0_4.length : Int)
   ·rw [if_pos c4] at H
    have c4b0 : decide (x9_1 < (l0_4.length : Int)) = true := decide_eq_true c4
    clear c4
    by_cases c5 : 0 ≤ x9_1
    ·rw [if_pos c5] at H
     have c5b0 : decide (0 ≤ x9_1) = true := decide_eq_true c5
     clear c5
     by_cases c6 : x9_1 < (l0_4.length : Int)
     ·rw [if_pos c6] at H
      have c6b0 : decide (x9_1 < (l0_4.length : Int)) = true := decide_eq_true c6
      clear c6
      obtain ⟨bq7, hbq7⟩ : ∃ b_ : Bool, b_ = ((rd_T38 l0_4 x9_1).f2) := ⟨_, rfl⟩
      replace H : (if bq7 = true then (if x3_1 < 0 then (impl_Fair_pick.l0 k1 x9_1 l0_4 (l0_4.length : Int) (wrap64 (x9_1 + 1)) a0_0 a0_1 a0_2 a0_3 l0_4) else ((impl_VecTop.f ((rd_T38 l0_4 x9_1).f3.f0) ((rd_T38 l0_4 x9_1).f3.f1) ((rd_T38 l0_4 x9_1).f3.f2)).bind fun t195 => (if 0 ≤ x3_1 then (if x3_1 < (l0_4.length : Int) then ((impl_VecTop.f ((rd_T38 l0_4 x3_1).f3.f0) ((rd_T38 l0_4 x3_1).f3.f1) ((rd_T38 l0_4 x3_1).f3.f2)).bind fun t197 => (if t195 < t197 then (impl_Fair_pick.l0 k1 x9_1 l0_4 (l0_4.length : Int) (wrap64 (x9_1 + 1)) a0_0 a0_1 a0_2 a0_3 l0_4) else (impl_Fair_pick.l0 k1 x3_1 l0_4 (l0_4.length : Int) (wrap64 (x9_1 + 1)) a0_0 a0_1 a0_2 a0_3 l0_4))) else (none)) else (none)))) else (impl_Fair_pick.l0 k1 x3_1 l0_4 (l0_4.length : Int) (wrap64 (x9_1 + 1)) a0_0 a0_1 a0_2 a0_3 l0_4)) = some r := by rw [← hbq7] at H; exact H
      have Nbq7 := Aside0.mk hbq7
      clear hbq7
      by_cases c8 : bq7 = true
      ·subst c8
       have H1 : (if x3_1 < 0 then (impl_Fair_pick.l0 k1 x9_1 l0_4 (l0_4.length : Int) (wrap64 (x9_1 + 1)) a0_0 a0_1 a0_2 a0_3 l0_4) else ((impl_VecTop.f ((rd_T38 l0_4 x9_1).f3.f0) ((rd_T38 l0_4 x9_1).f3.f1) ((rd_T38 l0_4 x9_1).f3.f2)).bind fun t195 => (if 0 ≤ x3_1 then (if x3_1 < (l0_4.length : Int) then ((impl_VecTop.f ((rd_T38 l0_4 x3_1).f3.f0) ((rd_T38 l0_4 x3_1).f3.f1) ((rd_T38 l0_4 x3_1).f3.f2)).bind fun t197 => (if t195 < t197 then (impl_Fair_pick.l0 k1 x9_1 l0_4 (l0_4.length : Int) (wrap64 (x9_1 + 1)) a0_0 a0_1 a0_2 a0_3 l0_4) else (impl_Fair_pick.l0 k1 x3_1 l0_4 (l0_4.length : Int) (wrap64 (x9_1 + 1)) a0_0 a0_1 a0_2 a0_3 l0_4))) else (none)) else (none)))) = some r := by rw [if_pos rfl] at H; exact H
       clear H
       have H := H1
       clear H1
       by_cases c9 : x3_1 < 0
       ·rw [if_pos c9] at H
        have c9b0 : decide (x3_1 < 0) = true := decide_eq_true c9
        clear c9
        have H' := Aside0.mk H
        clear H
        have p193 : 0 ≤ (x9_1 : Int) := od_
        have q193 : x9_1 < (l0_4.length : Int) := od_
        obtain ⟨ad193, e193, hx193_0, hx193_1, hx193_2, hx193_3, hx193_4, hx193_5⟩ := at_T38 HR0_4.out x9_1 p193 q193
        (try rw [← Nbq7.out] at hx193_2)
        cases e193
        replace hx193_0 := hb_ HB hx193_0
        replace hx193_1 := hb_ HB hx193_1
        replace hx193_2 := hb_ HB hx193_2
        replace hx193_3 := hb_ HB hx193_3
        replace hx193_4 := hb_ HB hx193_4
        replace hx193_5 := hb_ HB hx193_5
        replace p193 := eq_true p193
        replace q193 := eq_true q193
        try go_wp2_with (first | ((with_reducible refine gd_ 5 rfl ?_); refine bv_ 5 #[.int .i64 0, .int .i64 0, .bool false, .int .i64 0, .int .i64 0, .int .i64 0] 38 ?_; intro gb194 hg w10 hbox hb; have BK194 := Aside0.mk (hbox); have GW194 := gw_ HB hg; have GE194 := gw_ HB hg; replace HB := Aside0.mk (below_step (bf_ HB) hb); have NB192_194 := nl_ BK192 hg; have NB194_192 := ng_ BK192 hg; replace BK192 := bb_ BK192 hb; clear hb hbox hg; have hnb11 := NB194_192.out; have hnc11 := NB192_194.out; obtain ⟨hcz12_0, hcz12_1, hcz12_2, hcz12_3, hcz12_4, hcz12_5, hfz12_0, hfz12_1, hfz12_2, hfz12_3, hfz12_4, hfz12_5⟩ := bz6_ BK194))
        generalize hW_ : ((((((w10.setCell ⟨gb194, 0, none⟩ (.int .i64 ((rd_T38 l0_4 x9_1).f0))).setCell ⟨gb194, 1, none⟩ (.int .i64 ((rd_T38 l0_4 x9_1).f1))).setCell ⟨gb194, 2, none⟩ (.bool true)).setCell ⟨gb194, 3, none⟩ (.int .i64 ((rd_T38 l0_4 x9_1).f3.f0))).setCell ⟨gb194, 4, none⟩ (.int .i64 ((rd_T38 l0_4 x9_1).f3.f1))).setCell ⟨gb194, 5, none⟩ (.int .i64 ((rd_T38 l0_4 x9_1).f3.f2))) = w13
        replace BK192 := fc6_ hW_ BK192 NB192_194
        replace BK194 : Aside0 (w13.heap[gb194]? = some (.cells #[.int .i64 ((rd_T38 l0_4 x9_1).f0), .int .i64 ((rd_T38 l0_4 x9_1).f1), .bool true, .int .i64 ((rd_T38 l0_4 x9_1).f3.f0), .int .i64 ((rd_T38 l0_4 x9_1).f3.f1), .int .i64 ((rd_T38 l0_4 x9_1).f3.f2)] 38 (0, 0))) := pc6_ hW_ BK194
        replace HB : Aside0 (Below w.heap.size w w13) := ⟨by cases hW_; exact bf_ HB⟩
        clear hW_; replace BK192 := Aside0.mk (blk_drew BK192.out); replace BK194 := Aside0.mk (blk_drew BK194.out); replace HB := Aside0.mk (below_drew1 HB.out)
        refine start_ (n := 19) (S := fun w' => cw_ w' gb194 0 (.int .i64 ((rd_T38 l0_4 x9_1).f0)) ∧ cw_ w' gb194 1 (.int .i64 ((rd_T38 l0_4 x9_1).f1)) ∧ cw_ w' gb194 2 (.bool true) ∧ cw_ w' gb194 3 (.int .i64 ((rd_T38 l0_4 x9_1).f3.f0)) ∧ cw_ w' gb194 4 (.int .i64 ((rd_T38 l0_4 x9_1).f3.f1)) ∧ cw_ w' gb194 5 (.int .i64 ((rd_T38 l0_4 x9_1).f3.f2))) (ds := []) (bs 19 0) (by kernel_rfl) rfl rfl ⟨bt_ BK194 0, bt_ BK194 1, bt_ BK194 2, bt_ BK194 3, bt_ BK194 4, bt_ BK194 5⟩ (fun hHeld => ?_); refine with_tabW impl_Fair_pick.tab5 impl_Fair_pick.bits5 (fun HT_ HW_ => ?_)
        generalize w13.drew = w14 at BK192 BK194 HB hHeld ⊢
        refine ps_ 0 14 (bs 19 1) HT_ ?_
        refine tk_ 1 15 (bs 19 2) HT_ HW_ hHeld ?_
        refine ps_ 2 16 (bs 19 3) HT_ ?_
        refine ps_ 3 17 (bs 19 4) HT_ ?_
        refine ps_ 4 18 (bs 19 5) HT_ ?_
        refine ps_ 5 19 (bs 19 6) HT_ ?_
        refine pu_ 6 20 (bs 19 7) HT_ ?_
        refine pu_ 7 21 (bs 19 8) HT_ ?_
        refine pu_ 8 22 (bs 19 9) HT_ ?_
        refine pu_ 9 23 (bs 19 10) HT_ ?_
        refine pu_ 10 24 (bs 19 11) HT_ ?_
        refine pu_ 11 25 (bs 19 12) HT_ ?_
        refine pu_ 12 26 (bs 19 13) HT_ ?_
        refine pu_ 13 27 (bs 19 14) HT_ ?_
        refine pu_ 14 28 (bs 19 15) HT_ ?_
        refine pu_ 15 29 (bs 19 16) HT_ ?_
        refine pu_ 16 30 (bs 19 17) HT_ ?_
        refine ps_ 17 31 (bs 19 18) HT_ ?_
        refine ps_ 18 32 (bs 19 19) HT_ ?_
        refine done_ (done_of HT_.out (by kernel_rfl)) ?_
        try go_wp2
        go_roundg k1
        case measure => have := HK1.out; omega
        case rel => exact ⟨(x9_1), (wrap64 (x9_1 + 1)), (by first | rfl | (simp; done) | (simp [*]; done)), (by first | rfl | (simp; done) | (simp [*]; done)), H', ⟨by have := HK1.out; omega⟩, ⟨bk_ BK192⟩, ⟨bf_ HB⟩⟩
       ·rw [if_neg c9] at H
        have c9b0 : decide (x3_1 < 0) = false := decide_eq_false c9
        clear c9
        replace H := Option.bind_eq_some_iff.mp H
        obtain ⟨t195, A150, H⟩ := H
        replace H : (if 0 ≤ x3_1 then (if x3_1 < (l0_4.length : Int) then ((impl_VecTop.f ((rd_T38 l0_4 x3_1).f3.f0) ((rd_T38 l0_4 x3_1).f3.f1) ((rd_T38 l0_4 x3_1).f3.f2)).bind fun t197 => (if t195 < t197 then (impl_Fair_pick.l0 k1 x9_1 l0_4 (l0_4.length : Int) (wrap64 (x9_1 + 1)) a0_0 a0_1 a0_2 a0_3 l0_4) else (impl_Fair_pick.l0 k1 x3_1 l0_4 (l0_4.length : Int) (wrap64 (x9_1 + 1)) a0_0 a0_1 a0_2 a0_3 l0_4))) else (none)) else (none)) = some r := H
        have A15 := Aside0.mk A150
        clear A150
        by_cases c16 : 0 ≤ x3_1
        ·rw [if_pos c16] at H
         have c16b0 : decide (0 ≤ x3_1) = true := decide_eq_true c16
         clear c16
         by_cases c17 : x3_1 < (l0_4.length : Int)
         ·rw [if_pos c17] at H
          have c17b0 : decide (x3_1 < (l0_4.length : Int)) = true := decide_eq_true c17
          clear c17
          replace H := Option.bind_eq_some_iff.mp H
          obtain ⟨t197, A180, H⟩ := H
          replace H : (if t195 < t197 then (impl_Fair_pick.l0 k1 x9_1 l0_4 (l0_4.length : Int) (wrap64 (x9_1 + 1)) a0_0 a0_1 a0_2 a0_3 l0_4) else (impl_Fair_pick.l0 k1 x3_1 l0_4 (l0_4.length : Int) (wrap64 (x9_1 + 1)) a0_0 a0_1 a0_2 a0_3 l0_4)) = some r := H
          have A18 := Aside0.mk A180
          clear A180
          by_cases c19 : t195 < t197
          ·rw [if_pos c19] at H
           have c19b0 : decide (t195 < t197) = true := decide_eq_true c19
           clear c19
           have H' := Aside0.mk H
           clear H
           have p193 : 0 ≤ (x9_1 : Int) := od_
           have q193 : x9_1 < (l0_4.length : Int) := od_
           obtain ⟨ad193, e193, hx193_0, hx193_1, hx193_2, hx193_3, hx193_4, hx193_5⟩ := at_T38 HR0_4.out x9_1 p193 q193
           (try rw [← Nbq7.out] at hx193_2)
           cases e193
           replace hx193_0 := hb_ HB hx193_0
           replace hx193_1 := hb_ HB hx193_1
           replace hx193_2 := hb_ HB hx193_2
           replace hx193_3 := hb_ HB hx193_3
           replace hx193_4 := hb_ HB hx193_4
           replace hx193_5 := hb_ HB hx193_5
           replace p193 := eq_true p193
           replace q193 := eq_true q193
           try go_wp2_with (first | ((with_reducible refine gd_ 5 rfl ?_); refine bv_ 5 #[.int .i64 0, .int .i64 0, .bool false, .int .i64 0, .int .i64 0, .int .i64 0] 38 ?_; intro gb194 hg w20 hbox hb; have BK194 := Aside0.mk (hbox); have GW194 := gw_ HB hg; have GE194 := gw_ HB hg; replace HB := Aside0.mk (below_step (bf_ HB) hb); have NB192_194 := nl_ BK192 hg; have NB194_192 := ng_ BK192 hg; replace BK192 := bb_ BK192 hb; clear hb hbox hg; have hnb21 := NB194_192.out; have hnc21 := NB192_194.out; obtain ⟨hcz22_0, hcz22_1, hcz22_2, hcz22_3, hcz22_4, hcz22_5, hfz22_0, hfz22_1, hfz22_2, hfz22_3, hfz22_4, hfz22_5⟩ := bz6_ BK194))
           generalize hW_ : ((((((w20.setCell ⟨gb194, 0, none⟩ (.int .i64 ((rd_T38 l0_4 x9_1).f0))).setCell ⟨gb194, 1, none⟩ (.int .i64 ((rd_T38 l0_4 x9_1).f1))).setCell ⟨gb194, 2, none⟩ (.bool true)).setCell ⟨gb194, 3, none⟩ (.int .i64 ((rd_T38 l0_4 x9_1).f3.f0))).setCell ⟨gb194, 4, none⟩ (.int .i64 ((rd_T38 l0_4 x9_1).f3.f1))).setCell ⟨gb194, 5, none⟩ (.int .i64 ((rd_T38 l0_4 x9_1).f3.f2))) = w23
           replace BK192 := fc6_ hW_ BK192 NB192_194
           replace BK194 : Aside0 (w23.heap[gb194]? = some (.cells #[.int .i64 ((rd_T38 l0_4 x9_1).f0), .int .i64 ((rd_T38 l0_4 x9_1).f1), .bool true, .int .i64 ((rd_T38 l0_4 x9_1).f3.f0), .int .i64 ((rd_T38 l0_4 x9_1).f3.f1), .int .i64 ((rd_T38 l0_4 x9_1).f3.f2)] 38 (0, 0))) := pc6_ hW_ BK194
           replace HB : Aside0 (Below w.heap.size w w23) := ⟨by cases hW_; exact bf_ HB⟩
           clear hW_; replace BK192 := Aside0.mk (blk_drew BK192.out); replace BK194 := Aside0.mk (blk_drew BK194.out); replace HB := Aside0.mk (below_drew1 HB.out)
           have p196 : 0 ≤ (x3_1 : Int) := od_
           have q196 : x3_1 < (l0_4.length : Int) := od_
           obtain ⟨ad196, e196, hx196_0, hx196_1, hx196_2, hx196_3, hx196_4, hx196_5⟩ := at_T38 HR0_4.out x3_1 p196 q196
           have hw196_5 := hx196_5; have hw196_4 := hx196_4; have hw196_3 := hx196_3; have hw196_2 := hx196_2; have hw196_1 := hx196_1; have hw196_0 := hx196_0
           (try rw [← Nbq7.out] at hx196_2)
           (try rw [← Nbq7.out] at hw196_2)
           obtain rfl : ad193 = ad196 := (by injection e196)
           replace hx196_0 := hb_ HB hx196_0
           replace hx196_1 := hb_ HB hx196_1
           replace hx196_2 := hb_ HB hx196_2
           replace hx196_3 := hb_ HB hx196_3
           replace hx196_4 := hb_ HB hx196_4
           replace hx196_5 := hb_ HB hx196_5
           replace p196 := eq_true p196
           replace q196 := eq_true q196
           refine start_ (n := 19) (S := fun w' => cw_ w' gb194 0 (.int .i64 ((rd_T38 l0_4 x9_1).f0)) ∧ cw_ w' gb194 1 (.int .i64 ((rd_T38 l0_4 x9_1).f1)) ∧ cw_ w' gb194 2 (.bool true) ∧ cw_ w' gb194 3 (.int .i64 ((rd_T38 l0_4 x9_1).f3.f0)) ∧ cw_ w' gb194 4 (.int .i64 ((rd_T38 l0_4 x9_1).f3.f1)) ∧ cw_ w' gb194 5 (.int .i64 ((rd_T38 l0_4 x9_1).f3.f2)) ∧ cw_ w' gb192 0 (.int .i64 a0_0) ∧ cw_ w' gb192 1 (.int .i64 a0_1) ∧ cw_ w' gb192 2 (.int .i64 a0_2) ∧ cw_ w' gb192 3 (.int .i64 a0_3) ∧ cw_ w' gb192 4 (.slice (some ad193) l0_4.length c0_4) ∧ w'.cell? (ad193.add ((x3_1).toNat * 6)) = some (.int .i64 ((rd_T38 l0_4 x3_1).f0)) ∧ w'.cell? ⟨(ad193.add ((x3_1).toNat * 6)).block, (ad193.add ((x3_1).toNat * 6)).off + 1, none⟩ = some (.int .i64 ((rd_T38 l0_4 x3_1).f1)) ∧ w'.cell? ⟨(ad193.add ((x3_1).toNat * 6)).block, (ad193.add ((x3_1).toNat * 6)).off + 2, none⟩ = some (.bool ((rd_T38 l0_4 x3_1).f2)) ∧ w'.cell? ⟨(ad193.add ((x3_1).toNat * 6)).block, (ad193.add ((x3_1).toNat * 6)).off + 3, none⟩ = some (.int .i64 ((rd_T38 l0_4 x3_1).f3.f0)) ∧ w'.cell? ⟨(ad193.add ((x3_1).toNat * 6)).block, (ad193.add ((x3_1).toNat * 6)).off + 4, none⟩ = some (.int .i64 ((rd_T38 l0_4 x3_1).f3.f1)) ∧ w'.cell? ⟨(ad193.add ((x3_1).toNat * 6)).block, (ad193.add ((x3_1).toNat * 6)).off + 5, none⟩ = some (.int .i64 ((rd_T38 l0_4 x3_1).f3.f2))) (ds := []) (bs 19 0) (by kernel_rfl) rfl rfl ⟨bt_ BK194 0, bt_ BK194 1, bt_ BK194 2, bt_ BK194 3, bt_ BK194 4, bt_ BK194 5, bt_ BK192 0, bt_ BK192 1, bt_ BK192 2, bt_ BK192 3, bt_ BK192 4, (hd_ HB hw196_0), (hd_ HB hw196_1), (hd_ HB hw196_2), (hd_ HB hw196_3), (hd_ HB hw196_4), (hd_ HB hw196_5)⟩ (fun hHeld => ?_); refine with_tabW impl_Fair_pick.tab5 impl_Fair_pick.bits5 (fun HT_ HW_ => ?_)
           generalize w23.drew = w24 at BK192 BK194 HB hx196_0 hx196_1 hx196_2 hx196_3 hx196_4 hx196_5 hHeld ⊢
           refine ps_ 0 14 (bs 19 1) HT_ ?_
           refine tk_ 1 15 (bs 19 2) HT_ HW_ hHeld ?_
           refine ps_ 2 16 (bs 19 3) HT_ ?_
           refine ps_ 3 17 (bs 19 4) HT_ ?_
           refine ps_ 4 18 (bs 19 5) HT_ ?_
           refine ps_ 5 19 (bs 19 6) HT_ ?_
           refine ps_ 6 20 (bs 19 7) HT_ ?_
           refine ps_ 9 23 (bm 19 639) HT_ ?_
           refine ps_ 11 25 (bm 19 2687) HT_ ?_
           refine tk_ 7 21 (bm 19 2815) HT_ HW_ hHeld ?_
           refine tk_ 10 24 (bm 19 3839) HT_ HW_ hHeld ?_
           refine ps_ 12 26 (bm 19 7935) HT_ ?_
           refine ps_ 13 27 (bm 19 16127) HT_ ?_
           refine tk_ 14 28 (bm 19 32511) HT_ HW_ hHeld ?_
           refine on_ 8 (some 22) (bs 19 15) HT_ (fun K hK => ?_)
           refine gs_ Try.func52 #[.agg #[.int .i64 ((rd_T38 l0_4 x9_1).f3.f0), .int .i64 ((rd_T38 l0_4 x9_1).f3.f1), .int .i64 ((rd_T38 l0_4 x9_1).f3.f2)]] ?_
           with_reducible refine (impl_VecTop.calls ((rd_T38 l0_4 x9_1).f3.f0) ((rd_T38 l0_4 x9_1).f3.f1) ((rd_T38 l0_4 x9_1).f3.f2) t195 _ A15.out).mono ?_
           rintro e w25 ⟨rfl, hb⟩
           refine ⟨_, rfl, ?_⟩
           replace BK192 := bb_ BK192 hb; replace BK194 := bb_ BK194 hb; replace HB := Aside0.mk (below_step (bf_ HB) hb); (try clear hb); (try clear hb2); (try clear hk); (try clear hi)
           refine hK.out _ _ ⟨bt_ BK194 0, bt_ BK194 1, bt_ BK194 2, bt_ BK194 3, bt_ BK194 4, bt_ BK194 5, bt_ BK192 0, bt_ BK192 1, bt_ BK192 2, bt_ BK192 3, bt_ BK192 4, (hd_ HB hw196_0), (hd_ HB hw196_1), (hd_ HB hw196_2), (hd_ HB hw196_3), (hd_ HB hw196_4), (hd_ HB hw196_5)⟩ (fun hHeld => ?_)
           clear hK K
           refine norm_ (a' := ?_) ?_ ?_
           rotate_left
           ·show Act.put _ (some 22) _ = _
            simp only [Act.put, ls0_, ls1_, ls2_, i64_w, i32_w]
            rfl
           refine on_ 15 (some 29) (bs 19 16) HT_ (fun K hK => ?_)
           refine gs_ Try.func52 #[.agg #[.int .i64 ((rd_T38 l0_4 x3_1).f3.f0), .int .i64 ((rd_T38 l0_4 x3_1).f3.f1), .int .i64 ((rd_T38 l0_4 x3_1).f3.f2)]] ?_
           with_reducible refine (impl_VecTop.calls ((rd_T38 l0_4 x3_1).f3.f0) ((rd_T38 l0_4 x3_1).f3.f1) ((rd_T38 l0_4 x3_1).f3.f2) t197 _ A18.out).mono ?_
           rintro e w26 ⟨rfl, hb⟩
           refine ⟨_, rfl, ?_⟩
           replace BK192 := bb_ BK192 hb; replace BK194 := bb_ BK194 hb; replace HB := Aside0.mk (below_step (bf_ HB) hb); (try clear hb); (try clear hb2); (try clear hk); (try clear hi)
           refine hK.out _ _ ⟨bt_ BK194 0, bt_ BK194 1, bt_ BK194 2, bt_ BK194 3, bt_ BK194 4, bt_ BK194 5, bt_ BK192 0, bt_ BK192 1, bt_ BK192 2, bt_ BK192 3, bt_ BK192 4, (hd_ HB hw196_0), (hd_ HB hw196_1), (hd_ HB hw196_2), (hd_ HB hw196_3), (hd_ HB hw196_4), (hd_ HB hw196_5)⟩ (fun hHeld => ?_)
           clear hK K
           refine norm_ (a' := ?_) ?_ ?_
           rotate_left
           ·show Act.put _ (some 29) _ = _
            simp only [Act.put, ls0_, ls1_, ls2_, i64_w, i32_w]
            rfl
           refine ps_ 16 30 (bs 19 17) HT_ ?_
           refine ps_ 17 31 (bs 19 18) HT_ ?_
           refine ps_ 18 32 (bs 19 19) HT_ ?_
           refine done_ (done_of HT_.out (by kernel_rfl)) ?_
           try go_wp2
           go_roundg k1
           case measure => have := HK1.out; omega
           case rel => exact ⟨(x9_1), (wrap64 (x9_1 + 1)), (by first | rfl | (simp; done) | (simp [*]; done)), (by first | rfl | (simp; done) | (simp [*]; done)), H', ⟨by have := HK1.out; omega⟩, ⟨bk_ BK192⟩, ⟨bf_ HB⟩⟩
          ·rw [if_neg c19] at H
           have c19b0 : decide (t195 < t197) = false := decide_eq_false c19
           clear c19
           have H' := Aside0.mk H
           clear H
           have p193 : 0 ≤ (x9_1 : Int) := od_
           have q193 : x9_1 < (l0_4.length : Int) := od_
           obtain ⟨ad193, e193, hx193_0, hx193_1, hx193_2, hx193_3, hx193_4, hx193_5⟩ := at_T38 HR0_4.out x9_1 p193 q193
           (try rw [← Nbq7.out] at hx193_2)
           cases e193
           replace hx193_0 := hb_ HB hx193_0
           replace hx193_1 := hb_ HB hx193_1
           replace hx193_2 := hb_ HB hx193_2
           replace hx193_3 := hb_ HB hx193_3
           replace hx193_4 := hb_ HB hx193_4
           replace hx193_5 := hb_ HB hx193_5
           replace p193 := eq_true p193
           replace q193 := eq_true q193
           try go_wp2_with (first | ((with_reducible refine gd_ 5 rfl ?_); refine bv_ 5 #[.int .i64 0, .int .i64 0, .bool false, .int .i64 0, .int .i64 0, .int .i64 0] 38 ?_; intro gb194 hg w27 hbox hb; have BK194 := Aside0.mk (hbox); have GW194 := gw_ HB hg; have GE194 := gw_ HB hg; replace HB := Aside0.mk (below_step (bf_ HB) hb); have NB192_194 := nl_ BK192 hg; have NB194_192 := ng_ BK192 hg; replace BK192 := bb_ BK192 hb; clear hb hbox hg; have hnb28 := NB194_192.out; have hnc28 := NB192_194.out; obtain ⟨hcz29_0, hcz29_1, hcz29_2, hcz29_3, hcz29_4, hcz29_5, hfz29_0, hfz29_1, hfz29_2, hfz29_3, hfz29_4, hfz29_5⟩ := bz6_ BK194))
           generalize hW_ : ((((((w27.setCell ⟨gb194, 0, none⟩ (.int .i64 ((rd_T38 l0_4 x9_1).f0))).setCell ⟨gb194, 1, none⟩ (.int .i64 ((rd_T38 l0_4 x9_1).f1))).setCell ⟨gb194, 2, none⟩ (.bool true)).setCell ⟨gb194, 3, none⟩ (.int .i64 ((rd_T38 l0_4 x9_1).f3.f0))).setCell ⟨gb194, 4, none⟩ (.int .i64 ((rd_T38 l0_4 x9_1).f3.f1))).setCell ⟨gb194, 5, none⟩ (.int .i64 ((rd_T38 l0_4 x9_1).f3.f2))) = w30
           replace BK192 := fc6_ hW_ BK192 NB192_194
           replace BK194 : Aside0 (w30.heap[gb194]? = some (.cells #[.int .i64 ((rd_T38 l0_4 x9_1).f0), .int .i64 ((rd_T38 l0_4 x9_1).f1), .bool true, .int .i64 ((rd_T38 l0_4 x9_1).f3.f0), .int .i64 ((rd_T38 l0_4 x9_1).f3.f1), .int .i64 ((rd_T38 l0_4 x9_1).f3.f2)] 38 (0, 0))) := pc6_ hW_ BK194
           replace HB : Aside0 (Below w.heap.size w w30) := ⟨by cases hW_; exact bf_ HB⟩
           clear hW_; replace BK192 := Aside0.mk (blk_drew BK192.out); replace BK194 := Aside0.mk (blk_drew BK194.out); replace HB := Aside0.mk (below_drew1 HB.out)
           have p196 : 0 ≤ (x3_1 : Int) := od_
           have q196 : x3_1 < (l0_4.length : Int) := od_
           obtain ⟨ad196, e196, hx196_0, hx196_1, hx196_2, hx196_3, hx196_4, hx196_5⟩ := at_T38 HR0_4.out x3_1 p196 q196
           have hw196_5 := hx196_5; have hw196_4 := hx196_4; have hw196_3 := hx196_3; have hw196_2 := hx196_2; have hw196_1 := hx196_1; have hw196_0 := hx196_0
           (try rw [← Nbq7.out] at hx196_2)
           (try rw [← Nbq7.out] at hw196_2)
           obtain rfl : ad193 = ad196 := (by injection e196)
           replace hx196_0 := hb_ HB hx196_0
           replace hx196_1 := hb_ HB hx196_1
           replace hx196_2 := hb_ HB hx196_2
           replace hx196_3 := hb_ HB hx196_3
           replace hx196_4 := hb_ HB hx196_4
           replace hx196_5 := hb_ HB hx196_5
           replace p196 := eq_true p196
           replace q196 := eq_true q196
           refine start_ (n := 19) (S := fun w' => cw_ w' gb194 0 (.int .i64 ((rd_T38 l0_4 x9_1).f0)) ∧ cw_ w' gb194 1 (.int .i64 ((rd_T38 l0_4 x9_1).f1)) ∧ cw_ w' gb194 2 (.bool true) ∧ cw_ w' gb194 3 (.int .i64 ((rd_T38 l0_4 x9_1).f3.f0)) ∧ cw_ w' gb194 4 (.int .i64 ((rd_T38 l0_4 x9_1).f3.f1)) ∧ cw_ w' gb194 5 (.int .i64 ((rd_T38 l0_4 x9_1).f3.f2)) ∧ cw_ w' gb192 0 (.int .i64 a0_0) ∧ cw_ w' gb192 1 (.int .i64 a0_1) ∧ cw_ w' gb192 2 (.int .i64 a0_2) ∧ cw_ w' gb192 3 (.int .i64 a0_3) ∧ cw_ w' gb192 4 (.slice (some ad193) l0_4.length c0_4) ∧ w'.cell? (ad193.add ((x3_1).toNat * 6)) = some (.int .i64 ((rd_T38 l0_4 x3_1).f0)) ∧ w'.cell? ⟨(ad193.add ((x3_1).toNat * 6)).block, (ad193.add ((x3_1).toNat * 6)).off + 1, none⟩ = some (.int .i64 ((rd_T38 l0_4 x3_1).f1)) ∧ w'.cell? ⟨(ad193.add ((x3_1).toNat * 6)).block, (ad193.add ((x3_1).toNat * 6)).off + 2, none⟩ = some (.bool ((rd_T38 l0_4 x3_1).f2)) ∧ w'.cell? ⟨(ad193.add ((x3_1).toNat * 6)).block, (ad193.add ((x3_1).toNat * 6)).off + 3, none⟩ = some (.int .i64 ((rd_T38 l0_4 x3_1).f3.f0)) ∧ w'.cell? ⟨(ad193.add ((x3_1).toNat * 6)).block, (ad193.add ((x3_1).toNat * 6)).off + 4, none⟩ = some (.int .i64 ((rd_T38 l0_4 x3_1).f3.f1)) ∧ w'.cell? ⟨(ad193.add ((x3_1).toNat * 6)).block, (ad193.add ((x3_1).toNat * 6)).off + 5, none⟩ = some (.int .i64 ((rd_T38 l0_4 x3_1).f3.f2))) (ds := []) (bs 19 0) (by kernel_rfl) rfl rfl ⟨bt_ BK194 0, bt_ BK194 1, bt_ BK194 2, bt_ BK194 3, bt_ BK194 4, bt_ BK194 5, bt_ BK192 0, bt_ BK192 1, bt_ BK192 2, bt_ BK192 3, bt_ BK192 4, (hd_ HB hw196_0), (hd_ HB hw196_1), (hd_ HB hw196_2), (hd_ HB hw196_3), (hd_ HB hw196_4), (hd_ HB hw196_5)⟩ (fun hHeld => ?_); refine with_tabW impl_Fair_pick.tab5 impl_Fair_pick.bits5 (fun HT_ HW_ => ?_)
           generalize w30.drew = w31 at BK192 BK194 HB hx196_0 hx196_1 hx196_2 hx196_3 hx196_4 hx196_5 hHeld ⊢
           refine ps_ 0 14 (bs 19 1) HT_ ?_
           refine tk_ 1 15 (bs 19 2) HT_ HW_ hHeld ?_
           refine ps_ 2 16 (bs 19 3) HT_ ?_
           refine ps_ 3 17 (bs 19 4) HT_ ?_
           refine ps_ 4 18 (bs 19 5) HT_ ?_
           refine ps_ 5 19 (bs 19 6) HT_ ?_
           refine ps_ 6 20 (bs 19 7) HT_ ?_
           refine ps_ 9 23 (bm 19 639) HT_ ?_
           refine ps_ 11 25 (bm 19 2687) HT_ ?_
           refine tk_ 7 21 (bm 19 2815) HT_ HW_ hHeld ?_
           refine tk_ 10 24 (bm 19 3839) HT_ HW_ hHeld ?_
           refine ps_ 12 26 (bm 19 7935) HT_ ?_
           refine ps_ 13 27 (bm 19 16127) HT_ ?_
           refine tk_ 14 28 (bm 19 32511) HT_ HW_ hHeld ?_
           refine on_ 8 (some 22) (bs 19 15) HT_ (fun K hK => ?_)
           refine gs_ Try.func52 #[.agg #[.int .i64 ((rd_T38 l0_4 x9_1).f3.f0), .int .i64 ((rd_T38 l0_4 x9_1).f3.f1), .int .i64 ((rd_T38 l0_4 x9_1).f3.f2)]] ?_
           with_reducible refine (impl_VecTop.calls ((rd_T38 l0_4 x9_1).f3.f0) ((rd_T38 l0_4 x9_1).f3.f1) ((rd_T38 l0_4 x9_1).f3.f2) t195 _ A15.out).mono ?_
           rintro e w32 ⟨rfl, hb⟩
           refine ⟨_, rfl, ?_⟩
           replace BK192 := bb_ BK192 hb; replace BK194 := bb_ BK194 hb; replace HB := Aside0.mk (below_step (bf_ HB) hb); (try clear hb); (try clear hb2); (try clear hk); (try clear hi)
           refine hK.out _ _ ⟨bt_ BK194 0, bt_ BK194 1, bt_ BK194 2, bt_ BK194 3, bt_ BK194 4, bt_ BK194 5, bt_ BK192 0, bt_ BK192 1, bt_ BK192 2, bt_ BK192 3, bt_ BK192 4, (hd_ HB hw196_0), (hd_ HB hw196_1), (hd_ HB hw196_2), (hd_ HB hw196_3), (hd_ HB hw196_4), (hd_ HB hw196_5)⟩ (fun hHeld => ?_)
           clear hK K
           refine norm_ (a' := ?_) ?_ ?_
           rotate_left
           ·show Act.put _ (some 22) _ = _
            simp only [Act.put, ls0_, ls1_, ls2_, i64_w, i32_w]
            rfl
           refine on_ 15 (some 29) (bs 19 16) HT_ (fun K hK => ?_)
           refine gs_ Try.func52 #[.agg #[.int .i64 ((rd_T38 l0_4 x3_1).f3.f0), .int .i64 ((rd_T38 l0_4 x3_1).f3.f1), .int .i64 ((rd_T38 l0_4 x3_1).f3.f2)]] ?_
           with_reducible refine (impl_VecTop.calls ((rd_T38 l0_4 x3_1).f3.f0) ((rd_T38 l0_4 x3_1).f3.f1) ((rd_T38 l0_4 x3_1).f3.f2) t197 _ A18.out).mono ?_
           rintro e w33 ⟨rfl, hb⟩
           refine ⟨_, rfl, ?_⟩
           replace BK192 := bb_ BK192 hb; replace BK194 := bb_ BK194 hb; replace HB := Aside0.mk (below_step (bf_ HB) hb); (try clear hb); (try clear hb2); (try clear hk); (try clear hi)
           refine hK.out _ _ ⟨bt_ BK194 0, bt_ BK194 1, bt_ BK194 2, bt_ BK194 3, bt_ BK194 4, bt_ BK194 5, bt_ BK192 0, bt_ BK192 1, bt_ BK192 2, bt_ BK192 3, bt_ BK192 4, (hd_ HB hw196_0), (hd_ HB hw196_1), (hd_ HB hw196_2), (hd_ HB hw196_3), (hd_ HB hw196_4), (hd_ HB hw196_5)⟩ (fun hHeld => ?_)
           clear hK K
           refine norm_ (a' := ?_) ?_ ?_
           rotate_left
           ·show Act.put _ (some 29) _ = _
            simp only [Act.put, ls0_, ls1_, ls2_, i64_w, i32_w]
            rfl
           refine ps_ 16 30 (bs 19 17) HT_ ?_
           refine ps_ 17 31 (bs 19 18) HT_ ?_
           refine ps_ 18 32 (bs 19 19) HT_ ?_
           refine done_ (done_of HT_.out (by kernel_rfl)) ?_
           try go_wp2
           go_roundg k1
           case measure => have := HK1.out; omega
           case rel => exact ⟨(x3_1), (wrap64 (x9_1 + 1)), (by first | rfl | (simp; done) | (simp [*]; done)), (by first | rfl | (simp; done) | (simp [*]; done)), H', ⟨by have := HK1.out; omega⟩, ⟨bk_ BK192⟩, ⟨bf_ HB⟩⟩
         ·rw [if_neg c17] at H
          exact absurd H (by simp)
        ·rw [if_neg c16] at H
         exact absurd H (by simp)
      ·replace c8 := Bool.eq_false_iff.mpr c8
       subst c8
       have H1 : (impl_Fair_pick.l0 k1 x3_1 l0_4 (l0_4.length : Int) (wrap64 (x9_1 + 1)) a0_0 a0_1 a0_2 a0_3 l0_4) = some r := by rw [if_neg (show ¬ (false = true) by decide)] at H; exact H
       clear H
       have H := H1
       clear H1
       have H' := Aside0.mk H
       clear H
       have p193 : 0 ≤ (x9_1 : Int) := od_
       have q193 : x9_1 < (l0_4.length : Int) := od_
       obtain ⟨ad193, e193, hx193_0, hx193_1, hx193_2, hx193_3, hx193_4, hx193_5⟩ := at_T38 HR0_4.out x9_1 p193 q193
       (try rw [← Nbq7.out] at hx193_2)
       cases e193
       replace hx193_0 := hb_ HB hx193_0
       replace hx193_1 := hb_ HB hx193_1
       replace hx193_2 := hb_ HB hx193_2
       replace hx193_3 := hb_ HB hx193_3
       replace hx193_4 := hb_ HB hx193_4
       replace hx193_5 := hb_ HB hx193_5
       replace p193 := eq_true p193
       replace q193 := eq_true q193
       try go_wp2_with (first | ((with_reducible refine gd_ 5 rfl ?_); refine bv_ 5 #[.int .i64 0, .int .i64 0, .bool false, .int .i64 0, .int .i64 0, .int .i64 0] 38 ?_; intro gb194 hg w34 hbox hb; have BK194 := Aside0.mk (hbox); have GW194 := gw_ HB hg; have GE194 := gw_ HB hg; replace HB := Aside0.mk (below_step (bf_ HB) hb); have NB192_194 := nl_ BK192 hg; have NB194_192 := ng_ BK192 hg; replace BK192 := bb_ BK192 hb; clear hb hbox hg; have hnb35 := NB194_192.out; have hnc35 := NB192_194.out; obtain ⟨hcz36_0, hcz36_1, hcz36_2, hcz36_3, hcz36_4, hcz36_5, hfz36_0, hfz36_1, hfz36_2, hfz36_3, hfz36_4, hfz36_5⟩ := bz6_ BK194))
       generalize hW_ : ((((((w34.setCell ⟨gb194, 0, none⟩ (.int .i64 ((rd_T38 l0_4 x9_1).f0))).setCell ⟨gb194, 1, none⟩ (.int .i64 ((rd_T38 l0_4 x9_1).f1))).setCell ⟨gb194, 2, none⟩ (.bool false)).setCell ⟨gb194, 3, none⟩ (.int .i64 ((rd_T38 l0_4 x9_1).f3.f0))).setCell ⟨gb194, 4, none⟩ (.int .i64 ((rd_T38 l0_4 x9_1).f3.f1))).setCell ⟨gb194, 5, none⟩ (.int .i64 ((rd_T38 l0_4 x9_1).f3.f2))) = w37
       replace BK192 := fc6_ hW_ BK192 NB192_194
       replace BK194 : Aside0 (w37.heap[gb194]? = some (.cells #[.int .i64 ((rd_T38 l0_4 x9_1).f0), .int .i64 ((rd_T38 l0_4 x9_1).f1), .bool false, .int .i64 ((rd_T38 l0_4 x9_1).f3.f0), .int .i64 ((rd_T38 l0_4 x9_1).f3.f1), .int .i64 ((rd_T38 l0_4 x9_1).f3.f2)] 38 (0, 0))) := pc6_ hW_ BK194
       replace HB : Aside0 (Below w.heap.size w w37) := ⟨by cases hW_; exact bf_ HB⟩
       clear hW_; replace BK192 := Aside0.mk (blk_drew BK192.out); replace BK194 := Aside0.mk (blk_drew BK194.out); replace HB := Aside0.mk (below_drew1 HB.out)
       refine start_ (n := 19) (S := fun w' => cw_ w' gb194 0 (.int .i64 ((rd_T38 l0_4 x9_1).f0)) ∧ cw_ w' gb194 1 (.int .i64 ((rd_T38 l0_4 x9_1).f1)) ∧ cw_ w' gb194 2 (.bool false) ∧ cw_ w' gb194 3 (.int .i64 ((rd_T38 l0_4 x9_1).f3.f0)) ∧ cw_ w' gb194 4 (.int .i64 ((rd_T38 l0_4 x9_1).f3.f1)) ∧ cw_ w' gb194 5 (.int .i64 ((rd_T38 l0_4 x9_1).f3.f2))) (ds := []) (bs 19 0) (by kernel_rfl) rfl rfl ⟨bt_ BK194 0, bt_ BK194 1, bt_ BK194 2, bt_ BK194 3, bt_ BK194 4, bt_ BK194 5⟩ (fun hHeld => ?_); refine with_tabW impl_Fair_pick.tab5 impl_Fair_pick.bits5 (fun HT_ HW_ => ?_)
       generalize w37.drew = w38 at BK192 BK194 HB hHeld ⊢
       refine ps_ 0 14 (bs 19 1) HT_ ?_
       refine tk_ 1 15 (bs 19 2) HT_ HW_ hHeld ?_
       refine ps_ 2 16 (bs 19 3) HT_ ?_
       refine pu_ 3 17 (bs 19 4) HT_ ?_
       refine pu_ 4 18 (bs 19 5) HT_ ?_
       refine pu_ 5 19 (bs 19 6) HT_ ?_
       refine pu_ 6 20 (bs 19 7) HT_ ?_
       refine pu_ 7 21 (bs 19 8) HT_ ?_
       refine pu_ 8 22 (bs 19 9) HT_ ?_
       refine pu_ 9 23 (bs 19 10) HT_ ?_
       refine pu_ 10 24 (bs 19 11) HT_ ?_
       refine pu_ 11 25 (bs 19 12) HT_ ?_
       refine pu_ 12 26 (bs 19 13) HT_ ?_
       refine pu_ 13 27 (bs 19 14) HT_ ?_
       refine pu_ 14 28 (bs 19 15) HT_ ?_
       refine pu_ 15 29 (bs 19 16) HT_ ?_
       refine pu_ 16 30 (bs 19 17) HT_ ?_
       refine pu_ 17 31 (bs 19 18) HT_ ?_
       refine ps_ 18 32 (bs 19 19) HT_ ?_
       refine done_ (done_of HT_.out (by kernel_rfl)) ?_
       try go_wp2
       go_roundg k1
       case measure => have := HK1.out; omega
       case rel => exact ⟨(x3_1), (wrap64 (x9_1 + 1)), (by first | rfl | (simp; done) | (simp [*]; done)), (by first | rfl | (simp; done) | (simp [*]; done)), H', ⟨by have := HK1.out; omega⟩, ⟨bk_ BK192⟩, ⟨bf_ HB⟩⟩
     ·rw [if_neg c6] at H
      exact absurd H (by simp)
    ·rw [if_neg c5] at H
     exact absurd H (by simp)
   ·rw [if_neg c4] at H
    have c4b0 : decide (x9_1 < (l0_4.length : Int)) = false := decide_eq_false c4
    clear c4
    obtain rfl := Option.some.inj H
    go_wp2
    go_ret
    exact ⟨by first | rfl | (simp [errW_none, errW_some] <;> rfl) | (simp [*, errW_none, errW_some] <;> rfl), bf_ HB⟩

/-! ### impl_Kid: function 95 -/
def impl_Kid.f (l0 : List (S38)) : Option ((List (S38))) := (some (([] : List (S38)) : List (S38))).bind fun y198 => (if y198.length + l0.length < 2932031007402 then (some (y198 ++ l0)) else (none))
set_option maxHeartbeats 8000000 in
set_option maxRecDepth 100000 in
theorem impl_Kid.calls_some (A0 : Addr) (c0 : Nat) (l0 : List (S38)) (r : List (S38)) (w : World) (hr0 : Kd.C k38 w (some A0) l0.length l0) (hc0 : l0.length ≤ c0) (h : impl_Kid.f l0 = some r) :
  Calls Try.prog 95 #[.slice (some A0) l0.length c0] w fun e w' => ∃ v0_ : Value, e = .returned (v0_) ∧ Kd.R k38 38 w' w.heap.size (fun _ => True) v0_ r ∧ Below w.heap.size w w' := by
 have hnil0_ := fun (W : World) (n c : Nat) => Lib.run_eql_slice_nil (P := Try.prog) W 30 38 (some A0) n c 0 0 Try.underlying30
 have HR0 := Aside0.mk hr0
 have HC0 := Aside0.mk hc0
 clear hr0 hc0; have HB := Aside0.mk (Below.refl w.heap.size w)
 have H : ((some (([] : List (S38)) : List (S38))).bind fun y198 => (if y198.length + l0.length < 2932031007402 then (some (y198 ++ l0)) else (none))) = some r := h
 clear h
 obtain ⟨y198, hy198⟩ : ∃ y_ : List (S38), y_ = (([] : List (S38))) := ⟨_, rfl⟩
 replace H : (if y198.length + l0.length < 2932031007402 then (some (y198 ++ l0)) else (none)) = some r := by first | (rw [hy198]; with_reducible exact H) | (have H2_ := (Option.bind_some _ _).symm.trans H; rw [hy198]; with_reducible exact H2_) | (have H2_ := (Option.bind_some _ _).symm.trans H; with_reducible exact H2_) | with_reducible exact H | (rw [hy198]; exact H) | exact H
 have Ny198 := Aside0.mk hy198
 clear hy198
 by_cases c2 : y198.length + l0.length < 2932031007402
 ·rw [if_pos c2] at H
  have LMc2 := Aside0.mk c2
  clear c2
  obtain ⟨y201, hy201⟩ : ∃ y_ : List (S38), y_ = (y198 ++ l0) := ⟨_, rfl⟩
  replace H : (some y201) = some r := by first | (rw [hy201]; with_reducible exact H) | (have H2_ := (Option.bind_some _ _).symm.trans H; rw [hy201]; with_reducible exact H2_) | (have H2_ := (Option.bind_some _ _).symm.trans H; with_reducible exact H2_) | with_reducible exact H | (rw [hy201]; exact H) | exact H
  have Ny201 := Aside0.mk hy201
  clear hy201
  obtain rfl := Option.some.inj H
  go_enter Try.func95, Try.ntmps95
  go_wp2_with (first | ((with_reducible refine gd_ 5 rfl ?_); refine Kd.R_lit k38 _ 38 ?hg (N := 5) ?hd (xs := ([] : List (S38))) (inner := []) (ok := fun _ => True) (okp := fun _ => True) ?hr ?hp (fun _ hk => by first | exact hk | grind) trivial (Below.refl _ _) (Nat.le_refl _) (by simp) ?_; (case hd => rfl); (case hg => rfl); (case hr => first | (go_simp; done) | (go_simp; rfl)); (case hp => exact (Reps.none _ _)); intro v199 w3 ho4 hb hg_ hnew_; clear hg_ hnew_; (first | rw [← Ny198.out] at ho4 | (simp only [Int.reduceToNat] at ho4; rw [← Ny198.out] at ho4)); have HO200 := Aside0.mk (Kd.R_lower ho4 (below_size (be_ HB))); replace HB := Aside0.mk (below_step (be_ HB) hb); clear hb ho4) | ((with_reducible refine gate_builtin (b := .append) (xs := #[.tmp 5, .tmp 6]) rfl ?_); at_builtin; refine Kd.R_append_rows k38 (w0 := w) w.heap.size rfl (.tmp 5) (.tmp 6) 30 38 (.agg #[(.int .i64 0), (.int .i64 0), (.bool false), (.int .i64 0), (.int .i64 0), (.int .i64 0)]) 48 rfl Try.underlying30 info38 rfl (by decide) (by omega) v199 y198 l0 _ _ _ (fun _ => True) (fun _ => False) rfl rfl ?aO ?aR (fun _ _ h => h) (fun _ h => h.elim) ?aF ?aB ?aS ?aL ?_; (case aR => repeat (first | exact (Kd.C_below HR0.out HB.out) | (with_reducible refine Kd.C_alloc ?_ _) | (with_reducible refine Kd.C_drewN ?_ _) | (with_reducible refine Kd.C_drew ?_))); (case aB => exact (be_ HB)); (case aF => exact (fun _ _ => trivial)); (case aO => exact (kr_ HO200)); (case aS => exact (below_size (be_ HB))); (case aL => have := LMc2.out; omega); intro v202 w5 ho hb hg hat; rw [← Ny201.out] at ho; replace HB := Aside0.mk (hb); have HO203 := Aside0.mk (ho); clear HO200 ho hb hg hat))
  go_ret
  exact ⟨_, by first | rfl | (simp [errW_none, errW_some] <;> rfl) | (simp [*, errW_none, errW_some] <;> rfl), by (with_reducible repeat (first | apply Kd.R_alloc | apply Kd.R_drewN | apply Kd.R_drew)); exact HO203.out, be_ HB⟩
 ·rw [if_neg c2] at H
  exact absurd H (by simp)
set_option maxHeartbeats 8000000 in
set_option maxRecDepth 100000 in
theorem impl_Kid.calls (A0 : Option Addr) (c0 : Nat) (l0 : List (S38)) (r : List (S38)) (w : World) (hr0 : Kd.C k38 w A0 l0.length l0) (hc0 : l0.length ≤ c0) (h : impl_Kid.f l0 = some r) :
  Calls Try.prog 95 #[.slice A0 l0.length c0] w fun e w' => ∃ v0_ : Value, e = .returned (v0_) ∧ Kd.R k38 38 w' w.heap.size (fun _ => True) v0_ r ∧ Below w.heap.size w w' := by
  cases A0 with
  | some a_ => exact impl_Kid.calls_some a_ c0 l0 r w hr0 hc0 h
  | none =>
    obtain rfl : l0 = [] := by
      rcases l0 with _ | ⟨x_, t_⟩
      · rfl
      · obtain ⟨ad_, h0_, _⟩ := hr0.2.2 (by simp)
        cases h0_
    obtain rfl : r = [] := by simpa [impl_Kid.f] using h.symm
    have hnil0_ := fun (W : World) (n c : Nat) => Lib.run_eql_slice_nil (P := Try.prog) W 30 38 none n c 0 0 Try.underlying30
    clear hr0 hc0 h
    go_enter Try.func95, Try.ntmps95
    go_wp2
    go_ret
    exact ⟨_, rfl, Kd.R_nil _ _ _ _ _, Below.refl _ _⟩

/-! ### impl_copyFair: function 62 -/
def impl_copyFair.f (a0_0 : Int) (a0_1 : Int) (a0_2 : Int) (a0_3 : Int) (l0_4 : List (S38)) : Option (Int × Int × Int × Int × (List (S38))) := (impl_Kid.f l0_4).bind fun t206 => (some (a0_0, a0_1, a0_2, a0_3, t206))
def impl_copyFair.T1 : Bool × List (List Nat × List Nat) := (true, [([], []), ([0], [0]), ([], []), ([2], [2]), ([], []), ([4], [4]), ([5], [5]), ([1, 3, 6], [1, 3, 6]), ([7, 6, 0, 1, 2, 3, 4, 5, 6, 7], [7])])
def impl_copyFair.B1 : List Nat := [0, 1, 0, 4, 0, 16, 48, 127, 255]
theorem impl_copyFair.tab1 : rtab .any (opsOf Try.f62 1) = impl_copyFair.T1 := by kernel_rfl
theorem impl_copyFair.bits1 : waitsOk impl_copyFair.T1.2 impl_copyFair.B1 = true := by kernel_rfl
set_option maxHeartbeats 8000000 in
set_option maxRecDepth 100000 in
theorem impl_copyFair.calls (a0_0 : Int) (a0_1 : Int) (a0_2 : Int) (a0_3 : Int) (A0_4 : Option Addr) (c0_4 : Nat) (l0_4 : List (S38)) (r1 : Int) (r2 : Int) (r3 : Int) (r4 : Int) (r5 : List (S38)) (w : World) (hr0_4 : Kd.C k38 w A0_4 l0_4.length l0_4) (hc0_4 : l0_4.length ≤ c0_4) (h : impl_copyFair.f a0_0 a0_1 a0_2 a0_3 l0_4 = some (r1, r2, r3, r4, r5)) :
  Calls Try.prog 62 #[.agg #[.int .i64 a0_0, .int .i64 a0_1, .int .i64 a0_2, .int .i64 a0_3, .slice A0_4 l0_4.length c0_4]] w fun e w' => ∃ v4_ : Value, e = .returned (.agg #[.int .i64 r1, .int .i64 r2, .int .i64 r3, .int .i64 r4, v4_]) ∧ Kd.R k38 38 w' w.heap.size (fun _ => True) v4_ r5 ∧ Below w.heap.size w w' := by
 have hu32 := Try.underlying32; have hu29 := Try.underlying29
 have HR0_4 := Aside0.mk hr0_4
 have HC0_4 := Aside0.mk hc0_4
 clear hr0_4 hc0_4; have HB := Aside0.mk (Below.refl w.heap.size w)
 have H : ((impl_Kid.f l0_4).bind fun t206 => (some (a0_0, a0_1, a0_2, a0_3, t206))) = some (r1, r2, r3, r4, r5) := h
 clear h
 replace H := Option.bind_eq_some_iff.mp H
 obtain ⟨t206, A20, H⟩ := H
 replace H : (some (a0_0, a0_1, a0_2, a0_3, t206)) = some (r1, r2, r3, r4, r5) := H
 have A2 := Aside0.mk A20
 clear A20
 simp only [Option.some.injEq, Prod.mk.injEq] at H
 obtain ⟨rfl, rfl, rfl, rfl, rfl⟩ := H
 go_enter Try.func62, Try.ntmps62
 try go_wp2_with (first | ((with_reducible refine gd_ 1 rfl ?_); refine bv_ 1 #[.int .i64 a0_0, .int .i64 a0_1, .int .i64 a0_2, .int .i64 a0_3, .slice A0_4 l0_4.length c0_4] 32 ?_; intro gb204 hg w3 hbox hb; have BK204 := Aside0.mk (hbox); have GW204 := gw_ HB hg; have GE204 := gw_ HB hg; replace HB := Aside0.mk (below_step (be_ HB) hb); clear hb hbox hg) | ((with_reducible refine gd_ 2 rfl ?_); refine bv_ 2 #[.int .i64 0, .int .i64 0, .int .i64 0, .int .i64 0, .slice none 0 0] 32 ?_; intro gb205 hg w4 hbox hb; have BK205 := Aside0.mk (hbox); have GW205 := gw_ HB hg; have GE205 := gw_ HB hg; replace HB := Aside0.mk (below_step (bf_ HB) hb); have NB204_205 := nl_ BK204 hg; have NB205_204 := ng_ BK204 hg; replace BK204 := bb_ BK204 hb; clear hb hbox hg))
 replace BK204 := Aside0.mk (blk_drew BK204.out); replace BK205 := Aside0.mk (blk_drew BK205.out); replace HB := Aside0.mk (below_drew1 HB.out)
 refine start_ (n := 9) (S := fun w' => cw_ w' gb204 0 (.int .i64 a0_0) ∧ cw_ w' gb204 1 (.int .i64 a0_1) ∧ cw_ w' gb204 2 (.int .i64 a0_2) ∧ cw_ w' gb204 3 (.int .i64 a0_3) ∧ cw_ w' gb204 4 (.slice A0_4 l0_4.length c0_4)) (ds := []) (bs 9 0) (by kernel_rfl) rfl rfl ⟨bt_ BK204 0, bt_ BK204 1, bt_ BK204 2, bt_ BK204 3, bt_ BK204 4⟩ (fun hHeld => ?_); refine with_tabW impl_copyFair.tab1 impl_copyFair.bits1 (fun HT_ HW_ => ?_)
 generalize w4.drew = w5 at BK204 BK205 HB hHeld ⊢
 refine ps_ 0 3 (bs 9 1) HT_ ?_
 refine ps_ 2 5 (bm 9 5) HT_ ?_
 refine ps_ 4 7 (bm 9 21) HT_ ?_
 refine tk_ 1 4 (bm 9 23) HT_ HW_ hHeld ?_
 refine tk_ 3 6 (bs 9 5) HT_ HW_ hHeld ?_
 refine tk_ 5 8 (bs 9 6) HT_ HW_ hHeld ?_
 refine on_ 6 (some 9) (bs 9 7) HT_ (fun K hK => ?_)
 refine gs_ Try.func95 #[.slice A0_4 l0_4.length c0_4] ?_
 with_reducible refine (impl_Kid.calls _ _ l0_4 t206 _ ?side1 ?side2 A2.out).mono ?_
 (case side1 => repeat (first | exact (Kd.C_below HR0_4.out HB.out) | (with_reducible refine Kd.C_alloc ?_ _) | (with_reducible refine Kd.C_drewN ?_ _) | (with_reducible refine Kd.C_drew ?_)))
 (case side2 => exact HC0_4.out)
 rintro e w6 ⟨v207, rfl, ho0, hb⟩
 refine ⟨_, rfl, ?_⟩
 have HO208 := Aside0.mk (Kd.R_lower ho0 (below_size (bf_ HB))); replace BK204 := bb_ BK204 hb; replace BK205 := bb_ BK205 hb; replace HB := Aside0.mk (below_step (bf_ HB) hb); (try clear hb); (try clear hb2); (try clear hk); (try clear hi); (try clear ho0)
 obtain ⟨Ao7, co7, eo7⟩ := Kd.R_slice HO208.out
 (first | subst eo7 | (injection eo7 with f1_ f2_ f3_; have f4_ := f1_.symm; have f5_ := f3_.symm; clear f1_ f2_ f3_; subst f4_; subst f5_))
 refine hK.out _ _ ⟨bt_ BK204 0, bt_ BK204 1, bt_ BK204 2, bt_ BK204 3, bt_ BK204 4⟩ (fun hHeld => ?_)
 clear hK K
 refine norm_ (a' := ?_) ?_ ?_
 rotate_left
 ·show Act.put _ (some 9) _ = _
  simp only [Act.put, ls0_, ls1_, ls2_, i64_w, i32_w]
  rfl
 refine ps_ 7 10 (bs 9 8) HT_ ?_
 refine on_ 8 none (bs 9 9) HT_ (fun K hK => ?_)
 have hs8 := bc_ BK205 0 (.int .i64 0) rfl; have hfs8 := blk_frozen BK205.out 0; have hns8_0 := NB204_205.out; have hms8_0 := NB205_204.out; have hs9 := bc_ BK205 1 (.int .i64 0) rfl; have hfs9 := blk_frozen BK205.out 1; have hns9_0 := NB204_205.out; have hms9_0 := NB205_204.out; have hs10 := bc_ BK205 2 (.int .i64 0) rfl; have hfs10 := blk_frozen BK205.out 2; have hns10_0 := NB204_205.out; have hms10_0 := NB205_204.out; have hs11 := bc_ BK205 3 (.int .i64 0) rfl; have hfs11 := blk_frozen BK205.out 3; have hns11_0 := NB204_205.out; have hms11_0 := NB205_204.out; have hs12 := bc_ BK205 4 (.slice none 0 0) rfl; have hfs12 := blk_frozen BK205.out 4; have hns12_0 := NB204_205.out; have hms12_0 := NB205_204.out
 refine skip_ (w1 := ?_) (by rfl) rfl ?_ ?_
 rotate_left
 ·go_simp
  rfl
 refine hK.out _ _ ⟨(cf5_ NB204_205.out hHeld.1), (cf5_ NB204_205.out hHeld.2.1), (cf5_ NB204_205.out hHeld.2.2.1), (cf5_ NB204_205.out hHeld.2.2.2.1), (cf5_ NB204_205.out hHeld.2.2.2.2)⟩ (fun hHeld => ?_)
 clear hK K
 refine done_ (done_of HT_.out (by kernel_rfl)) ?_
 try go_wp2
 refine bodyPost_ret (results_cell_row rfl _ _ gb205 32 #[.int .i64 a0_0, .int .i64 a0_1, .int .i64 a0_2, .int .i64 a0_3, .slice Ao7 t206.length co7] (0, 0) _ rfl (by (with_reducible repeat (first | refine blk_drewN ?_ _ | refine blk_drew ?_ | refine blk_alloc ?_ _)); refine blk_put (cs := #[.int .i64 a0_0, .int .i64 a0_1, .int .i64 a0_2, .int .i64 a0_3, .slice none 0 0]) ?_ 4 _ rfl; (with_reducible repeat (first | refine blk_drewN ?_ _ | refine blk_drew ?_ | refine blk_alloc ?_ _)); refine blk_put (cs := #[.int .i64 a0_0, .int .i64 a0_1, .int .i64 a0_2, .int .i64 0, .slice none 0 0]) ?_ 3 _ rfl; (with_reducible repeat (first | refine blk_drewN ?_ _ | refine blk_drew ?_ | refine blk_alloc ?_ _)); refine blk_put (cs := #[.int .i64 a0_0, .int .i64 a0_1, .int .i64 0, .int .i64 0, .slice none 0 0]) ?_ 2 _ rfl; (with_reducible repeat (first | refine blk_drewN ?_ _ | refine blk_drew ?_ | refine blk_alloc ?_ _)); refine blk_put (cs := #[.int .i64 a0_0, .int .i64 0, .int .i64 0, .int .i64 0, .slice none 0 0]) ?_ 1 _ rfl; (with_reducible repeat (first | refine blk_drewN ?_ _ | refine blk_drew ?_ | refine blk_alloc ?_ _)); refine blk_put (cs := #[.int .i64 0, .int .i64 0, .int .i64 0, .int .i64 0, .slice none 0 0]) ?_ 0 _ rfl; exact bk_ BK205) Try.underlying32 rfl (by kernel_rfl)) rfl ?_
 exact ⟨_, by first | rfl | (simp [errW_none, errW_some] <;> rfl) | (simp [*, errW_none, errW_some] <;> rfl), by (with_reducible repeat (first | apply Kd.R_alloc | apply Kd.R_drewN | apply Kd.R_drew)); exact Kd.R_mono (Kd.R_far (p := ⟨gb205, 4, none⟩) (Kd.R_far (p := ⟨gb205, 3, none⟩) (Kd.R_far (p := ⟨gb205, 2, none⟩) (Kd.R_far (p := ⟨gb205, 1, none⟩) (Kd.R_far (p := ⟨gb205, 0, none⟩) (Kd.R_types HO208.out BK205.out (by decide)) (fun _ hk => by first | exact hk.2 | grind) (.int .i64 a0_0)) (fun _ hk => by first | exact hk.2 | grind) (.int .i64 a0_1)) (fun _ hk => by first | exact hk.2 | grind) (.int .i64 a0_2)) (fun _ hk => by first | exact hk.2 | grind) (.int .i64 a0_3)) (fun _ hk => by first | exact hk.2 | grind) (.slice Ao7 t206.length co7)) (fun _ hk => by first | exact trivial | grind), bf_ HB⟩

-- NOT PRINTED: function 99 (impl_both)

/-! ### impl_VecMost_1: function 100 -/
def impl_VecMost_1.f (a0 : Int) (a1 : Int) : Option (Int) := some (mx a0 a1)
set_option maxHeartbeats 8000000 in
set_option maxRecDepth 100000 in
theorem impl_VecMost_1.calls (a0 : Int) (a1 : Int) (r : Int) (w : World) (h : impl_VecMost_1.f a0 a1 = some r) :
  Calls Try.prog 100 #[.int .i64 a0, .int .i64 a1] w fun e w' => e = .returned (.int .i64 r) ∧ Below w.heap.size w w' := by
 have HB := Aside0.mk (Below.refl w.heap.size w)
 have H : (some (mx a0 a1)) = some r := h
 clear h
 obtain ⟨ji3, hji3⟩ : ∃ j_ : Int, (mx a0 a1) = j_ := ⟨_, rfl⟩
 replace H : (some ji3) = some r := by first | (rw [hji3] at H; exact H) | (simp only [hji3] at H ⊢; exact H)
 have hji3_ : (if a0 < a1 then a1 else a0) = ji3 := hji3
 obtain rfl := Option.some.inj H
 go_enter Try.func100, Try.ntmps100
 go_wp2
 go_ret
 exact ⟨by first | rfl | (simp [errW_none, errW_some] <;> rfl) | (simp only [← hji3]; first | rfl | (simp [errW_none, errW_some] <;> rfl)) | (simp [*, errW_none, errW_some] <;> rfl), be_ HB⟩

/-! ### impl_both: function 99 -/
def impl_both.T1 : Bool × List (List Nat × List Nat) := (true, [([], []), ([], []), ([1], [1]), ([], []), ([3], [3]), ([0, 2, 4], [0, 2, 4]), ([], []), ([], []), ([7], [7]), ([], []), ([9], [9]), ([6, 8, 10, 5], [6, 8, 10]), ([], []), ([], []), ([13], [13]), ([], []), ([15], [15]), ([12, 14, 16, 11], [12, 14, 16]), ([5, 11, 17], [5, 11, 17]), ([18, 17, 0, 1, 2, 3, 4, 5, 6, 7, 8, 9, 10, 11, 12, 13, 14, 15, 16, 17, 18], [18])])
def impl_both.B1 : List Nat := [0, 0, 2, 0, 8, 31, 0, 0, 128, 0, 512, 2047, 0, 0, 8192, 0, 32768, 131071, 262143, 524287]
theorem impl_both.tab1 : rtab .any (opsOf Try.f99 1) = impl_both.T1 := by kernel_rfl
theorem impl_both.bits1 : waitsOk impl_both.T1.2 impl_both.B1 = true := by kernel_rfl
set_option maxHeartbeats 8000000 in
set_option maxRecDepth 100000 in
theorem impl_both.calls (a0_0 : Int) (a0_1 : Int) (a0_2 : Int) (a1_0 : Int) (a1_1 : Int) (a1_2 : Int) (t104 t105 t106 : Int) (nc : Nat) (fnc : Func) (lb : Array Value) (hf : Try.prog.funcs[nc]? = some fnc) (hname : (fnc.name == "runtime.NumGoroutine") = false) (hbd : fnc.body.isSome = true) (w : World)
  (h1 : ∀ (W : World), Below w.heap.size w W → Calls Try.prog nc (#[.int .i64 a0_0, .int .i64 a1_0] ++ lb) W fun e w' => e = .returned (.int .i64 t104) ∧ Below W.heap.size W w')
  (h2 : ∀ (W : World), Below w.heap.size w W → Calls Try.prog nc (#[.int .i64 a0_1, .int .i64 a1_1] ++ lb) W fun e w' => e = .returned (.int .i64 t105) ∧ Below W.heap.size W w')
  (h3 : ∀ (W : World), Below w.heap.size w W → Calls Try.prog nc (#[.int .i64 a0_2, .int .i64 a1_2] ++ lb) W fun e w' => e = .returned (.int .i64 t106) ∧ Below W.heap.size W w') :
  Calls Try.prog 99 #[.agg #[.int .i64 a0_0, .int .i64 a0_1, .int .i64 a0_2], .agg #[.int .i64 a1_0, .int .i64 a1_1, .int .i64 a1_2], .func (.func nc) #[] lb] w fun e w' => e = .returned (.agg #[.int .i64 t104, .int .i64 t105, .int .i64 t106]) ∧ Below w.heap.size w w' := by
 have HF := Aside0.mk hf
 have HNM := Aside0.mk hname
 have HBD := Aside0.mk hbd
 have HG1 := Aside0.mk h1
 have HG2 := Aside0.mk h2
 have HG3 := Aside0.mk h3
 clear hf hname hbd h1 h2 h3
 have hu29 := Try.underlying29
 have HB := Aside0.mk (Below.refl w.heap.size w)
 go_enter Try.func99, Try.ntmps99
 try go_wp2_with (first | ((with_reducible refine gd_ 3 rfl ?_); refine bv_ 3 #[.int .i64 a0_0, .int .i64 a0_1, .int .i64 a0_2] 29 ?_; intro gb101 hg w6 hbox hb; have BK101 := Aside0.mk (hbox); have GW101 := Aside0.mk ((by rw [hg]; exact (below_size (be_ HB)) : w.heap.size ≤ gb101)); have GE101 := Aside0.mk ((by rw [hg]; exact (below_size (be_ HB)) : w.heap.size ≤ gb101)); replace HB := Aside0.mk (below_step (be_ HB) hb); clear hb hbox hg) | ((with_reducible refine gd_ 4 rfl ?_); refine bv_ 4 #[.int .i64 a1_0, .int .i64 a1_1, .int .i64 a1_2] 29 ?_; intro gb102 hg w7 hbox hb; have BK102 := Aside0.mk (hbox); have GW102 := Aside0.mk ((by rw [hg]; exact (below_size (by repeat (first | (with_reducible first | exact HB.out | apply below_alloc | apply pw_below_drewN | apply below_drew1 | refine below_set ?_ GE101.out) | exact HB.out))) : w.heap.size ≤ gb102)); have GE102 := Aside0.mk ((by rw [hg]; exact (below_size (by repeat (first | (with_reducible first | exact HB.out | apply below_alloc | apply pw_below_drewN | apply below_drew1 | refine below_set ?_ GE101.out) | exact HB.out))) : w.heap.size ≤ gb102)); replace HB := Aside0.mk (below_step (by repeat (first | (with_reducible first | exact HB.out | apply below_alloc | apply pw_below_drewN | apply below_drew1 | refine below_set ?_ GE101.out) | exact HB.out)) hb); have NB101_102 := Aside0.mk ((by rw [hg]; exact Nat.ne_of_lt (blk_lt (g := gb101) (o := .cells #[.int .i64 a0_0, .int .i64 a0_1, .int .i64 a0_2] 29 (0, 0)) (bk_ BK101)) : gb101 ≠ gb102)); have NB102_101 := Aside0.mk ((by rw [hg]; exact Nat.ne_of_gt (blk_lt (g := gb101) (o := .cells #[.int .i64 a0_0, .int .i64 a0_1, .int .i64 a0_2] 29 (0, 0)) (bk_ BK101)) : gb102 ≠ gb101)); replace BK101 := Aside0.mk (blk_below (g := gb101) (o := .cells #[.int .i64 a0_0, .int .i64 a0_1, .int .i64 a0_2] 29 (0, 0)) (bk_ BK101) hb); clear hb hbox hg) | ((with_reducible refine gd_ 6 rfl ?_); refine bv_ 6 #[.int .i64 0, .int .i64 0, .int .i64 0] 29 ?_; intro gb103 hg w8 hbox hb; have BK103 := Aside0.mk (hbox); have GW103 := Aside0.mk ((by rw [hg]; exact (below_size (by repeat (first | (with_reducible first | exact HB.out | apply below_alloc | apply pw_below_drewN | apply below_drew1 | refine below_set ?_ GE101.out | refine below_set ?_ GE102.out) | exact HB.out))) : w.heap.size ≤ gb103)); have GE103 := Aside0.mk ((by rw [hg]; exact (below_size (by repeat (first | (with_reducible first | exact HB.out | apply below_alloc | apply pw_below_drewN | apply below_drew1 | refine below_set ?_ GE101.out | refine below_set ?_ GE102.out) | exact HB.out))) : w.heap.size ≤ gb103)); replace HB := Aside0.mk (below_step (by repeat (first | (with_reducible first | exact HB.out | apply below_alloc | apply pw_below_drewN | apply below_drew1 | refine below_set ?_ GE101.out | refine below_set ?_ GE102.out) | exact HB.out)) hb); have NB101_103 := Aside0.mk ((by rw [hg]; exact Nat.ne_of_lt (blk_lt (g := gb101) (o := .cells #[.int .i64 a0_0, .int .i64 a0_1, .int .i64 a0_2] 29 (0, 0)) (bk_ BK101)) : gb101 ≠ gb103)); have NB103_101 := Aside0.mk ((by rw [hg]; exact Nat.ne_of_gt (blk_lt (g := gb101) (o := .cells #[.int .i64 a0_0, .int .i64 a0_1, .int .i64 a0_2] 29 (0, 0)) (bk_ BK101)) : gb103 ≠ gb101)); replace BK101 := Aside0.mk (blk_below (g := gb101) (o := .cells #[.int .i64 a0_0, .int .i64 a0_1, .int .i64 a0_2] 29 (0, 0)) (bk_ BK101) hb); have NB102_103 := Aside0.mk ((by rw [hg]; exact Nat.ne_of_lt (blk_lt (g := gb102) (o := .cells #[.int .i64 a1_0, .int .i64 a1_1, .int .i64 a1_2] 29 (0, 0)) (bk_ BK102)) : gb102 ≠ gb103)); have NB103_102 := Aside0.mk ((by rw [hg]; exact Nat.ne_of_gt (blk_lt (g := gb102) (o := .cells #[.int .i64 a1_0, .int .i64 a1_1, .int .i64 a1_2] 29 (0, 0)) (bk_ BK102)) : gb103 ≠ gb102)); replace BK102 := Aside0.mk (blk_below (g := gb102) (o := .cells #[.int .i64 a1_0, .int .i64 a1_1, .int .i64 a1_2] 29 (0, 0)) (bk_ BK102) hb); clear hb hbox hg))
 have n0_ := Aside0.mk (blk_drew BK101.out)
 have n1_ := Aside0.mk (blk_drew BK102.out)
 have n2_ := Aside0.mk (blk_drew BK103.out)
 have n3_ := Aside0.mk (below_drew1 HB.out)
 clear BK101
 clear BK102
 clear BK103
 clear HB
 have BK101 := n0_
 have BK102 := n1_
 have BK103 := n2_
 have HB := n3_
 clear n0_ n1_ n2_ n3_
 refine start_ (n := 20) (S := fun w' => cw_ w' gb101 0 (.int .i64 a0_0) ∧ cw_ w' gb101 1 (.int .i64 a0_1) ∧ cw_ w' gb101 2 (.int .i64 a0_2) ∧ cw_ w' gb102 0 (.int .i64 a1_0) ∧ cw_ w' gb102 1 (.int .i64 a1_1) ∧ cw_ w' gb102 2 (.int .i64 a1_2)) (ds := []) (bs 20 0) (by kernel_rfl) rfl rfl ⟨(blk_cell BK101.out 0).trans rfl, (blk_cell BK101.out 1).trans rfl, (blk_cell BK101.out 2).trans rfl, (blk_cell BK102.out 0).trans rfl, (blk_cell BK102.out 1).trans rfl, (blk_cell BK102.out 2).trans rfl⟩ (fun hHeld => ?_); refine with_tabW impl_both.tab1 impl_both.bits1 (fun HT_ HW_ => ?_)
 generalize w8.drew = w9 at BK101 BK102 BK103 HB hHeld ⊢
 refine ps_ 0 7 (bs 20 1) HT_ ?_
 refine ps_ 1 8 (bs 20 2) HT_ ?_
 refine ps_ 3 10 (bm 20 11) HT_ ?_
 refine ps_ 6 13 (bm 20 75) HT_ ?_
 refine ps_ 7 14 (bm 20 203) HT_ ?_
 refine ps_ 9 16 (bm 20 715) HT_ ?_
 refine ps_ 12 19 (bm 20 4811) HT_ ?_
 refine ps_ 13 20 (bm 20 13003) HT_ ?_
 refine ps_ 15 22 (bm 20 45771) HT_ ?_
 refine tk_ 2 9 (bm 20 45775) HT_ HW_ hHeld ?_
 refine tk_ 4 11 (bm 20 45791) HT_ HW_ hHeld ?_
 refine tk_ 8 15 (bm 20 46047) HT_ HW_ hHeld ?_
 refine tk_ 10 17 (bm 20 47071) HT_ HW_ hHeld ?_
 refine tk_ 14 21 (bm 20 63455) HT_ HW_ hHeld ?_
 refine tk_ 16 23 (bm 20 128991) HT_ HW_ hHeld ?_
 refine on_ 5 (some 12) (bm 20 129023) HT_ (fun K hK => ?_)
 refine goesV_ (t := 7) HF.out HNM.out HBD.out #[.int .i64 a0_0, .int .i64 a1_0] lb (by rfl) rfl rfl (by rfl) mt_ ?_
 refine (HG1.out _ (by repeat (first | (with_reducible first | exact HB.out | apply below_alloc | apply pw_below_drewN | apply below_drew1 | refine below_set ?_ GE101.out | refine below_set ?_ GE102.out | refine below_set ?_ GE103.out) | exact HB.out))).mono ?_
 rintro e w10 ⟨rfl, hb⟩
 refine ⟨_, rfl, ?_⟩
 have n0_ := Aside0.mk (blk_below (g := gb101) (o := .cells #[.int .i64 a0_0, .int .i64 a0_1, .int .i64 a0_2] 29 (0, 0)) (bk_ BK101) hb)
 have n1_ := Aside0.mk (blk_below (g := gb102) (o := .cells #[.int .i64 a1_0, .int .i64 a1_1, .int .i64 a1_2] 29 (0, 0)) (bk_ BK102) hb)
 have n2_ := Aside0.mk (blk_below (g := gb103) (o := .cells #[.int .i64 0, .int .i64 0, .int .i64 0] 29 (0, 0)) (bk_ BK103) hb)
 have n3_ := Aside0.mk (below_step (by repeat (first | (with_reducible first | exact HB.out | apply below_alloc | apply pw_below_drewN | apply below_drew1 | refine below_set ?_ GE101.out | refine below_set ?_ GE102.out | refine below_set ?_ GE103.out) | exact HB.out)) hb)
 clear BK101
 clear BK102
 clear BK103
 clear HB
 have BK101 := n0_
 have BK102 := n1_
 have BK103 := n2_
 have HB := n3_
 clear n0_ n1_ n2_ n3_
 (try clear hb)
 (try clear hb2)
 (try clear hk)
 (try clear hi)
 refine hK.out _ _ ⟨(blk_cell BK101.out 0).trans rfl, (blk_cell BK101.out 1).trans rfl, (blk_cell BK101.out 2).trans rfl, (blk_cell BK102.out 0).trans rfl, (blk_cell BK102.out 1).trans rfl, (blk_cell BK102.out 2).trans rfl⟩ (fun hHeld => ?_)
 clear hK K
 refine norm_ (a' := ?_) ?_ ?_
 rotate_left
 ·show Act.put _ (some 12) _ = _
  simp only [Act.put, ls0_, ls1_, ls2_, i64_w, i32_w]
  rfl
 refine on_ 11 (some 18) (bs 20 17) HT_ (fun K hK => ?_)
 refine goesV_ (t := 13) HF.out HNM.out HBD.out #[.int .i64 a0_1, .int .i64 a1_1] lb (by rfl) rfl rfl (by rfl) mt_ ?_
 refine (HG2.out _ (by repeat (first | (with_reducible first | exact HB.out | apply below_alloc | apply pw_below_drewN | apply below_drew1 | refine below_set ?_ GE101.out | refine below_set ?_ GE102.out | refine below_set ?_ GE103.out) | exact HB.out))).mono ?_
 rintro e w11 ⟨rfl, hb⟩
 refine ⟨_, rfl, ?_⟩
 have n0_ := Aside0.mk (blk_below (g := gb101) (o := .cells #[.int .i64 a0_0, .int .i64 a0_1, .int .i64 a0_2] 29 (0, 0)) (bk_ BK101) hb)
 have n1_ := Aside0.mk (blk_below (g := gb102) (o := .cells #[.int .i64 a1_0, .int .i64 a1_1, .int .i64 a1_2] 29 (0, 0)) (bk_ BK102) hb)
 have n2_ := Aside0.mk (blk_below (g := gb103) (o := .cells #[.int .i64 0, .int .i64 0, .int .i64 0] 29 (0, 0)) (bk_ BK103) hb)
 have n3_ := Aside0.mk (below_step (by repeat (first | (with_reducible first | exact HB.out | apply below_alloc | apply pw_below_drewN | apply below_drew1 | refine below_set ?_ GE101.out | refine below_set ?_ GE102.out | refine below_set ?_ GE103.out) | exact HB.out)) hb)
 clear BK101
 clear BK102
 clear BK103
 clear HB
 have BK101 := n0_
 have BK102 := n1_
 have BK103 := n2_
 have HB := n3_
 clear n0_ n1_ n2_ n3_
 (try clear hb)
 (try clear hb2)
 (try clear hk)
 (try clear hi)
 refine hK.out _ _ ⟨(blk_cell BK101.out 0).trans rfl, (blk_cell BK101.out 1).trans rfl, (blk_cell BK101.out 2).trans rfl, (blk_cell BK102.out 0).trans rfl, (blk_cell BK102.out 1).trans rfl, (blk_cell BK102.out 2).trans rfl⟩ (fun hHeld => ?_)
 clear hK K
 refine norm_ (a' := ?_) ?_ ?_
 rotate_left
 ·show Act.put _ (some 18) _ = _
  simp only [Act.put, ls0_, ls1_, ls2_, i64_w, i32_w]
  rfl
 refine on_ 17 (some 24) (bs 20 18) HT_ (fun K hK => ?_)
 refine goesV_ (t := 19) HF.out HNM.out HBD.out #[.int .i64 a0_2, .int .i64 a1_2] lb (by rfl) rfl rfl (by rfl) mt_ ?_
 refine (HG3.out _ (by repeat (first | (with_reducible first | exact HB.out | apply below_alloc | apply pw_below_drewN | apply below_drew1 | refine below_set ?_ GE101.out | refine below_set ?_ GE102.out | refine below_set ?_ GE103.out) | exact HB.out))).mono ?_
 rintro e w12 ⟨rfl, hb⟩
 refine ⟨_, rfl, ?_⟩
 have n0_ := Aside0.mk (blk_below (g := gb101) (o := .cells #[.int .i64 a0_0, .int .i64 a0_1, .int .i64 a0_2] 29 (0, 0)) (bk_ BK101) hb)
 have n1_ := Aside0.mk (blk_below (g := gb102) (o := .cells #[.int .i64 a1_0, .int .i64 a1_1, .int .i64 a1_2] 29 (0, 0)) (bk_ BK102) hb)
 have n2_ := Aside0.mk (blk_below (g := gb103) (o := .cells #[.int .i64 0, .int .i64 0, .int .i64 0] 29 (0, 0)) (bk_ BK103) hb)
 have n3_ := Aside0.mk (below_step (by repeat (first | (with_reducible first | exact HB.out | apply below_alloc | apply pw_below_drewN | apply below_drew1 | refine below_set ?_ GE101.out | refine below_set ?_ GE102.out | refine below_set ?_ GE103.out) | exact HB.out)) hb)
 clear BK101
 clear BK102
 clear BK103
 clear HB
 have BK101 := n0_
 have BK102 := n1_
 have BK103 := n2_
 have HB := n3_
 clear n0_ n1_ n2_ n3_
 (try clear hb)
 (try clear hb2)
 (try clear hk)
 (try clear hi)
 refine hK.out _ _ ⟨(blk_cell BK101.out 0).trans rfl, (blk_cell BK101.out 1).trans rfl, (blk_cell BK101.out 2).trans rfl, (blk_cell BK102.out 0).trans rfl, (blk_cell BK102.out 1).trans rfl, (blk_cell BK102.out 2).trans rfl⟩ (fun hHeld => ?_)
 clear hK K
 refine norm_ (a' := ?_) ?_ ?_
 rotate_left
 ·show Act.put _ (some 24) _ = _
  simp only [Act.put, ls0_, ls1_, ls2_, i64_w, i32_w]
  rfl
 refine ps_ 18 25 (bs 20 19) HT_ ?_
 refine on_ 19 none (bs 20 20) HT_ (fun K hK => ?_)
 have hs13 : w12.cell? ⟨gb103, 0, none⟩ = some (.int .i64 0) := (blk_cell BK103.out 0).trans rfl
 have hfs13 := blk_frozen BK103.out 0
 have hns13_0 := NB101_103.out
 have hns13_1 := NB102_103.out
 have hms13_0 := NB103_101.out
 have hms13_1 := NB103_102.out
 have hs14 : w12.cell? ⟨gb103, 1, none⟩ = some (.int .i64 0) := (blk_cell BK103.out 1).trans rfl
 have hfs14 := blk_frozen BK103.out 1
 have hns14_0 := NB101_103.out
 have hns14_1 := NB102_103.out
 have hms14_0 := NB103_101.out
 have hms14_1 := NB103_102.out
 have hs15 : w12.cell? ⟨gb103, 2, none⟩ = some (.int .i64 0) := (blk_cell BK103.out 2).trans rfl
 have hfs15 := blk_frozen BK103.out 2
 have hns15_0 := NB101_103.out
 have hns15_1 := NB102_103.out
 have hms15_0 := NB103_101.out
 have hms15_1 := NB103_102.out
 refine skip_ (w1 := ?_) (by rfl) rfl ?_ ?_
 rotate_left
 ·go_simp
  rfl
 refine hK.out _ _ ⟨(cf3_ NB101_103.out hHeld.1), (cf3_ NB101_103.out hHeld.2.1), (cf3_ NB101_103.out hHeld.2.2.1), (cf3_ NB102_103.out hHeld.2.2.2.1), (cf3_ NB102_103.out hHeld.2.2.2.2.1), (cf3_ NB102_103.out hHeld.2.2.2.2.2)⟩ (fun hHeld => ?_)
 clear hK K
 refine done_ (done_of HT_.out (by kernel_rfl)) ?_
 try go_wp2
 refine bodyPost_ret (results_cell_row rfl _ _ gb103 29 #[.int .i64 t104, .int .i64 t105, .int .i64 t106] (0, 0) _ rfl (by (with_reducible repeat (first | refine blk_drewN ?_ _ | refine blk_drew ?_ | refine blk_alloc ?_ _)); refine blk_put (cs := #[.int .i64 t104, .int .i64 t105, .int .i64 0]) ?_ 2 _ rfl; (with_reducible repeat (first | refine blk_drewN ?_ _ | refine blk_drew ?_ | refine blk_alloc ?_ _)); refine blk_put (cs := #[.int .i64 t104, .int .i64 0, .int .i64 0]) ?_ 1 _ rfl; (with_reducible repeat (first | refine blk_drewN ?_ _ | refine blk_drew ?_ | refine blk_alloc ?_ _)); refine blk_put (cs := #[.int .i64 0, .int .i64 0, .int .i64 0]) ?_ 0 _ rfl; exact bk_ BK103) Try.underlying29 rfl (by kernel_rfl)) rfl ?_
 exact ⟨by first | rfl | (simp [errW_none, errW_some] <;> rfl) | (simp [*, errW_none, errW_some] <;> rfl), by repeat (first | (with_reducible first | exact HB.out | apply below_alloc | apply pw_below_drewN | apply below_drew1 | refine below_set ?_ GE101.out | refine below_set ?_ GE102.out | refine below_set ?_ GE103.out) | exact HB.out)⟩


def impl_both_100.f (a0_0 : Int) (a0_1 : Int) (a0_2 : Int) (a1_0 : Int) (a1_1 : Int) (a1_2 : Int) : Option (Int × Int × Int) := (impl_VecMost_1.f a0_0 a1_0).bind fun r1 => (impl_VecMost_1.f a0_1 a1_1).bind fun r2 => (impl_VecMost_1.f a0_2 a1_2).bind fun r3 => some (r1, r2, r3)
theorem impl_both_100.calls (a0_0 : Int) (a0_1 : Int) (a0_2 : Int) (a1_0 : Int) (a1_1 : Int) (a1_2 : Int) (r1 r2 r3 : Int) (w : World) (h : impl_both_100.f a0_0 a0_1 a0_2 a1_0 a1_1 a1_2 = some (r1, r2, r3)) :
  Calls Try.prog 99 #[.agg #[.int .i64 a0_0, .int .i64 a0_1, .int .i64 a0_2], .agg #[.int .i64 a1_0, .int .i64 a1_1, .int .i64 a1_2], .func (.func 100) #[] #[]] w fun e w' => e = .returned (.agg #[.int .i64 r1, .int .i64 r2, .int .i64 r3]) ∧ Below w.heap.size w w' := by
 unfold impl_both_100.f at h
 obtain ⟨q1, h1, h⟩ := Option.bind_eq_some_iff.mp h
 obtain ⟨q2, h2, h⟩ := Option.bind_eq_some_iff.mp h
 obtain ⟨q3, h3, h⟩ := Option.bind_eq_some_iff.mp h
 simp only [Option.some.injEq, Prod.mk.injEq] at h
 obtain ⟨e1, e2, e3⟩ := h
 subst e1 e2 e3
 exact impl_both.calls a0_0 a0_1 a0_2 a1_0 a1_1 a1_2 q1 q2 q3 100 Try.f100 #[] Try.func100 (by kernel_rfl) rfl w (fun W _ => impl_VecMost_1.calls a0_0 a1_0 q1 W h1) (fun W _ => impl_VecMost_1.calls a0_1 a1_1 q2 W h2) (fun W _ => impl_VecMost_1.calls a0_2 a1_2 q3 W h3)

/-! ### impl_VecMost: function 69 -/
def impl_VecMost.f (a0_0 : Int) (a0_1 : Int) (a0_2 : Int) (a1_0 : Int) (a1_1 : Int) (a1_2 : Int) : Option (Int × Int × Int) := (impl_both_100.f a0_0 a0_1 a0_2 a1_0 a1_1 a1_2).bind fun bt212 => (some (bt212.1, bt212.2.1, bt212.2.2))
set_option maxHeartbeats 8000000 in
set_option maxRecDepth 100000 in
theorem impl_VecMost.calls (a0_0 : Int) (a0_1 : Int) (a0_2 : Int) (a1_0 : Int) (a1_1 : Int) (a1_2 : Int) (r1 : Int) (r2 : Int) (r3 : Int) (w : World) (h : impl_VecMost.f a0_0 a0_1 a0_2 a1_0 a1_1 a1_2 = some (r1, r2, r3)) :
  Calls Try.prog 69 #[.agg #[.int .i64 a0_0, .int .i64 a0_1, .int .i64 a0_2], .agg #[.int .i64 a1_0, .int .i64 a1_1, .int .i64 a1_2]] w fun e w' => e = .returned (.agg #[.int .i64 r1, .int .i64 r2, .int .i64 r3]) ∧ Below w.heap.size w w' := by
 have hu29 := Try.underlying29; have HB := Aside0.mk (Below.refl w.heap.size w)
 have H : ((impl_both_100.f a0_0 a0_1 a0_2 a1_0 a1_1 a1_2).bind fun bt212 => (some (bt212.1, bt212.2.1, bt212.2.2))) = some (r1, r2, r3) := h
 clear h
 replace H := Option.bind_eq_some_iff.mp H
 obtain ⟨⟨t212, t213, t214⟩, A30, H⟩ := H
 replace H : (some (t212, t213, t214)) = some (r1, r2, r3) := H
 have A3 := Aside0.mk A30
 clear A30
 simp only [Option.some.injEq, Prod.mk.injEq] at H
 obtain ⟨rfl, rfl, rfl⟩ := H
 go_enter Try.func69, Try.ntmps69
 go_wp2_with (first | ((with_reducible refine gd_ 2 rfl ?_); refine bv_ 2 #[.int .i64 a0_0, .int .i64 a0_1, .int .i64 a0_2] 29 ?_; intro gb209 hg w4 hbox hb; have BK209 := Aside0.mk (hbox); have GW209 := gw_ HB hg; have GE209 := gw_ HB hg; replace HB := Aside0.mk (below_step (be_ HB) hb); clear hb hbox hg) | ((with_reducible refine gd_ 3 rfl ?_); refine bv_ 3 #[.int .i64 a1_0, .int .i64 a1_1, .int .i64 a1_2] 29 ?_; intro gb210 hg w5 hbox hb; have BK210 := Aside0.mk (hbox); have GW210 := gw_ HB hg; have GE210 := gw_ HB hg; replace HB := Aside0.mk (below_step (bf_ HB) hb); have NB209_210 := nl_ BK209 hg; have NB210_209 := ng_ BK209 hg; replace BK209 := bb_ BK209 hb; clear hb hbox hg) | ((with_reducible refine gd_ 4 rfl ?_); refine bv_ 4 #[.int .i64 0, .int .i64 0, .int .i64 0] 29 ?_; intro gb211 hg w6 hbox hb; have BK211 := Aside0.mk (hbox); have GW211 := gw_ HB hg; have GE211 := gw_ HB hg; replace HB := Aside0.mk (below_step (bf_ HB) hb); have NB209_211 := nl_ BK209 hg; have NB211_209 := ng_ BK209 hg; replace BK209 := bb_ BK209 hb; have NB210_211 := nl_ BK210 hg; have NB211_210 := ng_ BK210 hg; replace BK210 := bb_ BK210 hb; clear hb hbox hg; have hnb7 := NB209_210.out; have hnc7 := NB210_209.out; have hnb8 := NB209_211.out; have hnc8 := NB211_209.out; obtain ⟨hcz9_0, hcz9_1, hcz9_2, hfz9_0, hfz9_1, hfz9_2⟩ := bz3_ BK209; have hnb10 := NB210_211.out; have hnc10 := NB211_210.out; obtain ⟨hcz11_0, hcz11_1, hcz11_2, hfz11_0, hfz11_1, hfz11_2⟩ := bz3_ BK210) | ((with_reducible refine gc_ 99 rfl ?_); refine gl_ 7 Try.func99 #[.agg #[.int .i64 a0_0, .int .i64 a0_1, .int .i64 a0_2], .agg #[.int .i64 a1_0, .int .i64 a1_1, .int .i64 a1_2], .func (.func 100) #[] #[]] ?_; (with_reducible refine (impl_both_100.calls a0_0 a0_1 a0_2 a1_0 a1_1 a1_2 t212 t213 t214 _ A3.out).mono ?_); rintro e w12 ⟨rfl, hb⟩; refine ⟨_, rfl, ?_⟩; replace BK209 := bb_ BK209 hb; replace BK210 := bb_ BK210 hb; replace BK211 := bb_ BK211 hb; replace HB := Aside0.mk (below_step (bf_ HB) hb); (try clear hb); (try clear hb2); (try clear hk); (try clear hi); obtain ⟨hcz13_0, hcz13_1, hcz13_2, hfz13_0, hfz13_1, hfz13_2⟩ := bz3_ BK211))
 refine bodyPost_ret (results_cell_row rfl _ _ gb211 29 #[.int .i64 t212, .int .i64 t213, .int .i64 t214] (0, 0) _ rfl (by (with_reducible repeat (first | refine blk_drewN ?_ _ | refine blk_drew ?_ | refine blk_alloc ?_ _)); refine blk_put (cs := #[.int .i64 t212, .int .i64 t213, .int .i64 0]) ?_ 2 _ rfl; (with_reducible repeat (first | refine blk_drewN ?_ _ | refine blk_drew ?_ | refine blk_alloc ?_ _)); refine blk_put (cs := #[.int .i64 t212, .int .i64 0, .int .i64 0]) ?_ 1 _ rfl; (with_reducible repeat (first | refine blk_drewN ?_ _ | refine blk_drew ?_ | refine blk_alloc ?_ _)); refine blk_put (cs := #[.int .i64 0, .int .i64 0, .int .i64 0]) ?_ 0 _ rfl; exact bk_ BK211) Try.underlying29 rfl (by kernel_rfl)) rfl ?_
 exact ⟨by first | rfl | (simp [errW_none, errW_some] <;> rfl) | (simp [*, errW_none, errW_some] <;> rfl), bf_ HB⟩

/-! ### impl_ChargeOk: function 74 -/
def impl_ChargeOk.f (a0_0 : Int) (a0_1 : Int) (a0_2 : Int) : Option (Bool) := (impl_Vec_isFrom.f a0_0 a0_1 a0_2 1 2000).bind fun t216 => (some t216)
set_option maxHeartbeats 8000000 in
set_option maxRecDepth 100000 in
theorem impl_ChargeOk.calls (a0_0 : Int) (a0_1 : Int) (a0_2 : Int) (r : Bool) (w : World) (h : impl_ChargeOk.f a0_0 a0_1 a0_2 = some r) :
  Calls Try.prog 74 #[.agg #[.int .i64 a0_0, .int .i64 a0_1, .int .i64 a0_2]] w fun e w' => e = .returned (.bool r) ∧ Below w.heap.size w w' := by
 have hu29 := Try.underlying29; have HB := Aside0.mk (Below.refl w.heap.size w)
 have H : ((impl_Vec_isFrom.f a0_0 a0_1 a0_2 1 2000).bind fun t216 => (some t216)) = some r := h
 clear h
 replace H := Option.bind_eq_some_iff.mp H
 obtain ⟨t216, A20, H⟩ := H
 replace H : (some t216) = some r := H
 have A2 := Aside0.mk A20
 clear A20
 obtain rfl := Option.some.inj H
 go_enter Try.func74, Try.ntmps74
 go_wp2_with (first | ((with_reducible refine gd_ 1 rfl ?_); refine bv_ 1 #[.int .i64 a0_0, .int .i64 a0_1, .int .i64 a0_2] 29 ?_; intro gb215 hg w3 hbox hb; have BK215 := Aside0.mk (hbox); have GW215 := gw_ HB hg; have GE215 := gw_ HB hg; replace HB := Aside0.mk (below_step (be_ HB) hb); clear hb hbox hg; obtain ⟨hcz4_0, hcz4_1, hcz4_2, hfz4_0, hfz4_1, hfz4_2⟩ := bz3_ BK215) | ((with_reducible refine gc_ 91 rfl ?_); refine gl_ 4 Try.func91 #[.agg #[.int .i64 a0_0, .int .i64 a0_1, .int .i64 a0_2], .int .i64 1, .int .i64 2000] ?_; (with_reducible refine (impl_Vec_isFrom.calls a0_0 a0_1 a0_2 1 2000 t216 _ A2.out).mono ?_); rintro e w5 ⟨rfl, hb⟩; refine ⟨_, rfl, ?_⟩; replace BK215 := bb_ BK215 hb; replace HB := Aside0.mk (below_step (bf_ HB) hb); (try clear hb); (try clear hb2); (try clear hk); (try clear hi)))
 go_ret
 exact ⟨by first | rfl | (simp [errW_none, errW_some] <;> rfl) | (simp [*, errW_none, errW_some] <;> rfl), bf_ HB⟩

end Go.Proofs.Ytljhaoiopokmfaa.PFnExactFairServe
