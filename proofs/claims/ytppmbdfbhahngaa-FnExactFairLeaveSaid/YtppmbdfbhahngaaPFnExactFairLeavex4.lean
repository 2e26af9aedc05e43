-- printed by a program of this session (wip/printx) out of the translation; Lean checks it
import Derived.Test.YtppmbdfbhahngaaVFnExactFairLeave
import Derived.Test.YtppmbdfbhahngaaPFnExactFairLeavex0
import Derived.Test.YtppmbdfbhahngaaPFnExactFairLeavex1
import Derived.Test.YtppmbdfbhahngaaPFnExactFairLeavex3
namespace Go.Proofs.Ytppmbdfbhahngaa.PFnExactFairLeave
open Go.RowKit Go.Proofs.YtppmbdfbhahngaaW.PrintWords Go.Proofs.YtppmbdfbhahngaaW.PrintLast Go.Proofs.YtppmbdfbhahngaaW.PrintMore
attribute [local go_sem] max2_int min2_int max_two min_two max_three min_three max_four min_four   -- for this text's walks alone
set_option linter.unusedVariables false
set_option linter.unusedSimpArgs false

attribute [local go_sem high] eqA28
/-! ### spec_l18At: function 31 -/
def spec_l18At.l0 : Nat → Int → Int → Int → Int → Int → Int → List (S46) → Option (Int)
  | 0, _, _, _, _, _, _, _ => none
  | k + 1, x1, x5, x127000, x127001, x127002, x127003, x127004 => if x5 < (x127004.length : Int) then (if 0 ≤ x5 then (if ((rd_T46 x127004 x5).f0) = x1 then (some x5) else (spec_l18At.l0 k x1 (wrap64 (x5 + 1)) x127000 x127001 x127002 x127003 x127004)) else (none)) else (some (-1))
def spec_l18At.f (k : Nat) (a0_0 : Int) (a0_1 : Int) (a0_2 : Int) (a0_3 : Int) (l0_4 : List (S46)) (a1 : Int) : Option (Int) := spec_l18At.l0 k a1 0 a0_0 a0_1 a0_2 a0_3 l0_4
theorem spec_l18At.mono_l : ∀ k, (∀ y0 y1 y2 y3 y4 y5 y6, LeO (spec_l18At.l0 k y0 y1 y2 y3 y4 y5 y6) (spec_l18At.l0 (k + 1) y0 y1 y2 y3 y4 y5 y6))
 | 0 => fun _ _ _ _ _ _ _ r h => by simp [spec_l18At.l0] at h
 | k + 1 => by
  have ih0 := spec_l18At.mono_l k
  ·intro y0 y1 y2 y3 y4 y5 y6
   unfold spec_l18At.l0
   repeat' (first | (with_reducible exact ih0 ..) | (with_reducible exact LeO.refl _) | (with_reducible exact LeO.none _) | (with_reducible refine LeO.ite ?_ ?_) | (with_reducible refine LeO.bind ?_ (fun _ => ?_)) | exact ih0 .. | exact LeO.none _ | refine LeO.ite ?_ ?_ | refine LeO.bind ?_ (fun _ => ?_))
theorem spec_l18At.mono : ∀ a0 a1 a2 a3 a4 a5 k, LeO (spec_l18At.f k a0 a1 a2 a3 a4 a5) (spec_l18At.f (k + 1) a0 a1 a2 a3 a4 a5) := by
 intro a0 a1 a2 a3 a4 a5 k
 have ih0 := spec_l18At.mono_l k
 unfold spec_l18At.f
 repeat' (first | (with_reducible exact ih0 ..) | (with_reducible exact LeO.refl _) | (with_reducible exact LeO.none _) | (with_reducible refine LeO.ite ?_ ?_) | (with_reducible refine LeO.bind ?_ (fun _ => ?_)) | exact ih0 .. | exact LeO.none _ | refine LeO.ite ?_ ?_ | refine LeO.bind ?_ (fun _ => ?_))
set_option maxHeartbeats 8000000 in
set_option maxRecDepth 100000 in
theorem spec_l18At.calls (k : Nat) (a0_0 : Int) (a0_1 : Int) (a0_2 : Int) (a0_3 : Int) (A0_4 : Option Addr) (c0_4 : Nat) (l0_4 : List (S46)) (a1 : Int) (r : Int) (w : World) (hr0_4 : Kd.C k46 w A0_4 l0_4.length l0_4) (hc0_4 : l0_4.length ≤ c0_4) (h : spec_l18At.f k a0_0 a0_1 a0_2 a0_3 l0_4 a1 = some r) :
  Calls Try.prog 31 #[.agg #[.int .i64 a0_0, .int .i64 a0_1, .int .i64 a0_2, .int .i64 a0_3, .slice A0_4 l0_4.length c0_4], .int .i64 a1] w fun e w' => e = .returned (.int .i64 r) ∧ Below w.heap.size w w' := by
 have hu31 := Try.underlying31
 have HR0_4 := Aside0.mk hr0_4
 have HC0_4 := Aside0.mk hc0_4
 clear hr0_4 hc0_4; have HB := Aside0.mk (Below.refl w.heap.size w)
 have H := h
 clear h
 unfold spec_l18At.f at H
 have H' := Aside0.mk H
 clear H
 go_enter Try.func31, Try.ntmps31
 go_wp2_with (first | ((with_reducible refine gd_ 2 rfl ?_); refine bv_ 2 #[.int .i64 a0_0, .int .i64 a0_1, .int .i64 a0_2, .int .i64 a0_3, .slice A0_4 l0_4.length c0_4] 31 ?_; intro gb126 hg w3 hbox hb; have BK126 := Aside0.mk (hbox); have GW126 := gw_ HB hg; have GE126 := gw_ HB hg; replace HB := Aside0.mk (below_step (be_ HB) hb); clear hb hbox hg))
 go_loopg [5] k (fun kq v5 w' => ∃ (x5_1 : Int), v5 = .int .i64 x5_1 ∧ Aside0 (spec_l18At.l0 kq a1 x5_1 a0_0 a0_1 a0_2 a0_3 l0_4 = some r) ∧ Aside0 (kq ≤ k) ∧ Aside0 (w'.heap[gb126]? = some (.cells #[.int .i64 a0_0, .int .i64 a0_1, .int .i64 a0_2, .int .i64 a0_3, (.slice A0_4 l0_4.length c0_4)] 31 (0, 0))) ∧ Aside0 (Below w.heap.size w w'))
 case atStart => exact ⟨(0), (by first | rfl | (simp; done) | (simp [*]; done)), H', ⟨Nat.le_refl _⟩, ⟨bk_ BK126⟩, ⟨bf_ HB⟩⟩
 case round =>
  clear H'
  (try clear p2); (try clear c3)
  obtain ⟨x5_1, rfl, HA, HK1, BK126, HB⟩ := hrel
  cases gk with
  | zero => exact absurd HA.out (by simp [spec_l18At.l0])
  | succ k1 =>
   have H := HA.out
   clear HA
   simp only [spec_l18At.l0] at H
   by_cases c4 : x5_1 < (l0_4.length : Int)
   ·rw [if_pos c4] at H
    have c4b0 : decide (x5_1 < (l0_4.length : Int)) = true := decide_eq_true c4
    clear c4
    by_cases c5 : 0 ≤ x5_1
    ·rw [if_pos c5] at H
     have c5b0 : decide (0 ≤ x5_1) = true := decide_eq_true c5
     clear c5
     by_cases c6 : ((rd_T46 l0_4 x5_1).f0) = a1
     ·rw [if_pos c6] at H
      have c6b0 : (((rd_T46 l0_4 x5_1).f0) == a1) = true := beq_iff_eq.mpr c6
      have c6b1 : (((rd_T46 l0_4 x5_1).f0) != a1) = false := bne_eq_false_iff_eq.mpr c6
      clear c6
      obtain rfl := Option.some.inj H
      obtain ⟨hcz7_0, hcz7_1, hcz7_2, hcz7_3, hcz7_4, hfz7_0, hfz7_1, hfz7_2, hfz7_3, hfz7_4⟩ := bz5_ BK126
      have p127 : 0 ≤ (x5_1 : Int) := od_
      have q127 : x5_1 < (l0_4.length : Int) := od_
      obtain ⟨ad127, e127, hx127_0, hx127_1, hx127_2, hx127_3, hx127_4, hx127_5⟩ := at_T46 HR0_4.out x5_1 p127 q127
      cases e127
      replace hx127_0 := hb_ HB hx127_0
      replace hx127_1 := hb_ HB hx127_1
      replace hx127_2 := hb_ HB hx127_2
      replace hx127_3 := hb_ HB hx127_3
      replace hx127_4 := hb_ HB hx127_4
      replace hx127_5 := hb_ HB hx127_5
      replace p127 := eq_true p127
      replace q127 := eq_true q127
      go_wp2
      go_ret
      exact ⟨by first | rfl | (simp [errW_none, errW_some] <;> rfl) | (simp [*, errW_none, errW_some] <;> rfl), bf_ HB⟩
     ·rw [if_neg c6] at H
      have c6b0 : (((rd_T46 l0_4 x5_1).f0) == a1) = false := beq_eq_false_iff_ne.mpr c6
      have c6b1 : (((rd_T46 l0_4 x5_1).f0) != a1) = true := bne_iff_ne.mpr c6
      have H' := Aside0.mk H
      clear H; obtain ⟨hcz8_0, hcz8_1, hcz8_2, hcz8_3, hcz8_4, hfz8_0, hfz8_1, hfz8_2, hfz8_3, hfz8_4⟩ := bz5_ BK126
      have p127 : 0 ≤ (x5_1 : Int) := od_
      have q127 : x5_1 < (l0_4.length : Int) := od_
      obtain ⟨ad127, e127, hx127_0, hx127_1, hx127_2, hx127_3, hx127_4, hx127_5⟩ := at_T46 HR0_4.out x5_1 p127 q127
      cases e127
      replace hx127_0 := hb_ HB hx127_0
      replace hx127_1 := hb_ HB hx127_1
      replace hx127_2 := hb_ HB hx127_2
      replace hx127_3 := hb_ HB hx127_3
      replace hx127_4 := hb_ HB hx127_4
      replace hx127_5 := hb_ HB hx127_5
      replace p127 := eq_true p127
      replace q127 := eq_true q127
      go_wp2
      go_roundg k1
      case measure => have := HK1.out; omega
      case rel => exact ⟨(wrap64 (x5_1 + 1)), (by first | rfl | (simp; done) | (simp [*]; done)), H', ⟨by have := HK1.out; omega⟩, ⟨bk_ BK126⟩, ⟨bf_ HB⟩⟩
    ·rw [if_neg c5] at H
     exact absurd H (by simp)
   ·rw [if_neg c4] at H
    have c4b0 : decide (x5_1 < (l0_4.length : Int)) = false := decide_eq_false c4
    clear c4
    obtain rfl := Option.some.inj H
    obtain ⟨hcz9_0, hcz9_1, hcz9_2, hcz9_3, hcz9_4, hfz9_0, hfz9_1, hfz9_2, hfz9_3, hfz9_4⟩ := bz5_ BK126
    go_wp2
    go_ret
    exact ⟨by first | rfl | (simp [errW_none, errW_some] <;> rfl) | (simp [*, errW_none, errW_some] <;> rfl), bf_ HB⟩

/-! ### spec_VecMost: function 60 -/
def spec_VecMost.f (a0_0 : Int) (a0_1 : Int) (a0_2 : Int) (a1_0 : Int) (a1_1 : Int) (a1_2 : Int) : Option (Int × Int × Int) := some (mx a0_0 a1_0, mx a0_1 a1_1, mx a0_2 a1_2)
set_option maxHeartbeats 8000000 in
set_option maxRecDepth 100000 in
theorem spec_VecMost.calls (a0_0 : Int) (a0_1 : Int) (a0_2 : Int) (a1_0 : Int) (a1_1 : Int) (a1_2 : Int) (r1 : Int) (r2 : Int) (r3 : Int) (w : World) (h : spec_VecMost.f a0_0 a0_1 a0_2 a1_0 a1_1 a1_2 = some (r1, r2, r3)) :
  Calls Try.prog 60 #[.agg #[.int .i64 a0_0, .int .i64 a0_1, .int .i64 a0_2], .agg #[.int .i64 a1_0, .int .i64 a1_1, .int .i64 a1_2]] w fun e w' => e = .returned (.agg #[.int .i64 r1, .int .i64 r2, .int .i64 r3]) ∧ Below w.heap.size w w' := by
 have hu28 := Try.underlying28; have HB := Aside0.mk (Below.refl w.heap.size w)
 have H := h
 clear h
 unfold spec_VecMost.f at H
 obtain ⟨ji3, hji3⟩ : ∃ j_ : Int, (mx a0_0 a1_0) = j_ := ⟨_, rfl⟩
 replace H : (some (ji3, mx a0_1 a1_1, mx a0_2 a1_2)) = some (r1, r2, r3) := by first | (rw [hji3] at H; exact H) | (simp only [hji3] at H ⊢; exact H)
 have hji3_ : (if a0_0 < a1_0 then a1_0 else a0_0) = ji3 := hji3
 obtain ⟨ji4, hji4⟩ : ∃ j_ : Int, (mx a0_1 a1_1) = j_ := ⟨_, rfl⟩
 replace H : (some (ji3, ji4, mx a0_2 a1_2)) = some (r1, r2, r3) := by first | (rw [hji4] at H; exact H) | (simp only [hji4] at H ⊢; exact H)
 have hji4_ : (if a0_1 < a1_1 then a1_1 else a0_1) = ji4 := hji4
 obtain ⟨ji5, hji5⟩ : ∃ j_ : Int, (mx a0_2 a1_2) = j_ := ⟨_, rfl⟩
 replace H : (some (ji3, ji4, ji5)) = some (r1, r2, r3) := by first | (rw [hji5] at H; exact H) | (simp only [hji5] at H ⊢; exact H)
 have hji5_ : (if a0_2 < a1_2 then a1_2 else a0_2) = ji5 := hji5
 simp only [Option.some.injEq, Prod.mk.injEq] at H
 obtain ⟨rfl, rfl, rfl⟩ := H
 go_enter Try.func60, Try.ntmps60
 go_wp2_with (first | ((with_reducible refine gd_ 2 rfl ?_); refine bv_ 2 #[.int .i64 a0_0, .int .i64 a0_1, .int .i64 a0_2] 28 ?_; intro gb128 hg w6 hbox hb; have BK128 := Aside0.mk (hbox); have GW128 := gw_ HB hg; have GE128 := gw_ HB hg; replace HB := Aside0.mk (below_step (be_ HB) hb); clear hb hbox hg) | ((with_reducible refine gd_ 3 rfl ?_); refine bv_ 3 #[.int .i64 a1_0, .int .i64 a1_1, .int .i64 a1_2] 28 ?_; intro gb129 hg w7 hbox hb; have BK129 := Aside0.mk (hbox); have GW129 := gw_ HB hg; have GE129 := gw_ HB hg; replace HB := Aside0.mk (below_step (bf_ HB) hb); have NB128_129 := nl_ BK128 hg; have NB129_128 := ng_ BK128 hg; replace BK128 := bb_ BK128 hb; clear hb hbox hg) | ((with_reducible refine gd_ 4 rfl ?_); refine bv_ 4 #[.int .i64 0, .int .i64 0, .int .i64 0] 28 ?_; intro gb130 hg w8 hbox hb; have BK130 := Aside0.mk (hbox); have GW130 := gw_ HB hg; have GE130 := gw_ HB hg; replace HB := Aside0.mk (below_step (bf_ HB) hb); have NB128_130 := nl_ BK128 hg; have NB130_128 := ng_ BK128 hg; replace BK128 := bb_ BK128 hb; have NB129_130 := nl_ BK129 hg; have NB130_129 := ng_ BK129 hg; replace BK129 := bb_ BK129 hb; clear hb hbox hg; have hnb9 := NB128_129.out; have hnc9 := NB129_128.out; have hnb10 := NB128_130.out; have hnc10 := NB130_128.out; obtain ⟨hcz11_0, hcz11_1, hcz11_2, hfz11_0, hfz11_1, hfz11_2⟩ := bz3_ BK128; have hnb12 := NB129_130.out; have hnc12 := NB130_129.out; obtain ⟨hcz13_0, hcz13_1, hcz13_2, hfz13_0, hfz13_1, hfz13_2⟩ := bz3_ BK129; obtain ⟨hcz14_0, hcz14_1, hcz14_2, hfz14_0, hfz14_1, hfz14_2⟩ := bz3_ BK130))
 refine bodyPost_ret (results_cell_row rfl _ _ gb130 28 #[.int .i64 ji3, .int .i64 ji4, .int .i64 ji5] (0, 0) _ rfl (by (with_reducible repeat (first | refine blk_drewN ?_ _ | refine blk_drew ?_ | refine blk_alloc ?_ _)); refine blk_put (cs := #[.int .i64 ji3, .int .i64 ji4, .int .i64 0]) ?_ 2 _ rfl; (with_reducible repeat (first | refine blk_drewN ?_ _ | refine blk_drew ?_ | refine blk_alloc ?_ _)); refine blk_put (cs := #[.int .i64 ji3, .int .i64 0, .int .i64 0]) ?_ 1 _ rfl; (with_reducible repeat (first | refine blk_drewN ?_ _ | refine blk_drew ?_ | refine blk_alloc ?_ _)); refine blk_put (cs := #[.int .i64 0, .int .i64 0, .int .i64 0]) ?_ 0 _ rfl; exact bk_ BK130) Try.underlying28 rfl (by kernel_rfl)) rfl ?_
 exact ⟨by first | rfl | (simp [errW_none, errW_some] <;> rfl) | (simp only [← hji3, ← hji4, ← hji5]; first | rfl | (simp [errW_none, errW_some] <;> rfl)) | (simp [*, errW_none, errW_some] <;> rfl), bf_ HB⟩

/-! ### spec_FairOwed: function 32 -/
def spec_FairOwed.j0 : Nat → Int → Bool → Int → Int → Int → Int → List (S46) → Option (Bool)
  | 0, _, _, _, _, _, _, _ => none
  | k + 1, x1, x14, x132000, x132001, x132002, x132003, x132004 => if x14 = true then (some false) else ((spec_l18At.f k x132000 x132001 x132002 x132003 x132004 x1).bind fun t134 => (if 0 ≤ t134 then (if t134 < (x132004.length : Int) then (if (rd_T46 x132004 t134).f2 = true then (some true) else ((spec_VecMost.f ((rd_T46 x132004 t134).f3.f0) ((rd_T46 x132004 t134).f3.f1) ((rd_T46 x132004 t134).f3.f2) x132001 x132002 x132003).bind fun bt137 => (some (!(bt137.1 == x132001) || (!(bt137.2.1 == x132002) || (!(bt137.2.2 == x132003))))))) else (none)) else (none)))
def spec_FairOwed.f (k : Nat) (a0_0 : Int) (a0_1 : Int) (a0_2 : Int) (a0_3 : Int) (l0_4 : List (S46)) (a1 : Int) : Option (Bool) := (spec_FairOk.f k a0_0 a0_1 a0_2 a0_3 l0_4).bind fun t132 => (if t132 = true then ((spec_l18At.f k a0_0 a0_1 a0_2 a0_3 l0_4 a1).bind fun t133 => (spec_FairOwed.j0 k a1 (decide (t133 < 0)) a0_0 a0_1 a0_2 a0_3 l0_4)) else (spec_FairOwed.j0 k a1 true a0_0 a0_1 a0_2 a0_3 l0_4))
theorem spec_FairOwed.mono_l : ∀ k, (∀ y0 y1 y2 y3 y4 y5 y6, LeO (spec_FairOwed.j0 k y0 y1 y2 y3 y4 y5 y6) (spec_FairOwed.j0 (k + 1) y0 y1 y2 y3 y4 y5 y6))
 | 0 => fun _ _ _ _ _ _ _ r h => by simp [spec_FairOwed.j0] at h
 | k + 1 => by
  have ih0 := spec_FairOwed.mono_l k
  ·intro y0 y1 y2 y3 y4 y5 y6
   unfold spec_FairOwed.j0
   repeat' (first | (with_reducible exact ih0 ..) | (with_reducible exact spec_FairOk.mono _ _ _ _ _ _) | (with_reducible exact spec_l18At.mono _ _ _ _ _ _ _) | (with_reducible exact LeO.refl _) | (with_reducible exact LeO.none _) | (with_reducible refine LeO.ite ?_ ?_) | (with_reducible refine LeO.bind ?_ (fun _ => ?_)) | exact ih0 .. | exact spec_FairOk.mono _ _ _ _ _ _ | exact spec_l18At.mono _ _ _ _ _ _ _ | exact LeO.none _ | refine LeO.ite ?_ ?_ | refine LeO.bind ?_ (fun _ => ?_))
theorem spec_FairOwed.mono : ∀ a0 a1 a2 a3 a4 a5 k, LeO (spec_FairOwed.f k a0 a1 a2 a3 a4 a5) (spec_FairOwed.f (k + 1) a0 a1 a2 a3 a4 a5) := by
 intro a0 a1 a2 a3 a4 a5 k
 have ih0 := spec_FairOwed.mono_l k
 unfold spec_FairOwed.f
 repeat' (first | (with_reducible exact ih0 ..) | (with_reducible exact spec_FairOk.mono _ _ _ _ _ _) | (with_reducible exact spec_l18At.mono _ _ _ _ _ _ _) | (with_reducible exact LeO.refl _) | (with_reducible exact LeO.none _) | (with_reducible refine LeO.ite ?_ ?_) | (with_reducible refine LeO.bind ?_ (fun _ => ?_)) | exact ih0 .. | exact spec_FairOk.mono _ _ _ _ _ _ | exact spec_l18At.mono _ _ _ _ _ _ _ | exact LeO.none _ | refine LeO.ite ?_ ?_ | refine LeO.bind ?_ (fun _ => ?_))
def spec_FairOwed.T3 : Bool × List (List Nat × List Nat) := (true, [([], []), ([0], [0]), ([], []), ([], []), ([2, 3], [2, 3]), ([1, 4], [1, 4]), ([5], [5]), ([], []), ([7, 6, 4, 0, 1, 2, 3, 4, 5, 6, 7], [6, 7])])
def spec_FairOwed.B3 : List Nat := [0, 1, 0, 0, 12, 31, 63, 0, 255]
theorem spec_FairOwed.tab3 : rtab .any (opsOf Try.f32 3) = spec_FairOwed.T3 := by kernel_rfl
theorem spec_FairOwed.bits3 : waitsOk spec_FairOwed.T3.2 spec_FairOwed.B3 = true := by kernel_rfl
def spec_FairOwed.T4 : Bool × List (List Nat × List Nat) := (true, [([], []), ([0], [0]), ([1], [1]), ([2], [2]), ([3, 2], [2, 3]), ([2], [2]), ([5, 2], [2, 5]), ([4, 6, 2, 2], [2, 4, 6]), ([2], [2]), ([8, 2], [2, 8]), ([7, 9, 2], [2, 7, 9]), ([2, 10], [2, 10]), ([11, 7, 0, 1, 2, 3, 4, 5, 6, 7, 8, 9, 10, 11], [11])])
def spec_FairOwed.B4 : List Nat := [0, 1, 3, 7, 15, 7, 39, 127, 7, 263, 1023, 2047, 4095]
theorem spec_FairOwed.tab4 : rtab .any (opsOf Try.f32 4) = spec_FairOwed.T4 := by kernel_rfl
theorem spec_FairOwed.bits4 : waitsOk spec_FairOwed.T4.2 spec_FairOwed.B4 = true := by kernel_rfl
set_option maxHeartbeats 8000000 in
set_option maxRecDepth 100000 in
theorem spec_FairOwed.calls (k : Nat) (a0_0 : Int) (a0_1 : Int) (a0_2 : Int) (a0_3 : Int) (A0_4 : Option Addr) (c0_4 : Nat) (l0_4 : List (S46)) (a1 : Int) (r : Bool) (w : World) (hr0_4 : Kd.C k46 w A0_4 l0_4.length l0_4) (hc0_4 : l0_4.length ≤ c0_4) (h : spec_FairOwed.f k a0_0 a0_1 a0_2 a0_3 l0_4 a1 = some r) :
  Calls Try.prog 32 #[.agg #[.int .i64 a0_0, .int .i64 a0_1, .int .i64 a0_2, .int .i64 a0_3, .slice A0_4 l0_4.length c0_4], .int .i64 a1] w fun e w' => e = .returned (.bool r) ∧ Below w.heap.size w w' := by
 have hu31 := Try.underlying31; have hu46 := Try.underlying46; have hu28 := Try.underlying28
 have HR0_4 := Aside0.mk hr0_4
 have HC0_4 := Aside0.mk hc0_4
 clear hr0_4 hc0_4; have HB := Aside0.mk (Below.refl w.heap.size w)
 have H := h
 clear h
 unfold spec_FairOwed.f at H
 have HC3 := Aside0.mk H
 clear H
 go_enter Try.func32, Try.ntmps32
 go_upto_region 1 with (first | ((with_reducible refine gd_ 2 rfl ?_); refine bv_ 2 #[.int .i64 a0_0, .int .i64 a0_1, .int .i64 a0_2, .int .i64 a0_3, .slice A0_4 l0_4.length c0_4] 31 ?_; intro gb131 hg w4 hbox hb; have BK131 := Aside0.mk (hbox); have GW131 := gw_ HB hg; have GE131 := gw_ HB hg; replace HB := Aside0.mk (below_step (be_ HB) hb); clear hb hbox hg))
 (try simp only [Act.put, ls0_, ls1_, ls2_])
 go_cut [14] (fun v14 wc => ∃ (kq : Nat) (x14_2 : Bool), v14 = .bool x14_2 ∧ Aside0 (spec_FairOwed.j0 kq a1 x14_2 a0_0 a0_1 a0_2 a0_3 l0_4 = some r) ∧ Aside0 (kq ≤ k) ∧ Aside0 (wc.heap[gb131]? = some (.cells #[.int .i64 a0_0, .int .i64 a0_1, .int .i64 a0_2, .int .i64 a0_3, (.slice A0_4 l0_4.length c0_4)] 31 (0, 0))) ∧ Aside0 (Below w.heap.size w wc))
 case first =>
  have H := HC3.out
  clear HC3
  replace H := Option.bind_eq_some_iff.mp H
  obtain ⟨t132, A50, H⟩ := H
  have A5 := Aside0.mk A50
  clear A50
  by_cases c6 : t132 = true
  ·subst c6
   rw [if_pos rfl] at H
   replace H := Option.bind_eq_some_iff.mp H
   obtain ⟨t133, A70, H⟩ := H
   have A7 := Aside0.mk A70
   clear A70
   have H' := Aside0.mk H
   clear H; obtain ⟨hcz8_0, hcz8_1, hcz8_2, hcz8_3, hcz8_4, hfz8_0, hfz8_1, hfz8_2, hfz8_3, hfz8_4⟩ := bz5_ BK131
   go_wp2_with (first | ((with_reducible refine gc_ 18 rfl ?_); refine gl_ 7 Try.func18 #[.agg #[.int .i64 a0_0, .int .i64 a0_1, .int .i64 a0_2, .int .i64 a0_3, .slice A0_4 l0_4.length c0_4]] ?_; (with_reducible refine (spec_FairOk.calls k a0_0 a0_1 a0_2 a0_3 _ _ l0_4 true _ ?side1 ?side2 A5.out).mono ?_); (case side1 => repeat (first | exact (Kd.C_below HR0_4.out HB.out) | (with_reducible refine Kd.C_alloc ?_ _) | (with_reducible refine Kd.C_drewN ?_ _) | (with_reducible refine Kd.C_drew ?_))); (case side2 => exact HC0_4.out); rintro e w9 ⟨rfl, hb⟩; refine ⟨_, rfl, ?_⟩; replace BK131 := bb_ BK131 hb; replace HB := Aside0.mk (below_step (bf_ HB) hb); (try clear hb); (try clear hb2); (try clear hk); (try clear hi); obtain ⟨hcz10_0, hcz10_1, hcz10_2, hcz10_3, hcz10_4, hfz10_0, hfz10_1, hfz10_2, hfz10_3, hfz10_4⟩ := bz5_ BK131) | (go_at_call 31; (with_reducible refine (spec_l18At.calls k a0_0 a0_1 a0_2 a0_3 _ _ l0_4 a1 t133 _ ?side1 ?side2 A7.out).mono ?_); (case side1 => repeat (first | exact (Kd.C_below HR0_4.out HB.out) | (with_reducible refine Kd.C_alloc ?_ _) | (with_reducible refine Kd.C_drewN ?_ _) | (with_reducible refine Kd.C_drew ?_))); (case side2 => exact HC0_4.out); rintro e w11 ⟨rfl, hb⟩; replace BK131 := bb_ BK131 hb; replace HB := Aside0.mk (below_step (bf_ HB) hb); (try clear hb); (try clear hb2); (try clear hk); (try clear hi)))
   go_meet
   case rel => exact ⟨_, (decide (t133 < 0)), (by first | rfl | (simp; done) | (simp [*]; done)), H', ⟨by first | omega | exact Nat.le_refl _⟩, ⟨bk_ BK131⟩, ⟨bf_ HB⟩⟩
  ·replace c6 := Bool.eq_false_iff.mpr c6
   subst c6
   rw [if_neg (show ¬ (false = true) by decide)] at H
   have H' := Aside0.mk H
   clear H; obtain ⟨hcz12_0, hcz12_1, hcz12_2, hcz12_3, hcz12_4, hfz12_0, hfz12_1, hfz12_2, hfz12_3, hfz12_4⟩ := bz5_ BK131
   go_wp2_with (first | ((with_reducible refine gc_ 18 rfl ?_); refine gl_ 7 Try.func18 #[.agg #[.int .i64 a0_0, .int .i64 a0_1, .int .i64 a0_2, .int .i64 a0_3, .slice A0_4 l0_4.length c0_4]] ?_; (with_reducible refine (spec_FairOk.calls k a0_0 a0_1 a0_2 a0_3 _ _ l0_4 false _ ?side1 ?side2 A5.out).mono ?_); (case side1 => repeat (first | exact (Kd.C_below HR0_4.out HB.out) | (with_reducible refine Kd.C_alloc ?_ _) | (with_reducible refine Kd.C_drewN ?_ _) | (with_reducible refine Kd.C_drew ?_))); (case side2 => exact HC0_4.out); rintro e w13 ⟨rfl, hb⟩; refine ⟨_, rfl, ?_⟩; replace BK131 := bb_ BK131 hb; replace HB := Aside0.mk (below_step (bf_ HB) hb); (try clear hb); (try clear hb2); (try clear hk); (try clear hi)))
   go_meet
   case rel => exact ⟨_, (true), (by first | rfl | (simp; done) | (simp [*]; done)), H', ⟨by first | omega | exact Nat.le_refl _⟩, ⟨bk_ BK131⟩, ⟨bf_ HB⟩⟩
 case rest =>
  clear HC3; (try clear c1); (try clear p2); (try clear c3); (try clear c6); (try clear hcz10_0 hcz10_1 hcz10_2 hcz10_3 hcz10_4 hfz10_0 hfz10_1 hfz10_2 hfz10_3 hfz10_4); (try clear hcz12_0 hcz12_1 hcz12_2 hcz12_3 hcz12_4 hfz12_0 hfz12_1 hfz12_2 hfz12_3 hfz12_4); (try clear hcz8_0 hcz8_1 hcz8_2 hcz8_3 hcz8_4 hfz8_0 hfz8_1 hfz8_2 hfz8_3 hfz8_4)
  obtain ⟨kq, x14_2, rfl, HA, HJ2, BK131, HB⟩ := hcut
  cases kq with
  | zero => exact absurd HA.out (by simp [spec_FairOwed.j0])
  | succ kj2 =>
   have H := HA.out
   clear HA
   simp only [spec_FairOwed.j0] at H
   by_cases c14 : x14_2 = true
   ·subst c14
    rw [if_pos rfl] at H
    obtain rfl := Option.some.inj H
    go_wp2
    go_ret
    exact ⟨by first | rfl | (simp [errW_none, errW_some] <;> rfl) | (simp [*, errW_none, errW_some] <;> rfl), bf_ HB⟩
   ·replace c14 := Bool.eq_false_iff.mpr c14
    subst c14
    rw [if_neg (show ¬ (false = true) by decide)] at H
    replace H := Option.bind_eq_some_iff.mp H
    obtain ⟨t134, A150, H⟩ := H
    have A15 := Aside0.mk A150
    clear A150
    by_cases c16 : 0 ≤ t134
    ·rw [if_pos c16] at H
     have c16b0 : decide (0 ≤ t134) = true := decide_eq_true c16
     clear c16
     by_cases c17 : t134 < (l0_4.length : Int)
     ·rw [if_pos c17] at H
      have c17b0 : decide (t134 < (l0_4.length : Int)) = true := decide_eq_true c17
      clear c17
      obtain ⟨bq18, hbq18⟩ : ∃ b_ : Bool, b_ = ((rd_T46 l0_4 t134).f2) := ⟨_, rfl⟩
      replace H : (if bq18 = true then (some true) else ((spec_VecMost.f ((rd_T46 l0_4 t134).f3.f0) ((rd_T46 l0_4 t134).f3.f1) ((rd_T46 l0_4 t134).f3.f2) a0_1 a0_2 a0_3).bind fun bt137 => (some (!(bt137.1 == a0_1) || (!(bt137.2.1 == a0_2) || (!(bt137.2.2 == a0_3))))))) = some r := by rw [← hbq18] at H; exact H
      have Nbq18 := Aside0.mk hbq18
      clear hbq18
      by_cases c19 : bq18 = true
      ·subst c19
       rw [if_pos rfl] at H
       obtain rfl := Option.some.inj H
       try go_wp2
       replace BK131 := Aside0.mk (blk_drew BK131.out); replace HB := Aside0.mk (below_drew1 HB.out)
       have p135 : 0 ≤ (t134 : Int) := od_
       have q135 : t134 < (l0_4.length : Int) := od_
       obtain ⟨ad135, e135, hx135_0, hx135_1, hx135_2, hx135_3, hx135_4, hx135_5⟩ := at_T46 HR0_4.out t134 p135 q135
       have hw135_5 := hx135_5; have hw135_4 := hx135_4; have hw135_3 := hx135_3; have hw135_2 := hx135_2; have hw135_1 := hx135_1; have hw135_0 := hx135_0
       (try rw [← Nbq18.out] at hx135_2)
       (try rw [← Nbq18.out] at hw135_2)
       cases e135
       replace hx135_0 := hb_ HB hx135_0
       replace hx135_1 := hb_ HB hx135_1
       replace hx135_2 := hb_ HB hx135_2
       replace hx135_3 := hb_ HB hx135_3
       replace hx135_4 := hb_ HB hx135_4
       replace hx135_5 := hb_ HB hx135_5
       replace p135 := eq_true p135
       replace q135 := eq_true q135
       refine start_ (n := 9) (S := fun w' => cw_ w' gb131 0 (.int .i64 a0_0) ∧ cw_ w' gb131 1 (.int .i64 a0_1) ∧ cw_ w' gb131 2 (.int .i64 a0_2) ∧ cw_ w' gb131 3 (.int .i64 a0_3) ∧ cw_ w' gb131 4 (.slice (some ad135) l0_4.length c0_4) ∧ w'.cell? (ad135.add ((t134).toNat * 6)) = some (.int .i64 ((rd_T46 l0_4 t134).f0)) ∧ w'.cell? ⟨(ad135.add ((t134).toNat * 6)).block, (ad135.add ((t134).toNat * 6)).off + 1, none⟩ = some (.int .i64 ((rd_T46 l0_4 t134).f1)) ∧ w'.cell? ⟨(ad135.add ((t134).toNat * 6)).block, (ad135.add ((t134).toNat * 6)).off + 2, none⟩ = some (.bool true) ∧ w'.cell? ⟨(ad135.add ((t134).toNat * 6)).block, (ad135.add ((t134).toNat * 6)).off + 3, none⟩ = some (.int .i64 ((rd_T46 l0_4 t134).f3.f0)) ∧ w'.cell? ⟨(ad135.add ((t134).toNat * 6)).block, (ad135.add ((t134).toNat * 6)).off + 4, none⟩ = some (.int .i64 ((rd_T46 l0_4 t134).f3.f1)) ∧ w'.cell? ⟨(ad135.add ((t134).toNat * 6)).block, (ad135.add ((t134).toNat * 6)).off + 5, none⟩ = some (.int .i64 ((rd_T46 l0_4 t134).f3.f2))) (ds := []) (bs 9 0) (by kernel_rfl) rfl rfl ⟨bt_ BK131 0, bt_ BK131 1, bt_ BK131 2, bt_ BK131 3, bt_ BK131 4, (hd_ HB hw135_0), (hd_ HB hw135_1), (hd_ HB hw135_2), (hd_ HB hw135_3), (hd_ HB hw135_4), (hd_ HB hw135_5)⟩ (fun hHeld => ?_); refine with_tabW spec_FairOwed.tab3 spec_FairOwed.bits3 (fun HT_ HW_ => ?_)
       generalize wc.drew = w20 at BK131 HB hx135_0 hx135_1 hx135_2 hx135_3 hx135_4 hx135_5 hHeld ⊢
       refine psn_ HT_ ?_
       refine ps_ 3 18 (bm 9 9) HT_ ?_
       refine tk_ 1 16 (bm 9 11) HT_ HW_ hHeld ?_
       refine tk_ 2 17 (bs 9 4) HT_ HW_ hHeld ?_
       refine join_ (σ := Nat) 1 (bs 9 8) (fun s_ => [(19, .int .i64 t134), (5, .pointer (some ⟨s_, 0, none⟩)), (20, .pointer (some (ad135.add ((t134).toNat * 6)))), (21, .agg #[.int .i64 ((rd_T46 l0_4 t134).f0), .int .i64 ((rd_T46 l0_4 t134).f1), .bool true, .int .i64 ((rd_T46 l0_4 t134).f3.f0), .int .i64 ((rd_T46 l0_4 t134).f3.f1), .int .i64 ((rd_T46 l0_4 t134).f3.f2)])]) (fun s_ w' => (w'.cell? ⟨gb131, 0, none⟩ = some (.int .i64 a0_0) ∧ w'.cell? ⟨gb131, 1, none⟩ = some (.int .i64 a0_1) ∧ w'.cell? ⟨gb131, 2, none⟩ = some (.int .i64 a0_2) ∧ w'.cell? ⟨gb131, 3, none⟩ = some (.int .i64 a0_3) ∧ w'.cell? ⟨gb131, 4, none⟩ = some (.slice (some ad135) l0_4.length c0_4) ∧ w'.cell? (ad135.add ((t134).toNat * 6)) = some (.int .i64 ((rd_T46 l0_4 t134).f0)) ∧ w'.cell? ⟨(ad135.add ((t134).toNat * 6)).block, (ad135.add ((t134).toNat * 6)).off + 1, none⟩ = some (.int .i64 ((rd_T46 l0_4 t134).f1)) ∧ w'.cell? ⟨(ad135.add ((t134).toNat * 6)).block, (ad135.add ((t134).toNat * 6)).off + 2, none⟩ = some (.bool true) ∧ w'.cell? ⟨(ad135.add ((t134).toNat * 6)).block, (ad135.add ((t134).toNat * 6)).off + 3, none⟩ = some (.int .i64 ((rd_T46 l0_4 t134).f3.f0)) ∧ w'.cell? ⟨(ad135.add ((t134).toNat * 6)).block, (ad135.add ((t134).toNat * 6)).off + 4, none⟩ = some (.int .i64 ((rd_T46 l0_4 t134).f3.f1)) ∧ w'.cell? ⟨(ad135.add ((t134).toNat * 6)).block, (ad135.add ((t134).toNat * 6)).off + 5, none⟩ = some (.int .i64 ((rd_T46 l0_4 t134).f3.f2))) ∧ (w'.heap[gb131]? = some (.cells #[.int .i64 a0_0, .int .i64 a0_1, .int .i64 a0_2, .int .i64 a0_3, .slice (some ad135) l0_4.length c0_4] 31 (0, 0))) ∧ (w'.heap[s_]? = some (.cells #[.int .i64 0, .int .i64 0, .bool false, .int .i64 0, .int .i64 0, .int .i64 0] 46 (0, 0))) ∧ (w.heap.size ≤ s_) ∧ (w.heap.size ≤ s_) ∧ (gb131 ≠ s_) ∧ (s_ ≠ gb131) ∧ (Below w.heap.size w w')) ?_ ?_
       rotate_left
       ·intro hCont
        refine two_ (i := 4) (j := 7) (Ni := some 19) (Nj := some 5) (bs 9 5) (bm 9 143) rfl rfl rfl rfl (two_of HT_.out (by kernel_rfl)) (by decide) (by decide) (fun K hK => ?_) (fun K hK => ?_)
        ·skip
         refine gs_ Try.func31 #[.agg #[.int .i64 a0_0, .int .i64 a0_1, .int .i64 a0_2, .int .i64 a0_3, .slice (some ad135) l0_4.length c0_4], .int .i64 a1] ?_
         with_reducible refine (spec_l18At.calls kj2 a0_0 a0_1 a0_2 a0_3 _ _ l0_4 a1 t134 _ ?side1 ?side2 A15.out).mono ?_
         (case side1 => repeat (first | exact (Kd.C_below HR0_4.out HB.out) | (with_reducible refine Kd.C_alloc ?_ _) | (with_reducible refine Kd.C_drewN ?_ _) | (with_reducible refine Kd.C_drew ?_)))
         (case side2 => exact HC0_4.out)
         rintro e w21 ⟨rfl, hb⟩
         refine ⟨_, rfl, ?_⟩
         replace BK131 := bb_ BK131 hb; replace HB := Aside0.mk (below_step (bf_ HB) hb); (try clear hb); (try clear hb2); (try clear hk); (try clear hi)
         refine hK.out _ _ ⟨bt_ BK131 0, bt_ BK131 1, bt_ BK131 2, bt_ BK131 3, bt_ BK131 4, (hd_ HB hw135_0), (hd_ HB hw135_1), (hd_ HB hw135_2), (hd_ HB hw135_3), (hd_ HB hw135_4), (hd_ HB hw135_5)⟩ (fun hHeld => ?_)
         clear hK K
         refine norm_ (a' := ?_) ?_ ?_
         rotate_left
         ·show Act.put _ (some 19) _ = _
          simp only [Act.put, ls0_, ls1_, ls2_, i64_w, i32_w]
          rfl
         refine ps_ 5 20 (bs 9 6) HT_ ?_
         refine tkn_ HT_ HW_ hHeld ?_
         refine on_ 7 (some 5) (bs 9 8) HT_ (fun K hK => ?_)
         refine box_step ?hg (N := 5) ?hd (cs := #[.int .i64 0, .int .i64 0, .bool false, .int .i64 0, .int .i64 0, .int .i64 0]) (t := 46) ?hr ?_; (case hd => rfl); (case hg => rfl); (case hr => first | (go_simp; done) | (go_simp; rfl))
         intro gb136 hg w22 hbox hb
         have BK136 := Aside0.mk (hbox); have GW136 := gw_ HB hg; have GE136 := gw_ HB hg; replace HB := Aside0.mk (below_step (bf_ HB) hb); have NB131_136 := nl_ BK131 hg; have NB136_131 := ng_ BK131 hg; replace BK131 := bb_ BK131 hb; clear hb hbox hg
         refine hK.out _ _ ⟨bt_ BK131 0, bt_ BK131 1, bt_ BK131 2, bt_ BK131 3, bt_ BK131 4, (hd_ HB hw135_0), (hd_ HB hw135_1), (hd_ HB hw135_2), (hd_ HB hw135_3), (hd_ HB hw135_4), (hd_ HB hw135_5)⟩ (fun hHeld => ?_)
         clear hK K
         refine norm_ (a' := ?_) ?_ ?_
         rotate_left
         ·show Act.put _ (some 5) _ = _
          simp only [Act.put, ls0_, ls1_, ls2_, i64_w, i32_w]
          rfl
         exact norm_ (by simp only [putAll, Act.put, ls0_, ls1_, ls2_]) (hCont (gb136) _ ⟨hHeld, (bk_ BK131), (bk_ BK136), GW136.out, GE136.out, NB131_136.out, NB136_131.out, (bf_ HB)⟩)
        ·skip
         refine box_step ?hg (N := 5) ?hd (cs := #[.int .i64 0, .int .i64 0, .bool false, .int .i64 0, .int .i64 0, .int .i64 0]) (t := 46) ?hr ?_; (case hd => rfl); (case hg => rfl); (case hr => first | (go_simp; done) | (go_simp; rfl))
         intro gb136 hg w21 hbox hb
         have BK136 := Aside0.mk (hbox); have GW136 := gw_ HB hg; have GE136 := gw_ HB hg; replace HB := Aside0.mk (below_step (bf_ HB) hb); have NB131_136 := nl_ BK131 hg; have NB136_131 := ng_ BK131 hg; replace BK131 := bb_ BK131 hb; clear hb hbox hg
         refine hK.out _ _ ⟨bt_ BK131 0, bt_ BK131 1, bt_ BK131 2, bt_ BK131 3, bt_ BK131 4, (hd_ HB hw135_0), (hd_ HB hw135_1), (hd_ HB hw135_2), (hd_ HB hw135_3), (hd_ HB hw135_4), (hd_ HB hw135_5)⟩ (fun hHeld => ?_)
         clear hK K
         refine norm_ (a' := ?_) ?_ ?_
         rotate_left
         ·show Act.put _ (some 5) _ = _
          simp only [Act.put, ls0_, ls1_, ls2_, i64_w, i32_w]
          rfl
         refine on_ 4 (some 19) (bm 9 159) HT_ (fun K hK => ?_)
         refine gs_ Try.func31 #[.agg #[.int .i64 a0_0, .int .i64 a0_1, .int .i64 a0_2, .int .i64 a0_3, .slice (some ad135) l0_4.length c0_4], .int .i64 a1] ?_
         with_reducible refine (spec_l18At.calls kj2 a0_0 a0_1 a0_2 a0_3 _ _ l0_4 a1 t134 _ ?side1 ?side2 A15.out).mono ?_
         (case side1 => repeat (first | exact (Kd.C_below HR0_4.out HB.out) | (with_reducible refine Kd.C_alloc ?_ _) | (with_reducible refine Kd.C_drewN ?_ _) | (with_reducible refine Kd.C_drew ?_)))
         (case side2 => exact HC0_4.out)
         rintro e w22 ⟨rfl, hb⟩
         refine ⟨_, rfl, ?_⟩
         replace BK131 := bb_ BK131 hb; replace BK136 := bb_ BK136 hb; replace HB := Aside0.mk (below_step (bf_ HB) hb); (try clear hb); (try clear hb2); (try clear hk); (try clear hi)
         refine hK.out _ _ ⟨bt_ BK131 0, bt_ BK131 1, bt_ BK131 2, bt_ BK131 3, bt_ BK131 4, (hd_ HB hw135_0), (hd_ HB hw135_1), (hd_ HB hw135_2), (hd_ HB hw135_3), (hd_ HB hw135_4), (hd_ HB hw135_5)⟩ (fun hHeld => ?_)
         clear hK K
         refine norm_ (a' := ?_) ?_ ?_
         rotate_left
         ·show Act.put _ (some 19) _ = _
          simp only [Act.put, ls0_, ls1_, ls2_, i64_w, i32_w]
          rfl
         refine ps_ 5 20 (bm 9 191) HT_ ?_
         refine tk_ 6 21 (bs 9 8) HT_ HW_ hHeld ?_
         exact norm_ (by simp only [putAll, Act.put, ls0_, ls1_, ls2_]) (hCont (gb136) _ ⟨hHeld, (bk_ BK131), (bk_ BK136), GW136.out, GE136.out, NB131_136.out, NB136_131.out, (bf_ HB)⟩)
       rintro gb136 w23 ⟨hS_, h0_, h1_, h2_, h3_, h4_, h5_, h6_⟩
       have n0_ : Aside0 (w23.heap[gb131]? = some (.cells #[.int .i64 a0_0, .int .i64 a0_1, .int .i64 a0_2, .int .i64 a0_3, .slice (some ad135) l0_4.length c0_4] 31 (0, 0))) := ⟨h0_⟩
       have n1_ : Aside0 (w23.heap[gb136]? = some (.cells #[.int .i64 0, .int .i64 0, .bool false, .int .i64 0, .int .i64 0, .int .i64 0] 46 (0, 0))) := ⟨h1_⟩
       have n2_ : Aside0 (w.heap.size ≤ gb136) := ⟨h2_⟩
       have n3_ : Aside0 (w.heap.size ≤ gb136) := ⟨h3_⟩
       have n4_ : Aside0 (gb131 ≠ gb136) := ⟨h4_⟩
       have n5_ : Aside0 (gb136 ≠ gb131) := ⟨h5_⟩
       have n6_ : Aside0 (Below w.heap.size w w23) := ⟨h6_⟩
       clear BK131 HB h0_ h1_ h2_ h3_ h4_ h5_ h6_; have BK131 := n0_; have BK136 := n1_; have GW136 := n2_; have GE136 := n3_; have NB131_136 := n4_; have NB136_131 := n5_; have HB := n6_; clear n0_ n1_ n2_ n3_ n4_ n5_ n6_
       have hHeld : w23.cell? ⟨gb131, 0, none⟩ = some (.int .i64 a0_0) ∧ w23.cell? ⟨gb131, 1, none⟩ = some (.int .i64 a0_1) ∧ w23.cell? ⟨gb131, 2, none⟩ = some (.int .i64 a0_2) ∧ w23.cell? ⟨gb131, 3, none⟩ = some (.int .i64 a0_3) ∧ w23.cell? ⟨gb131, 4, none⟩ = some (.slice (some ad135) l0_4.length c0_4) ∧ w23.cell? (ad135.add ((t134).toNat * 6)) = some (.int .i64 ((rd_T46 l0_4 t134).f0)) ∧ w23.cell? ⟨(ad135.add ((t134).toNat * 6)).block, (ad135.add ((t134).toNat * 6)).off + 1, none⟩ = some (.int .i64 ((rd_T46 l0_4 t134).f1)) ∧ w23.cell? ⟨(ad135.add ((t134).toNat * 6)).block, (ad135.add ((t134).toNat * 6)).off + 2, none⟩ = some (.bool true) ∧ w23.cell? ⟨(ad135.add ((t134).toNat * 6)).block, (ad135.add ((t134).toNat * 6)).off + 3, none⟩ = some (.int .i64 ((rd_T46 l0_4 t134).f3.f0)) ∧ w23.cell? ⟨(ad135.add ((t134).toNat * 6)).block, (ad135.add ((t134).toNat * 6)).off + 4, none⟩ = some (.int .i64 ((rd_T46 l0_4 t134).f3.f1)) ∧ w23.cell? ⟨(ad135.add ((t134).toNat * 6)).block, (ad135.add ((t134).toNat * 6)).off + 5, none⟩ = some (.int .i64 ((rd_T46 l0_4 t134).f3.f2)) := hS_
       refine norm_ (a' := ?_) ?_ ?_
       rotate_left
       ·simp only [putAll, Act.put, ls0_, ls1_, ls2_]
        rfl
       refine on_ 8 none (bs 9 9) HT_ (fun K hK => ?_)
       have hs24 := bc_ BK136 0 (.int .i64 0) rfl; have hfs24 := blk_frozen BK136.out 0; have hns24_0 := NB131_136.out; have hms24_0 := NB136_131.out; have hs25 := bc_ BK136 1 (.int .i64 0) rfl; have hfs25 := blk_frozen BK136.out 1; have hns25_0 := NB131_136.out; have hms25_0 := NB136_131.out; have hs26 := bc_ BK136 2 (.bool false) rfl; have hfs26 := blk_frozen BK136.out 2; have hns26_0 := NB131_136.out; have hms26_0 := NB136_131.out; have hs27 := bc_ BK136 3 (.int .i64 0) rfl; have hfs27 := blk_frozen BK136.out 3; have hns27_0 := NB131_136.out; have hms27_0 := NB136_131.out; have hs28 := bc_ BK136 4 (.int .i64 0) rfl; have hfs28 := blk_frozen BK136.out 4; have hns28_0 := NB131_136.out; have hms28_0 := NB136_131.out; have hs29 := bc_ BK136 5 (.int .i64 0) rfl; have hfs29 := blk_frozen BK136.out 5; have hns29_0 := NB131_136.out; have hms29_0 := NB136_131.out
       refine skip_ (w1 := ?_) (by rfl) rfl ?_ ?_
       rotate_left
       ·go_simp
        rfl
       refine hK.out _ _ ⟨(cf6_ NB131_136.out hHeld.1), (cf6_ NB131_136.out hHeld.2.1), (cf6_ NB131_136.out hHeld.2.2.1), (cf6_ NB131_136.out hHeld.2.2.2.1), (cf6_ NB131_136.out hHeld.2.2.2.2.1), (cf6_ (by first | exact Nat.ne_of_lt (Nat.lt_of_lt_of_le (by have := World.block_lt_of_cell? _ _ hw135_0; first | rwa [add_block] at this | exact this) GW136.out) | (rw [add_block]; exact Nat.ne_of_lt (Nat.lt_of_lt_of_le (by have := World.block_lt_of_cell? _ _ hw135_0; first | rwa [add_block] at this | exact this) GW136.out)) | (show (Addr.add _ _).block ≠ _; rw [add_block]; exact Nat.ne_of_lt (Nat.lt_of_lt_of_le (by have := World.block_lt_of_cell? _ _ hw135_0; first | rwa [add_block] at this | exact this) GW136.out)) | (dsimp only; exact Nat.ne_of_lt (Nat.lt_of_lt_of_le (by have := World.block_lt_of_cell? _ _ hw135_0; first | rwa [add_block] at this | exact this) GW136.out))) hHeld.2.2.2.2.2.1), (cf6_ (by first | exact Nat.ne_of_lt (Nat.lt_of_lt_of_le (by have := World.block_lt_of_cell? _ _ hw135_1; first | rwa [add_block] at this | exact this) GW136.out) | (rw [add_block]; exact Nat.ne_of_lt (Nat.lt_of_lt_of_le (by have := World.block_lt_of_cell? _ _ hw135_1; first | rwa [add_block] at this | exact this) GW136.out)) | (show (Addr.add _ _).block ≠ _; rw [add_block]; exact Nat.ne_of_lt (Nat.lt_of_lt_of_le (by have := World.block_lt_of_cell? _ _ hw135_1; first | rwa [add_block] at this | exact this) GW136.out)) | (dsimp only; exact Nat.ne_of_lt (Nat.lt_of_lt_of_le (by have := World.block_lt_of_cell? _ _ hw135_1; first | rwa [add_block] at this | exact this) GW136.out))) hHeld.2.2.2.2.2.2.1), (cf6_ (by first | exact Nat.ne_of_lt (Nat.lt_of_lt_of_le (by have := World.block_lt_of_cell? _ _ hw135_2; first | rwa [add_block] at this | exact this) GW136.out) | (rw [add_block]; exact Nat.ne_of_lt (Nat.lt_of_lt_of_le (by have := World.block_lt_of_cell? _ _ hw135_2; first | rwa [add_block] at this | exact this) GW136.out)) | (show (Addr.add _ _).block ≠ _; rw [add_block]; exact Nat.ne_of_lt (Nat.lt_of_lt_of_le (by have := World.block_lt_of_cell? _ _ hw135_2; first | rwa [add_block] at this | exact this) GW136.out)) | (dsimp only; exact Nat.ne_of_lt (Nat.lt_of_lt_of_le (by have := World.block_lt_of_cell? _ _ hw135_2; first | rwa [add_block] at this | exact this) GW136.out))) hHeld.2.2.2.2.2.2.2.1), (cf6_ (by first | exact Nat.ne_of_lt (Nat.lt_of_lt_of_le (by have := World.block_lt_of_cell? _ _ hw135_3; first | rwa [add_block] at this | exact this) GW136.out) | (rw [add_block]; exact Nat.ne_of_lt (Nat.lt_of_lt_of_le (by have := World.block_lt_of_cell? _ _ hw135_3; first | rwa [add_block] at this | exact this) GW136.out)) | (show (Addr.add _ _).block ≠ _; rw [add_block]; exact Nat.ne_of_lt (Nat.lt_of_lt_of_le (by have := World.block_lt_of_cell? _ _ hw135_3; first | rwa [add_block] at this | exact this) GW136.out)) | (dsimp only; exact Nat.ne_of_lt (Nat.lt_of_lt_of_le (by have := World.block_lt_of_cell? _ _ hw135_3; first | rwa [add_block] at this | exact this) GW136.out))) hHeld.2.2.2.2.2.2.2.2.1), (cf6_ (by first | exact Nat.ne_of_lt (Nat.lt_of_lt_of_le (by have := World.block_lt_of_cell? _ _ hw135_4; first | rwa [add_block] at this | exact this) GW136.out) | (rw [add_block]; exact Nat.ne_of_lt (Nat.lt_of_lt_of_le (by have := World.block_lt_of_cell? _ _ hw135_4; first | rwa [add_block] at this | exact this) GW136.out)) | (show (Addr.add _ _).block ≠ _; rw [add_block]; exact Nat.ne_of_lt (Nat.lt_of_lt_of_le (by have := World.block_lt_of_cell? _ _ hw135_4; first | rwa [add_block] at this | exact this) GW136.out)) | (dsimp only; exact Nat.ne_of_lt (Nat.lt_of_lt_of_le (by have := World.block_lt_of_cell? _ _ hw135_4; first | rwa [add_block] at this | exact this) GW136.out))) hHeld.2.2.2.2.2.2.2.2.2.1), (cf6_ (by first | exact Nat.ne_of_lt (Nat.lt_of_lt_of_le (by have := World.block_lt_of_cell? _ _ hw135_5; first | rwa [add_block] at this | exact this) GW136.out) | (rw [add_block]; exact Nat.ne_of_lt (Nat.lt_of_lt_of_le (by have := World.block_lt_of_cell? _ _ hw135_5; first | rwa [add_block] at this | exact this) GW136.out)) | (show (Addr.add _ _).block ≠ _; rw [add_block]; exact Nat.ne_of_lt (Nat.lt_of_lt_of_le (by have := World.block_lt_of_cell? _ _ hw135_5; first | rwa [add_block] at this | exact this) GW136.out)) | (dsimp only; exact Nat.ne_of_lt (Nat.lt_of_lt_of_le (by have := World.block_lt_of_cell? _ _ hw135_5; first | rwa [add_block] at this | exact this) GW136.out))) hHeld.2.2.2.2.2.2.2.2.2.2)⟩ (fun hHeld => ?_)
       clear hK K
       refine done_ (done_of HT_.out (by kernel_rfl)) ?_
       try go_wp2
       generalize hW_ : ((((((w23.setCell ⟨gb136, 0, none⟩ (.int .i64 ((rd_T46 l0_4 t134).f0))).setCell ⟨gb136, 1, none⟩ (.int .i64 ((rd_T46 l0_4 t134).f1))).setCell ⟨gb136, 2, none⟩ (.bool true)).setCell ⟨gb136, 3, none⟩ (.int .i64 ((rd_T46 l0_4 t134).f3.f0))).setCell ⟨gb136, 4, none⟩ (.int .i64 ((rd_T46 l0_4 t134).f3.f1))).setCell ⟨gb136, 5, none⟩ (.int .i64 ((rd_T46 l0_4 t134).f3.f2))) = w30
       replace BK131 := fc6_ hW_ BK131 NB131_136
       replace BK136 : Aside0 (w30.heap[gb136]? = some (.cells #[.int .i64 ((rd_T46 l0_4 t134).f0), .int .i64 ((rd_T46 l0_4 t134).f1), .bool true, .int .i64 ((rd_T46 l0_4 t134).f3.f0), .int .i64 ((rd_T46 l0_4 t134).f3.f1), .int .i64 ((rd_T46 l0_4 t134).f3.f2)] 46 (0, 0))) := pc6_ hW_ BK136
       replace HB : Aside0 (Below w.heap.size w w30) := ⟨by cases hW_; exact bf_ HB⟩
       clear hW_; replace BK131 := Aside0.mk (blk_drew BK131.out); replace BK136 := Aside0.mk (blk_drew BK136.out); replace HB := Aside0.mk (below_drew1 HB.out)
       refine start_ (n := 13) (S := fun w' => cw_ w' gb136 0 (.int .i64 ((rd_T46 l0_4 t134).f0)) ∧ cw_ w' gb136 1 (.int .i64 ((rd_T46 l0_4 t134).f1)) ∧ cw_ w' gb136 2 (.bool true) ∧ cw_ w' gb136 3 (.int .i64 ((rd_T46 l0_4 t134).f3.f0)) ∧ cw_ w' gb136 4 (.int .i64 ((rd_T46 l0_4 t134).f3.f1)) ∧ cw_ w' gb136 5 (.int .i64 ((rd_T46 l0_4 t134).f3.f2))) (ds := []) (bs 13 0) (by kernel_rfl) rfl rfl ⟨bt_ BK136 0, bt_ BK136 1, bt_ BK136 2, bt_ BK136 3, bt_ BK136 4, bt_ BK136 5⟩ (fun hHeld => ?_); refine with_tabW spec_FairOwed.tab4 spec_FairOwed.bits4 (fun HT_ HW_ => ?_)
       generalize w30.drew = w31 at BK131 BK136 HB hHeld ⊢
       refine psn_ HT_ ?_
       refine tkn_ HT_ HW_ hHeld ?_
       refine psn_ HT_ ?_
       iterate 8 (refine pun_ HT_ ?_)
       iterate 2 (refine psn_ HT_ ?_)
       refine done_ (done_of HT_.out (by kernel_rfl)) ?_
       try go_wp2
       go_ret
       exact ⟨by first | rfl | (simp [errW_none, errW_some] <;> rfl) | (simp [*, errW_none, errW_some] <;> rfl), bf_ HB⟩
      ·replace c19 := Bool.eq_false_iff.mpr c19
       subst c19
       rw [if_neg (show ¬ (false = true) by decide)] at H
       replace H := Option.bind_eq_some_iff.mp H
       obtain ⟨⟨t137, t138, t139⟩, A320, H⟩ := H
       have A32 := Aside0.mk A320
       clear A320
       obtain rfl := Option.some.inj H
       try go_wp2
       replace BK131 := Aside0.mk (blk_drew BK131.out); replace HB := Aside0.mk (below_drew1 HB.out)
       have p135 : 0 ≤ (t134 : Int) := od_
       have q135 : t134 < (l0_4.length : Int) := od_
       obtain ⟨ad135, e135, hx135_0, hx135_1, hx135_2, hx135_3, hx135_4, hx135_5⟩ := at_T46 HR0_4.out t134 p135 q135
       have hw135_5 := hx135_5; have hw135_4 := hx135_4; have hw135_3 := hx135_3; have hw135_2 := hx135_2; have hw135_1 := hx135_1; have hw135_0 := hx135_0
       (try rw [← Nbq18.out] at hx135_2)
       (try rw [← Nbq18.out] at hw135_2)
       cases e135
       replace hx135_0 := hb_ HB hx135_0
       replace hx135_1 := hb_ HB hx135_1
       replace hx135_2 := hb_ HB hx135_2
       replace hx135_3 := hb_ HB hx135_3
       replace hx135_4 := hb_ HB hx135_4
       replace hx135_5 := hb_ HB hx135_5
       replace p135 := eq_true p135
       replace q135 := eq_true q135
       refine start_ (n := 9) (S := fun w' => cw_ w' gb131 0 (.int .i64 a0_0) ∧ cw_ w' gb131 1 (.int .i64 a0_1) ∧ cw_ w' gb131 2 (.int .i64 a0_2) ∧ cw_ w' gb131 3 (.int .i64 a0_3) ∧ cw_ w' gb131 4 (.slice (some ad135) l0_4.length c0_4) ∧ w'.cell? (ad135.add ((t134).toNat * 6)) = some (.int .i64 ((rd_T46 l0_4 t134).f0)) ∧ w'.cell? ⟨(ad135.add ((t134).toNat * 6)).block, (ad135.add ((t134).toNat * 6)).off + 1, none⟩ = some (.int .i64 ((rd_T46 l0_4 t134).f1)) ∧ w'.cell? ⟨(ad135.add ((t134).toNat * 6)).block, (ad135.add ((t134).toNat * 6)).off + 2, none⟩ = some (.bool false) ∧ w'.cell? ⟨(ad135.add ((t134).toNat * 6)).block, (ad135.add ((t134).toNat * 6)).off + 3, none⟩ = some (.int .i64 ((rd_T46 l0_4 t134).f3.f0)) ∧ w'.cell? ⟨(ad135.add ((t134).toNat * 6)).block, (ad135.add ((t134).toNat * 6)).off + 4, none⟩ = some (.int .i64 ((rd_T46 l0_4 t134).f3.f1)) ∧ w'.cell? ⟨(ad135.add ((t134).toNat * 6)).block, (ad135.add ((t134).toNat * 6)).off + 5, none⟩ = some (.int .i64 ((rd_T46 l0_4 t134).f3.f2))) (ds := []) (bs 9 0) (by kernel_rfl) rfl rfl ⟨bt_ BK131 0, bt_ BK131 1, bt_ BK131 2, bt_ BK131 3, bt_ BK131 4, (hd_ HB hw135_0), (hd_ HB hw135_1), (hd_ HB hw135_2), (hd_ HB hw135_3), (hd_ HB hw135_4), (hd_ HB hw135_5)⟩ (fun hHeld => ?_); refine with_tabW spec_FairOwed.tab3 spec_FairOwed.bits3 (fun HT_ HW_ => ?_)
       generalize wc.drew = w33 at BK131 HB hx135_0 hx135_1 hx135_2 hx135_3 hx135_4 hx135_5 hHeld ⊢
       refine psn_ HT_ ?_
       refine ps_ 3 18 (bm 9 9) HT_ ?_
       refine tk_ 1 16 (bm 9 11) HT_ HW_ hHeld ?_
       refine tk_ 2 17 (bs 9 4) HT_ HW_ hHeld ?_
       refine join_ (σ := Nat) 1 (bs 9 8) (fun s_ => [(19, .int .i64 t134), (5, .pointer (some ⟨s_, 0, none⟩)), (20, .pointer (some (ad135.add ((t134).toNat * 6)))), (21, .agg #[.int .i64 ((rd_T46 l0_4 t134).f0), .int .i64 ((rd_T46 l0_4 t134).f1), .bool false, .int .i64 ((rd_T46 l0_4 t134).f3.f0), .int .i64 ((rd_T46 l0_4 t134).f3.f1), .int .i64 ((rd_T46 l0_4 t134).f3.f2)])]) (fun s_ w' => (w'.cell? ⟨gb131, 0, none⟩ = some (.int .i64 a0_0) ∧ w'.cell? ⟨gb131, 1, none⟩ = some (.int .i64 a0_1) ∧ w'.cell? ⟨gb131, 2, none⟩ = some (.int .i64 a0_2) ∧ w'.cell? ⟨gb131, 3, none⟩ = some (.int .i64 a0_3) ∧ w'.cell? ⟨gb131, 4, none⟩ = some (.slice (some ad135) l0_4.length c0_4) ∧ w'.cell? (ad135.add ((t134).toNat * 6)) = some (.int .i64 ((rd_T46 l0_4 t134).f0)) ∧ w'.cell? ⟨(ad135.add ((t134).toNat * 6)).block, (ad135.add ((t134).toNat * 6)).off + 1, none⟩ = some (.int .i64 ((rd_T46 l0_4 t134).f1)) ∧ w'.cell? ⟨(ad135.add ((t134).toNat * 6)).block, (ad135.add ((t134).toNat * 6)).off + 2, none⟩ = some (.bool false) ∧ w'.cell? ⟨(ad135.add ((t134).toNat * 6)).block, (ad135.add ((t134).toNat * 6)).off + 3, none⟩ = some (.int .i64 ((rd_T46 l0_4 t134).f3.f0)) ∧ w'.cell? ⟨(ad135.add ((t134).toNat * 6)).block, (ad135.add ((t134).toNat * 6)).off + 4, none⟩ = some (.int .i64 ((rd_T46 l0_4 t134).f3.f1)) ∧ w'.cell? ⟨(ad135.add ((t134).toNat * 6)).block, (ad135.add ((t134).toNat * 6)).off + 5, none⟩ = some (.int .i64 ((rd_T46 l0_4 t134).f3.f2))) ∧ (w'.heap[gb131]? = some (.cells #[.int .i64 a0_0, .int .i64 a0_1, .int .i64 a0_2, .int .i64 a0_3, .slice (some ad135) l0_4.length c0_4] 31 (0, 0))) ∧ (w'.heap[s_]? = some (.cells #[.int .i64 0, .int .i64 0, .bool false, .int .i64 0, .int .i64 0, .int .i64 0] 46 (0, 0))) ∧ (w.heap.size ≤ s_) ∧ (w.heap.size ≤ s_) ∧ (gb131 ≠ s_) ∧ (s_ ≠ gb131) ∧ (Below w.heap.size w w')) ?_ ?_
       rotate_left
       ·intro hCont
        refine two_ (i := 4) (j := 7) (Ni := some 19) (Nj := some 5) (bs 9 5) (bm 9 143) rfl rfl rfl rfl (two_of HT_.out (by kernel_rfl)) (by decide) (by decide) (fun K hK => ?_) (fun K hK => ?_)
        ·skip
         refine gs_ Try.func31 #[.agg #[.int .i64 a0_0, .int .i64 a0_1, .int .i64 a0_2, .int .i64 a0_3, .slice (some ad135) l0_4.length c0_4], .int .i64 a1] ?_
         with_reducible refine (spec_l18At.calls kj2 a0_0 a0_1 a0_2 a0_3 _ _ l0_4 a1 t134 _ ?side1 ?side2 A15.out).mono ?_
         (case side1 => repeat (first | exact (Kd.C_below HR0_4.out HB.out) | (with_reducible refine Kd.C_alloc ?_ _) | (with_reducible refine Kd.C_drewN ?_ _) | (with_reducible refine Kd.C_drew ?_)))
         (case side2 => exact HC0_4.out)
         rintro e w34 ⟨rfl, hb⟩
         refine ⟨_, rfl, ?_⟩
         replace BK131 := bb_ BK131 hb; replace HB := Aside0.mk (below_step (bf_ HB) hb); (try clear hb); (try clear hb2); (try clear hk); (try clear hi)
         refine hK.out _ _ ⟨bt_ BK131 0, bt_ BK131 1, bt_ BK131 2, bt_ BK131 3, bt_ BK131 4, (hd_ HB hw135_0), (hd_ HB hw135_1), (hd_ HB hw135_2), (hd_ HB hw135_3), (hd_ HB hw135_4), (hd_ HB hw135_5)⟩ (fun hHeld => ?_)
         clear hK K
         refine norm_ (a' := ?_) ?_ ?_
         rotate_left
         ·show Act.put _ (some 19) _ = _
          simp only [Act.put, ls0_, ls1_, ls2_, i64_w, i32_w]
          rfl
         refine ps_ 5 20 (bs 9 6) HT_ ?_
         refine tkn_ HT_ HW_ hHeld ?_
         refine on_ 7 (some 5) (bs 9 8) HT_ (fun K hK => ?_)
         refine box_step ?hg (N := 5) ?hd (cs := #[.int .i64 0, .int .i64 0, .bool false, .int .i64 0, .int .i64 0, .int .i64 0]) (t := 46) ?hr ?_; (case hd => rfl); (case hg => rfl); (case hr => first | (go_simp; done) | (go_simp; rfl))
         intro gb136 hg w35 hbox hb
         have BK136 := Aside0.mk (hbox); have GW136 := gw_ HB hg; have GE136 := gw_ HB hg; replace HB := Aside0.mk (below_step (bf_ HB) hb); have NB131_136 := nl_ BK131 hg; have NB136_131 := ng_ BK131 hg; replace BK131 := bb_ BK131 hb; clear hb hbox hg
         refine hK.out _ _ ⟨bt_ BK131 0, bt_ BK131 1, bt_ BK131 2, bt_ BK131 3, bt_ BK131 4, (hd_ HB hw135_0), (hd_ HB hw135_1), (hd_ HB hw135_2), (hd_ HB hw135_3), (hd_ HB hw135_4), (hd_ HB hw135_5)⟩ (fun hHeld => ?_)
         clear hK K
         refine norm_ (a' := ?_) ?_ ?_
         rotate_left
         ·show Act.put _ (some 5) _ = _
          simp only [Act.put, ls0_, ls1_, ls2_, i64_w, i32_w]
          rfl
         exact norm_ (by simp only [putAll, Act.put, ls0_, ls1_, ls2_]) (hCont (gb136) _ ⟨hHeld, (bk_ BK131), (bk_ BK136), GW136.out, GE136.out, NB131_136.out, NB136_131.out, (bf_ HB)⟩)
        ·skip
         refine box_step ?hg (N := 5) ?hd (cs := #[.int .i64 0, .int .i64 0, .bool false, .int .i64 0, .int .i64 0, .int .i64 0]) (t := 46) ?hr ?_; (case hd => rfl); (case hg => rfl); (case hr => first | (go_simp; done) | (go_simp; rfl))
         intro gb136 hg w34 hbox hb
         have BK136 := Aside0.mk (hbox); have GW136 := gw_ HB hg; have GE136 := gw_ HB hg; replace HB := Aside0.mk (below_step (bf_ HB) hb); have NB131_136 := nl_ BK131 hg; have NB136_131 := ng_ BK131 hg; replace BK131 := bb_ BK131 hb; clear hb hbox hg
         refine hK.out _ _ ⟨bt_ BK131 0, bt_ BK131 1, bt_ BK131 2, bt_ BK131 3, bt_ BK131 4, (hd_ HB hw135_0), (hd_ HB hw135_1), (hd_ HB hw135_2), (hd_ HB hw135_3), (hd_ HB hw135_4), (hd_ HB hw135_5)⟩ (fun hHeld => ?_)
         clear hK K
         refine norm_ (a' := ?_) ?_ ?_
         rotate_left
         ·show Act.put _ (some 5) _ = _
          simp only [Act.put, ls0_, ls1_, ls2_, i64_w, i32_w]
          rfl
         refine on_ 4 (some 19) (bm 9 159) HT_ (fun K hK => ?_)
         refine gs_ Try.func31 #[.agg #[.int .i64 a0_0, .int .i64 a0_1, .int .i64 a0_2, .int .i64 a0_3, .slice (some ad135) l0_4.length c0_4], .int .i64 a1] ?_
         with_reducible refine (spec_l18At.calls kj2 a0_0 a0_1 a0_2 a0_3 _ _ l0_4 a1 t134 _ ?side1 ?side2 A15.out).mono ?_
         (case side1 => repeat (first | exact (Kd.C_below HR0_4.out HB.out) | (with_reducible refine Kd.C_alloc ?_ _) | (with_reducible refine Kd.C_drewN ?_ _) | (with_reducible refine Kd.C_drew ?_)))
         (case side2 => exact HC0_4.out)
         rintro e w35 ⟨rfl, hb⟩
         refine ⟨_, rfl, ?_⟩
         replace BK131 := bb_ BK131 hb; replace BK136 := bb_ BK136 hb; replace HB := Aside0.mk (below_step (bf_ HB) hb); (try clear hb); (try clear hb2); (try clear hk); (try clear hi)
         refine hK.out _ _ ⟨bt_ BK131 0, bt_ BK131 1, bt_ BK131 2, bt_ BK131 3, bt_ BK131 4, (hd_ HB hw135_0), (hd_ HB hw135_1), (hd_ HB hw135_2), (hd_ HB hw135_3), (hd_ HB hw135_4), (hd_ HB hw135_5)⟩ (fun hHeld => ?_)
         clear hK K
         refine norm_ (a' := ?_) ?_ ?_
         rotate_left
         ·show Act.put _ (some 19) _ = _
          simp only [Act.put, ls0_, ls1_, ls2_, i64_w, i32_w]
          rfl
         refine ps_ 5 20 (bm 9 191) HT_ ?_
         refine tk_ 6 21 (bs 9 8) HT_ HW_ hHeld ?_
         exact norm_ (by simp only [putAll, Act.put, ls0_, ls1_, ls2_]) (hCont (gb136) _ ⟨hHeld, (bk_ BK131), (bk_ BK136), GW136.out, GE136.out, NB131_136.out, NB136_131.out, (bf_ HB)⟩)
       rintro gb136 w36 ⟨hS_, h0_, h1_, h2_, h3_, h4_, h5_, h6_⟩
       have n0_ : Aside0 (w36.heap[gb131]? = some (.cells #[.int .i64 a0_0, .int .i64 a0_1, .int .i64 a0_2, .int .i64 a0_3, .slice (some ad135) l0_4.length c0_4] 31 (0, 0))) := ⟨h0_⟩
       have n1_ : Aside0 (w36.heap[gb136]? = some (.cells #[.int .i64 0, .int .i64 0, .bool false, .int .i64 0, .int .i64 0, .int .i64 0] 46 (0, 0))) := ⟨h1_⟩
       have n2_ : Aside0 (w.heap.size ≤ gb136) := ⟨h2_⟩
       have n3_ : Aside0 (w.heap.size ≤ gb136) := ⟨h3_⟩
       have n4_ : Aside0 (gb131 ≠ gb136) := ⟨h4_⟩
       have n5_ : Aside0 (gb136 ≠ gb131) := ⟨h5_⟩
       have n6_ : Aside0 (Below w.heap.size w w36) := ⟨h6_⟩
       clear BK131 HB h0_ h1_ h2_ h3_ h4_ h5_ h6_; have BK131 := n0_; have BK136 := n1_; have GW136 := n2_; have GE136 := n3_; have NB131_136 := n4_; have NB136_131 := n5_; have HB := n6_; clear n0_ n1_ n2_ n3_ n4_ n5_ n6_
       have hHeld : w36.cell? ⟨gb131, 0, none⟩ = some (.int .i64 a0_0) ∧ w36.cell? ⟨gb131, 1, none⟩ = some (.int .i64 a0_1) ∧ w36.cell? ⟨gb131, 2, none⟩ = some (.int .i64 a0_2) ∧ w36.cell? ⟨gb131, 3, none⟩ = some (.int .i64 a0_3) ∧ w36.cell? ⟨gb131, 4, none⟩ = some (.slice (some ad135) l0_4.length c0_4) ∧ w36.cell? (ad135.add ((t134).toNat * 6)) = some (.int .i64 ((rd_T46 l0_4 t134).f0)) ∧ w36.cell? ⟨(ad135.add ((t134).toNat * 6)).block, (ad135.add ((t134).toNat * 6)).off + 1, none⟩ = some (.int .i64 ((rd_T46 l0_4 t134).f1)) ∧ w36.cell? ⟨(ad135.add ((t134).toNat * 6)).block, (ad135.add ((t134).toNat * 6)).off + 2, none⟩ = some (.bool false) ∧ w36.cell? ⟨(ad135.add ((t134).toNat * 6)).block, (ad135.add ((t134).toNat * 6)).off + 3, none⟩ = some (.int .i64 ((rd_T46 l0_4 t134).f3.f0)) ∧ w36.cell? ⟨(ad135.add ((t134).toNat * 6)).block, (ad135.add ((t134).toNat * 6)).off + 4, none⟩ = some (.int .i64 ((rd_T46 l0_4 t134).f3.f1)) ∧ w36.cell? ⟨(ad135.add ((t134).toNat * 6)).block, (ad135.add ((t134).toNat * 6)).off + 5, none⟩ = some (.int .i64 ((rd_T46 l0_4 t134).f3.f2)) := hS_
       refine norm_ (a' := ?_) ?_ ?_
       rotate_left
       ·simp only [putAll, Act.put, ls0_, ls1_, ls2_]
        rfl
       refine on_ 8 none (bs 9 9) HT_ (fun K hK => ?_)
       have hs37 := bc_ BK136 0 (.int .i64 0) rfl; have hfs37 := blk_frozen BK136.out 0; have hns37_0 := NB131_136.out; have hms37_0 := NB136_131.out; have hs38 := bc_ BK136 1 (.int .i64 0) rfl; have hfs38 := blk_frozen BK136.out 1; have hns38_0 := NB131_136.out; have hms38_0 := NB136_131.out; have hs39 := bc_ BK136 2 (.bool false) rfl; have hfs39 := blk_frozen BK136.out 2; have hns39_0 := NB131_136.out; have hms39_0 := NB136_131.out; have hs40 := bc_ BK136 3 (.int .i64 0) rfl; have hfs40 := blk_frozen BK136.out 3; have hns40_0 := NB131_136.out; have hms40_0 := NB136_131.out; have hs41 := bc_ BK136 4 (.int .i64 0) rfl; have hfs41 := blk_frozen BK136.out 4; have hns41_0 := NB131_136.out; have hms41_0 := NB136_131.out; have hs42 := bc_ BK136 5 (.int .i64 0) rfl; have hfs42 := blk_frozen BK136.out 5; have hns42_0 := NB131_136.out; have hms42_0 := NB136_131.out
       refine skip_ (w1 := ?_) (by rfl) rfl ?_ ?_
       rotate_left
       ·go_simp
        rfl
       refine hK.out _ _ ⟨(cf6_ NB131_136.out hHeld.1), (cf6_ NB131_136.out hHeld.2.1), (cf6_ NB131_136.out hHeld.2.2.1), (cf6_ NB131_136.out hHeld.2.2.2.1), (cf6_ NB131_136.out hHeld.2.2.2.2.1), (cf6_ (by first | exact Nat.ne_of_lt (Nat.lt_of_lt_of_le (by have := World.block_lt_of_cell? _ _ hw135_0; first | rwa [add_block] at this | exact this) GW136.out) | (rw [add_block]; exact Nat.ne_of_lt (Nat.lt_of_lt_of_le (by have := World.block_lt_of_cell? _ _ hw135_0; first | rwa [add_block] at this | exact this) GW136.out)) | (show (Addr.add _ _).block ≠ _; rw [add_block]; exact Nat.ne_of_lt (Nat.lt_of_lt_of_le (by have := World.block_lt_of_cell? _ _ hw135_0; first | rwa [add_block] at this | exact this) GW136.out)) | (dsimp only; exact Nat.ne_of_lt (Nat.lt_of_lt_of_le (by have := World.block_lt_of_cell? _ _ hw135_0; first | rwa [add_block] at this | exact this) GW136.out))) hHeld.2.2.2.2.2.1), (cf6_ (by first | exact Nat.ne_of_lt (Nat.lt_of_lt_of_le (by have := World.block_lt_of_cell? _ _ hw135_1; first | rwa [add_block] at this | exact this) GW136.out) | (rw [add_block]; exact Nat.ne_of_lt (Nat.lt_of_lt_of_le (by have := World.block_lt_of_cell? _ _ hw135_1; first | rwa [add_block] at this | exact this) GW136.out)) | (show (Addr.add _ _).block ≠ _; rw [add_block]; exact Nat.ne_of_lt (Nat.lt_of_lt_of_le (by have := World.block_lt_of_cell? _ _ hw135_1; first | rwa [add_block] at this | exact this) GW136.out)) | (dsimp only; exact Nat.ne_of_lt (Nat.lt_of_lt_of_le (by have := World.block_lt_of_cell? _ _ hw135_1; first | rwa [add_block] at this | exact this) GW136.out))) hHeld.2.2.2.2.2.2.1), (cf6_ (by first | exact Nat.ne_of_lt (Nat.lt_of_lt_of_le (by have := World.block_lt_of_cell? _ _ hw135_2; first | rwa [add_block] at this | exact this) GW136.out) | (rw [add_block]; exact Nat.ne_of_lt (Nat.lt_of_lt_of_le (by have := World.block_lt_of_cell? _ _ hw135_2; first | rwa [add_block] at this | exact this) GW136.out)) | (show (Addr.add _ _).block ≠ _; rw [add_block]; exact Nat.ne_of_lt (Nat.lt_of_lt_of_le (by have := World.block_lt_of_cell? _ _ hw135_2; first | rwa [add_block] at this | exact this) GW136.out)) | (dsimp only; exact Nat.ne_of_lt (Nat.lt_of_lt_of_le (by have := World.block_lt_of_cell? _ _ hw135_2; first | rwa [add_block] at this | exact this) GW136.out))) hHeld.2.2.2.2.2.2.2.1), (cf6_ (by first | exact Nat.ne_of_lt (Nat.lt_of_lt_of_le (by have := World.block_lt_of_cell? _ _ hw135_3; first | rwa [add_block] at this | exact this) GW136.out) | (rw [add_block]; exact Nat.ne_of_lt (Nat.lt_of_lt_of_le (by have := World.block_lt_of_cell? _ _ hw135_3; first | rwa [add_block] at this | exact this) GW136.out)) | (show (Addr.add _ _).block ≠ _; rw [add_block]; exact Nat.ne_of_lt (Nat.lt_of_lt_of_le (by have := World.block_lt_of_cell? _ _ hw135_3; first | rwa [add_block] at this | exact this) GW136.out)) | (dsimp only; exact Nat.ne_of_lt (Nat.lt_of_lt_of_le (by have := World.block_lt_of_cell? _ _ hw135_3; first | rwa [add_block] at this | exact this) GW136.out))) hHeld.2.2.2.2.2.2.2.2.1), (cf6_ (by first | exact Nat.ne_of_lt (Nat.lt_of_lt_of_le (by have := World.block_lt_of_cell? _ _ hw135_4; first | rwa [add_block] at this | exact this) GW136.out) | (rw [add_block]; exact Nat.ne_of_lt (Nat.lt_of_lt_of_le (by have := World.block_lt_of_cell? _ _ hw135_4; first | rwa [add_block] at this | exact this) GW136.out)) | (show (Addr.add _ _).block ≠ _; rw [add_block]; exact Nat.ne_of_lt (Nat.lt_of_lt_of_le (by have := World.block_lt_of_cell? _ _ hw135_4; first | rwa [add_block] at this | exact this) GW136.out)) | (dsimp only; exact Nat.ne_of_lt (Nat.lt_of_lt_of_le (by have := World.block_lt_of_cell? _ _ hw135_4; first | rwa [add_block] at this | exact this) GW136.out))) hHeld.2.2.2.2.2.2.2.2.2.1), (cf6_ (by first | exact Nat.ne_of_lt (Nat.lt_of_lt_of_le (by have := World.block_lt_of_cell? _ _ hw135_5; first | rwa [add_block] at this | exact this) GW136.out) | (rw [add_block]; exact Nat.ne_of_lt (Nat.lt_of_lt_of_le (by have := World.block_lt_of_cell? _ _ hw135_5; first | rwa [add_block] at this | exact this) GW136.out)) | (show (Addr.add _ _).block ≠ _; rw [add_block]; exact Nat.ne_of_lt (Nat.lt_of_lt_of_le (by have := World.block_lt_of_cell? _ _ hw135_5; first | rwa [add_block] at this | exact this) GW136.out)) | (dsimp only; exact Nat.ne_of_lt (Nat.lt_of_lt_of_le (by have := World.block_lt_of_cell? _ _ hw135_5; first | rwa [add_block] at this | exact this) GW136.out))) hHeld.2.2.2.2.2.2.2.2.2.2)⟩ (fun hHeld => ?_)
       clear hK K
       refine done_ (done_of HT_.out (by kernel_rfl)) ?_
       try go_wp2
       generalize hW_ : ((((((w36.setCell ⟨gb136, 0, none⟩ (.int .i64 ((rd_T46 l0_4 t134).f0))).setCell ⟨gb136, 1, none⟩ (.int .i64 ((rd_T46 l0_4 t134).f1))).setCell ⟨gb136, 2, none⟩ (.bool false)).setCell ⟨gb136, 3, none⟩ (.int .i64 ((rd_T46 l0_4 t134).f3.f0))).setCell ⟨gb136, 4, none⟩ (.int .i64 ((rd_T46 l0_4 t134).f3.f1))).setCell ⟨gb136, 5, none⟩ (.int .i64 ((rd_T46 l0_4 t134).f3.f2))) = w43
       replace BK131 := fc6_ hW_ BK131 NB131_136
       replace BK136 : Aside0 (w43.heap[gb136]? = some (.cells #[.int .i64 ((rd_T46 l0_4 t134).f0), .int .i64 ((rd_T46 l0_4 t134).f1), .bool false, .int .i64 ((rd_T46 l0_4 t134).f3.f0), .int .i64 ((rd_T46 l0_4 t134).f3.f1), .int .i64 ((rd_T46 l0_4 t134).f3.f2)] 46 (0, 0))) := pc6_ hW_ BK136
       replace HB : Aside0 (Below w.heap.size w w43) := ⟨by cases hW_; exact bf_ HB⟩
       clear hW_; replace BK131 := Aside0.mk (blk_drew BK131.out); replace BK136 := Aside0.mk (blk_drew BK136.out); replace HB := Aside0.mk (below_drew1 HB.out)
       refine start_ (n := 13) (S := fun w' => cw_ w' gb136 0 (.int .i64 ((rd_T46 l0_4 t134).f0)) ∧ cw_ w' gb136 1 (.int .i64 ((rd_T46 l0_4 t134).f1)) ∧ cw_ w' gb136 2 (.bool false) ∧ cw_ w' gb136 3 (.int .i64 ((rd_T46 l0_4 t134).f3.f0)) ∧ cw_ w' gb136 4 (.int .i64 ((rd_T46 l0_4 t134).f3.f1)) ∧ cw_ w' gb136 5 (.int .i64 ((rd_T46 l0_4 t134).f3.f2)) ∧ cw_ w' gb131 0 (.int .i64 a0_0) ∧ cw_ w' gb131 1 (.int .i64 a0_1) ∧ cw_ w' gb131 2 (.int .i64 a0_2) ∧ cw_ w' gb131 3 (.int .i64 a0_3) ∧ cw_ w' gb131 4 (.slice (some ad135) l0_4.length c0_4)) (ds := []) (bs 13 0) (by kernel_rfl) rfl rfl ⟨bt_ BK136 0, bt_ BK136 1, bt_ BK136 2, bt_ BK136 3, bt_ BK136 4, bt_ BK136 5, bt_ BK131 0, bt_ BK131 1, bt_ BK131 2, bt_ BK131 3, bt_ BK131 4⟩ (fun hHeld => ?_); refine with_tabW spec_FairOwed.tab4 spec_FairOwed.bits4 (fun HT_ HW_ => ?_)
       generalize w43.drew = w44 at BK131 BK136 HB hHeld ⊢
       refine psn_ HT_ ?_
       refine tkn_ HT_ HW_ hHeld ?_
       iterate 2 (refine psn_ HT_ ?_)
       refine ps_ 5 27 (bm 13 47) HT_ ?_
       refine ps_ 8 30 (bm 13 303) HT_ ?_
       refine tk_ 4 26 (bm 13 319) HT_ HW_ hHeld ?_
       refine tk_ 6 28 (bm 13 383) HT_ HW_ hHeld ?_
       refine tk_ 9 31 (bm 13 895) HT_ HW_ hHeld ?_
       refine on_ 7 (some 29) (bs 13 10) HT_ (fun K hK => ?_)
       refine gs_ Try.func60 #[.agg #[.int .i64 ((rd_T46 l0_4 t134).f3.f0), .int .i64 ((rd_T46 l0_4 t134).f3.f1), .int .i64 ((rd_T46 l0_4 t134).f3.f2)], .agg #[.int .i64 a0_1, .int .i64 a0_2, .int .i64 a0_3]] ?_
       with_reducible refine (spec_VecMost.calls ((rd_T46 l0_4 t134).f3.f0) ((rd_T46 l0_4 t134).f3.f1) ((rd_T46 l0_4 t134).f3.f2) a0_1 a0_2 a0_3 t137 t138 t139 _ A32.out).mono ?_
       rintro e w45 ⟨rfl, hb⟩
       refine ⟨_, rfl, ?_⟩
       replace BK131 := bb_ BK131 hb; replace BK136 := bb_ BK136 hb; replace HB := Aside0.mk (below_step (bf_ HB) hb); (try clear hb); (try clear hb2); (try clear hk); (try clear hi)
       refine hK.out _ _ ⟨bt_ BK136 0, bt_ BK136 1, bt_ BK136 2, bt_ BK136 3, bt_ BK136 4, bt_ BK136 5, bt_ BK131 0, bt_ BK131 1, bt_ BK131 2, bt_ BK131 3, bt_ BK131 4⟩ (fun hHeld => ?_)
       clear hK K
       refine norm_ (a' := ?_) ?_ ?_
       rotate_left
       ·show Act.put _ (some 29) _ = _
        simp only [Act.put, ls0_, ls1_, ls2_, i64_w, i32_w]
        rfl
       iterate 3 (refine psn_ HT_ ?_)
       refine done_ (done_of HT_.out (by kernel_rfl)) ?_
       try go_wp2
       go_ret
       exact ⟨by first | rfl | (simp [errW_none, errW_some] <;> rfl) | (simp [*, errW_none, errW_some] <;> rfl), bf_ HB⟩
     ·rw [if_neg c17] at H
      exact absurd H (by simp)
    ·rw [if_neg c16] at H
     exact absurd H (by simp)

end Go.Proofs.Ytppmbdfbhahngaa.PFnExactFairLeave
