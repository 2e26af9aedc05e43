-- printed by a program of this session (wip/printx) out of the translation; Lean checks it
import Derived.Test.YtnklakficjpmoaaVFnHeapBook
import Derived.Test.YtnklakficjpmoaaPFnHeapBookx0
import Derived.Test.YtnklakficjpmoaaPFnHeapBookx7
namespace Go.Proofs.Ytnklakficjpmoaa.PFnHeapBook
open Go.RowKit Go.Proofs.YtnklakficjpmoaaW.PrintWords Go.Proofs.YtnklakficjpmoaaW.PrintLast Go.Proofs.YtnklakficjpmoaaW.PrintMore
attribute [local go_sem] max2_int min2_int max_two min_two max_three min_three max_four min_four   -- for this text's walks alone
set_option linter.unusedVariables false
set_option linter.unusedSimpArgs false

/-! ### spec_HeapOk: function 40 -/
mutual
def spec_HeapOk.l0 : Nat → Int → List (S68) → Option (Bool)
  | 0, _, _ => none
  | k + 1, x3, x229000 => if x3 < (x229000.length : Int) then (if 0 ≤ x3 then ((spec_ItemOk.f ((rd_T68 x229000 x3).f0) ((rd_T68 x229000 x3).f1)).bind fun t230 => (if t230 = true then ((spec_l15At.f k x229000 ((rd_T68 x229000 x3).f1)).bind fun t232 => (spec_HeapOk.j1 k x3 (t232 != x3) x229000)) else (spec_HeapOk.j1 k x3 true x229000))) else (none)) else (some true)
def spec_HeapOk.j1 : Nat → Int → Bool → List (S68) → Option (Bool)
  | 0, _, _, _ => none
  | k + 1, x3, x34, x229000 => if x34 = true then (some false) else (if x3 > 0 then (if 0 ≤ x3 then (if x3 < (x229000.length : Int) then (if 0 ≤ (wrap64 (Int.tdiv (wrap64 (x3 - 1)) 2)) then (if (wrap64 (Int.tdiv (wrap64 (x3 - 1)) 2)) < (x229000.length : Int) then ((spec_Ahead.f ((rd_T68 x229000 x3).f0) ((rd_T68 x229000 x3).f1) ((rd_T68 x229000 (wrap64 (Int.tdiv (wrap64 (x3 - 1)) 2))).f0) ((rd_T68 x229000 (wrap64 (Int.tdiv (wrap64 (x3 - 1)) 2))).f1)).bind fun t235 => (if t235 = true then (some false) else (spec_HeapOk.l0 k (wrap64 (x3 + 1)) x229000))) else (none)) else (none)) else (none)) else (none)) else (spec_HeapOk.l0 k (wrap64 (x3 + 1)) x229000))
end
def spec_HeapOk.f (k : Nat) (l0_0 : List (S68)) : Option (Bool) := if (l0_0.length : Int) > 64 then (some false) else (spec_HeapOk.l0 k 0 l0_0)
theorem spec_HeapOk.mono_l : ∀ k, (∀ y0 y1, LeO (spec_HeapOk.l0 k y0 y1) (spec_HeapOk.l0 (k + 1) y0 y1)) ∧ (∀ y0 y1 y2, LeO (spec_HeapOk.j1 k y0 y1 y2) (spec_HeapOk.j1 (k + 1) y0 y1 y2))
 | 0 => ⟨fun _ _ r h => by simp [spec_HeapOk.l0] at h, fun _ _ _ r h => by simp [spec_HeapOk.j1] at h⟩
 | k + 1 => by
  obtain ⟨ih0, ih1⟩ := spec_HeapOk.mono_l k
  refine ⟨?_, ?_⟩ <;> intros <;> (first | unfold spec_HeapOk.l0 | unfold spec_HeapOk.j1) <;> repeat' (first | (with_reducible exact ih0 ..) | (with_reducible exact ih1 ..) | (with_reducible exact spec_l15At.mono _ _ _) | (with_reducible exact LeO.refl _) | (with_reducible exact LeO.none _) | (with_reducible refine LeO.ite ?_ ?_) | (with_reducible refine LeO.bind ?_ (fun _ => ?_)) | exact ih0 .. | exact ih1 .. | exact spec_l15At.mono _ _ _ | exact LeO.none _ | refine LeO.ite ?_ ?_ | refine LeO.bind ?_ (fun _ => ?_))
theorem spec_HeapOk.mono : ∀ a0 k, LeO (spec_HeapOk.f k a0) (spec_HeapOk.f (k + 1) a0) := by
 intro a0 k
 obtain ⟨ih0, ih1⟩ := spec_HeapOk.mono_l k
 unfold spec_HeapOk.f
 repeat' (first | (with_reducible exact ih0 ..) | (with_reducible exact ih1 ..) | (with_reducible exact spec_l15At.mono _ _ _) | (with_reducible exact LeO.refl _) | (with_reducible exact LeO.none _) | (with_reducible refine LeO.ite ?_ ?_) | (with_reducible refine LeO.bind ?_ (fun _ => ?_)) | exact ih0 .. | exact ih1 .. | exact spec_l15At.mono _ _ _ | exact LeO.none _ | refine LeO.ite ?_ ?_ | refine LeO.bind ?_ (fun _ => ?_))
def spec_HeapOk.T6 : Bool × List (List Nat × List Nat) := (true, [([], []), ([0], [0]), ([], []), ([1, 2], [1, 2]), ([3], [3]), ([4], [4]), ([5], [5]), ([6, 5], [6]), ([7], [7]), ([8, 7], [7, 8]), ([7], [7]), ([10, 7], [7, 10]), ([7], [7]), ([11, 12, 7], [7, 11, 12]), ([13, 7], [7, 13]), ([14, 7], [7, 14]), ([9, 15, 7, 7], [7, 9, 15]), ([7], [7]), ([16, 17, 7], [7, 16, 17]), ([7, 18], [7, 18])])
def spec_HeapOk.B6 : List Nat := [0, 1, 0, 7, 15, 31, 63, 127, 255, 511, 255, 1279, 255, 7423, 15615, 31999, 65535, 255, 262143, 524287]
theorem spec_HeapOk.tab6 : rtab .any (opsOf Try.f40 6) = spec_HeapOk.T6 := by kernel_rfl
theorem spec_HeapOk.bits6 : waitsOk spec_HeapOk.T6.2 spec_HeapOk.B6 = true := by kernel_rfl
def spec_HeapOk.T8 : Bool × List (List Nat × List Nat) := (true, [([], []), ([0], [0]), ([1], [1]), ([2], [2]), ([3, 2], [2, 3]), ([2], [2]), ([4, 5, 2], [2, 4, 5]), ([6, 2], [2, 6]), ([2], [2]), ([8, 2], [2, 8]), ([2], [2]), ([10, 2], [2, 10]), ([11, 2], [2, 11]), ([9, 12, 2], [2, 9, 12]), ([13, 2], [2, 13]), ([7, 14, 2, 2], [2, 7, 14]), ([2, 15], [2, 15])])
def spec_HeapOk.B8 : List Nat := [0, 1, 3, 7, 15, 7, 63, 127, 7, 263, 7, 1031, 3079, 7943, 16135, 32767, 65535]
theorem spec_HeapOk.tab8 : rtab .any (opsOf Try.f40 8) = spec_HeapOk.T8 := by kernel_rfl
theorem spec_HeapOk.bits8 : waitsOk spec_HeapOk.T8.2 spec_HeapOk.B8 = true := by kernel_rfl
set_option maxHeartbeats 8000000 in
set_option maxRecDepth 100000 in
theorem spec_HeapOk.calls (k : Nat) (A0_0 : Option Addr) (c0_0 : Nat) (l0_0 : List (S68)) (r : Bool) (w : World) (hr0_0 : Kd.C k68 w A0_0 l0_0.length l0_0) (hc0_0 : l0_0.length ≤ c0_0) (h : spec_HeapOk.f k l0_0 = some r) :
  Calls Try.prog 40 #[.agg #[.slice A0_0 l0_0.length c0_0]] w fun e w' => e = .returned (.bool r) ∧ Below w.heap.size w w' := by
 have hu29 := Try.underlying29; have hu68 := Try.underlying68
 have HR0_0 := Aside0.mk hr0_0
 have HC0_0 := Aside0.mk hc0_0
 clear hr0_0 hc0_0; have HB := Aside0.mk (Below.refl w.heap.size w)
 have H := h
 clear h
 unfold spec_HeapOk.f at H
 by_cases c2 : (l0_0.length : Int) > 64
 ·rw [if_pos c2] at H
  have c2b0 : decide (64 < (l0_0.length : Int)) = true := decide_eq_true c2
  have c2b1 : decide (64 < l0_0.length) = true := decide_eq_true (by omega)
  clear c2
  obtain rfl := Option.some.inj H
  go_enter Try.func40, Try.ntmps40
  go_wp2_with (first | ((with_reducible refine gd_ 1 rfl ?_); refine bv_ 1 #[.slice A0_0 l0_0.length c0_0] 29 ?_; intro gb228 hg w3 hbox hb; have BK228 := Aside0.mk (hbox); have GW228 := gw_ HB hg; have GE228 := gw_ HB hg; replace HB := Aside0.mk (below_step (be_ HB) hb); clear hb hbox hg; obtain ⟨hcz4_0, hfz4_0⟩ := bz1_ BK228))
  go_ret
  exact ⟨by first | rfl | (simp [errW_none, errW_some] <;> rfl) | (simp [*, errW_none, errW_some] <;> rfl), bf_ HB⟩
 ·rw [if_neg c2] at H
  have c2b0 : decide (64 < (l0_0.length : Int)) = false := decide_eq_false c2
  have c2b1 : decide (64 < l0_0.length) = false := decide_eq_false (by omega)
  clear c2
  have H' := Aside0.mk H
  clear H
  go_enter Try.func40, Try.ntmps40
  go_wp2_with (first | ((with_reducible refine gd_ 1 rfl ?_); refine bv_ 1 #[.slice A0_0 l0_0.length c0_0] 29 ?_; intro gb228 hg w5 hbox hb; have BK228 := Aside0.mk (hbox); have GW228 := gw_ HB hg; have GE228 := gw_ HB hg; replace HB := Aside0.mk (below_step (be_ HB) hb); clear hb hbox hg; obtain ⟨hcz6_0, hfz6_0⟩ := bz1_ BK228))
  (try simp only [Act.put, ls0_, ls1_, ls2_])
  go_loopg [3] k (fun kq v3 w' => ∃ (x3_1 : Int), v3 = .int .i64 x3_1 ∧ Aside0 (spec_HeapOk.l0 kq x3_1 l0_0 = some r) ∧ Aside0 (kq ≤ k) ∧ Aside0 (w'.heap[gb228]? = some (.cells #[(.slice A0_0 l0_0.length c0_0)] 29 (0, 0))) ∧ Aside0 (Below w.heap.size w w'))
  case atStart => exact ⟨(0), (by first | rfl | (simp; done) | (simp [*]; done)), H', ⟨Nat.le_refl _⟩, ⟨bk_ BK228⟩, ⟨bf_ HB⟩⟩
  case round =>
   clear H'
   (try clear c2); (try clear c2b0); (try clear c2b1); (try clear p2); (try clear c4); (try clear hcz4_0 hfz4_0); (try clear hcz6_0 hfz6_0)
   obtain ⟨x3_1, rfl, HA, HK1, BK228, HB⟩ := hrel
   cases gk with
   | zero => exact absurd HA.out (by simp [spec_HeapOk.l0])
   | succ k1 =>
    have H := HA.out
    clear HA
    simp only [spec_HeapOk.l0] at H
    by_cases c7 : x3_1 < (l0_0.length : Int)
    ·rw [if_pos c7] at H
     have c7b0 : decide (x3_1 < (l0_0.length : Int)) = true := decide_eq_true c7
     clear c7
     have HC8 := Aside0.mk H
     clear H; obtain ⟨hcz9_0, hfz9_0⟩ := bz1_ BK228
     go_upto_region 6 with (fail)
     go_cut [34] (fun v34 wc => ∃ (kq : Nat) (x34_7 : Bool), v34 = .bool x34_7 ∧ Aside0 (spec_HeapOk.j1 kq x3_1 x34_7 l0_0 = some r) ∧ Aside0 (kq ≤ k1) ∧ Aside0 (wc.heap[gb228]? = some (.cells #[(.slice A0_0 l0_0.length c0_0)] 29 (0, 0))) ∧ Aside0 (Below w.heap.size w wc))
     case first =>
      have H := HC8.out
      clear HC8
      by_cases c10 : 0 ≤ x3_1
      ·rw [if_pos c10] at H
       have c10b0 : decide (0 ≤ x3_1) = true := decide_eq_true c10
       clear c10
       (first | rw [c10b0] | (simp only [i64_w, i32_w]; rw [c10b0]) | skip)
       replace H := Option.bind_eq_some_iff.mp H
       obtain ⟨t230, A110, H⟩ := H
       have A11 := Aside0.mk A110
       clear A110
       by_cases c12 : t230 = true
       ·subst c12
        rw [if_pos rfl] at H
        replace H := Option.bind_eq_some_iff.mp H
        obtain ⟨t232, A130, H⟩ := H
        have A13 := Aside0.mk A130
        clear A130
        have H' := Aside0.mk H
        clear H
        try go_wp2
        replace BK228 := Aside0.mk (blk_drew BK228.out); replace HB := Aside0.mk (below_drew1 HB.out)
        have p229 : 0 ≤ (x3_1 : Int) := od_
        have q229 : x3_1 < (l0_0.length : Int) := od_
        obtain ⟨ad229, e229, hx229_0, hx229_1⟩ := at_T68 HR0_0.out x3_1 p229 q229
        have hw229_1 := hx229_1; have hw229_0 := hx229_0
        cases e229
        replace hx229_0 := hb_ HB hx229_0
        replace hx229_1 := hb_ HB hx229_1
        replace p229 := eq_true p229
        replace q229 := eq_true q229
        have p231 : 0 ≤ (x3_1 : Int) := od_
        have q231 : x3_1 < (l0_0.length : Int) := od_
        obtain ⟨ad231, e231, hx231_0, hx231_1⟩ := at_T68 HR0_0.out x3_1 p231 q231
        have hw231_1 := hx231_1; have hw231_0 := hx231_0
        obtain rfl : ad229 = ad231 := (by injection e231)
        replace hx231_0 := hb_ HB hx231_0
        replace hx231_1 := hb_ HB hx231_1
        replace p231 := eq_true p231
        replace q231 := eq_true q231
        refine start_ (n := 20) (S := fun w' => cw_ w' gb228 0 (.slice (some ad229) l0_0.length c0_0) ∧ w'.cell? (ad229.add ((x3_1).toNat * 2)) = some (.int .i64 ((rd_T68 l0_0 x3_1).f0)) ∧ w'.cell? ⟨(ad229.add ((x3_1).toNat * 2)).block, (ad229.add ((x3_1).toNat * 2)).off + 1, none⟩ = some (.int .i64 ((rd_T68 l0_0 x3_1).f1)) ∧ w'.cell? (ad229.add ((x3_1).toNat * 2)) = some (.int .i64 ((rd_T68 l0_0 x3_1).f0)) ∧ w'.cell? ⟨(ad229.add ((x3_1).toNat * 2)).block, (ad229.add ((x3_1).toNat * 2)).off + 1, none⟩ = some (.int .i64 ((rd_T68 l0_0 x3_1).f1))) (ds := []) (bs 20 0) (by kernel_rfl) rfl rfl ⟨bt_ BK228 0, (hd_ HB hw229_0), (hd_ HB hw229_1), (hd_ HB hw231_0), (hd_ HB hw231_1)⟩ (fun hHeld => ?_); refine with_tabW spec_HeapOk.tab6 spec_HeapOk.bits6 (fun HT_ HW_ => ?_)
        generalize wr.drew = w14 at BK228 HB hx229_0 hx229_1 hx231_0 hx231_1 hHeld ⊢
        refine psn_ HT_ ?_
        refine ps_ 2 17 (bm 20 5) HT_ ?_
        refine tk_ 1 16 (bs 20 3) HT_ HW_ hHeld ?_
        refine psn_ HT_ ?_
        refine tkn_ HT_ HW_ hHeld ?_
        refine on_ 5 (some 20) (bs 20 6) HT_ (fun K hK => ?_)
        refine gs_ Try.func100 #[.agg #[.int .i64 ((rd_T68 l0_0 x3_1).f0), .int .i64 ((rd_T68 l0_0 x3_1).f1)]] ?_
        with_reducible refine (spec_ItemOk.calls ((rd_T68 l0_0 x3_1).f0) ((rd_T68 l0_0 x3_1).f1) true _ A11.out).mono ?_
        rintro e w15 ⟨rfl, hb⟩
        refine ⟨_, rfl, ?_⟩
        replace BK228 := bb_ BK228 hb; replace HB := Aside0.mk (below_step (bf_ HB) hb); (try clear hb); (try clear hb2); (try clear hk); (try clear hi)
        refine hK.out _ _ ⟨bt_ BK228 0, (hd_ HB hw229_0), (hd_ HB hw229_1), (hd_ HB hw231_0), (hd_ HB hw231_1)⟩ (fun hHeld => ?_)
        clear hK K
        refine norm_ (a' := ?_) ?_ ?_
        rotate_left
        ·show Act.put _ (some 20) _ = _
         simp only [Act.put, ls0_, ls1_, ls2_, i64_w, i32_w]
         rfl
        iterate 3 (refine psn_ HT_ ?_)
        refine ps_ 10 25 (bm 20 1535) HT_ ?_
        refine ps_ 12 27 (bm 20 5631) HT_ ?_
        refine ps_ 17 32 (bm 20 136703) HT_ ?_
        refine tk_ 9 24 (bm 20 137215) HT_ HW_ hHeld ?_
        refine tk_ 11 26 (bm 20 139263) HT_ HW_ hHeld ?_
        refine ps_ 13 28 (bm 20 147455) HT_ ?_
        refine ps_ 14 29 (bm 20 163839) HT_ ?_
        refine tk_ 15 30 (bm 20 196607) HT_ HW_ hHeld ?_
        refine on_ 16 (some 31) (bs 20 18) HT_ (fun K hK => ?_)
        refine gs_ Try.func93 #[.slice (some ad229) l0_0.length c0_0, .int .i64 ((rd_T68 l0_0 x3_1).f1)] ?_
        with_reducible refine (spec_l15At.calls k1 _ _ l0_0 ((rd_T68 l0_0 x3_1).f1) t232 _ ?side1 ?side2 A13.out).mono ?_
        (case side1 => repeat (first | exact (Kd.C_below HR0_0.out HB.out) | (with_reducible refine Kd.C_alloc ?_ _) | (with_reducible refine Kd.C_drewN ?_ _) | (with_reducible refine Kd.C_drew ?_)))
        (case side2 => exact HC0_0.out)
        rintro e w' ⟨rfl, ⟨nd, rfl⟩⟩
        refine ⟨_, rfl, ?_⟩
        refine hK.out _ _ ⟨bt_ BK228 0, (hd_ HB hw229_0), (hd_ HB hw229_1), (hd_ HB hw231_0), (hd_ HB hw231_1)⟩ (fun hHeld => ?_)
        clear hK K
        refine norm_ (a' := ?_) ?_ ?_
        rotate_left
        ·show Act.put _ (some 31) _ = _
         simp only [Act.put, ls0_, ls1_, ls2_, i64_w, i32_w]
         rfl
        iterate 2 (refine psn_ HT_ ?_)
        refine done_ (done_of HT_.out (by kernel_rfl)) ?_
        try go_wp2
        go_meet
        case rel => exact ⟨_, ((t232 != x3_1)), (by first | rfl | (simp; done) | (simp [*]; done)), H', ⟨by have := HK1.out; first | omega | exact Nat.le_refl _⟩, ⟨bk_ BK228⟩, ⟨bf_ HB⟩⟩
       ·replace c12 := Bool.eq_false_iff.mpr c12
        subst c12
        rw [if_neg (show ¬ (false = true) by decide)] at H
        have H' := Aside0.mk H
        clear H
        try go_wp2
        replace BK228 := Aside0.mk (blk_drew BK228.out); replace HB := Aside0.mk (below_drew1 HB.out)
        have p229 : 0 ≤ (x3_1 : Int) := od_
        have q229 : x3_1 < (l0_0.length : Int) := od_
        obtain ⟨ad229, e229, hx229_0, hx229_1⟩ := at_T68 HR0_0.out x3_1 p229 q229
        have hw229_1 := hx229_1; have hw229_0 := hx229_0
        cases e229
        replace hx229_0 := hb_ HB hx229_0
        replace hx229_1 := hb_ HB hx229_1
        replace p229 := eq_true p229
        replace q229 := eq_true q229
        refine start_ (n := 20) (S := fun w' => cw_ w' gb228 0 (.slice (some ad229) l0_0.length c0_0) ∧ w'.cell? (ad229.add ((x3_1).toNat * 2)) = some (.int .i64 ((rd_T68 l0_0 x3_1).f0)) ∧ w'.cell? ⟨(ad229.add ((x3_1).toNat * 2)).block, (ad229.add ((x3_1).toNat * 2)).off + 1, none⟩ = some (.int .i64 ((rd_T68 l0_0 x3_1).f1))) (ds := []) (bs 20 0) (by kernel_rfl) rfl rfl ⟨bt_ BK228 0, (hd_ HB hw229_0), (hd_ HB hw229_1)⟩ (fun hHeld => ?_); refine with_tabW spec_HeapOk.tab6 spec_HeapOk.bits6 (fun HT_ HW_ => ?_)
        generalize wr.drew = w16 at BK228 HB hx229_0 hx229_1 hHeld ⊢
        refine psn_ HT_ ?_
        refine ps_ 2 17 (bm 20 5) HT_ ?_
        refine tk_ 1 16 (bs 20 3) HT_ HW_ hHeld ?_
        refine psn_ HT_ ?_
        refine tkn_ HT_ HW_ hHeld ?_
        refine on_ 5 (some 20) (bs 20 6) HT_ (fun K hK => ?_)
        refine gs_ Try.func100 #[.agg #[.int .i64 ((rd_T68 l0_0 x3_1).f0), .int .i64 ((rd_T68 l0_0 x3_1).f1)]] ?_
        with_reducible refine (spec_ItemOk.calls ((rd_T68 l0_0 x3_1).f0) ((rd_T68 l0_0 x3_1).f1) false _ A11.out).mono ?_
        rintro e w17 ⟨rfl, hb⟩
        refine ⟨_, rfl, ?_⟩
        replace BK228 := bb_ BK228 hb; replace HB := Aside0.mk (below_step (bf_ HB) hb); (try clear hb); (try clear hb2); (try clear hk); (try clear hi)
        refine hK.out _ _ ⟨bt_ BK228 0, (hd_ HB hw229_0), (hd_ HB hw229_1)⟩ (fun hHeld => ?_)
        clear hK K
        refine norm_ (a' := ?_) ?_ ?_
        rotate_left
        ·show Act.put _ (some 20) _ = _
         simp only [Act.put, ls0_, ls1_, ls2_, i64_w, i32_w]
         rfl
        iterate 2 (refine psn_ HT_ ?_)
        iterate 11 (refine pun_ HT_ ?_)
        refine psn_ HT_ ?_
        refine done_ (done_of HT_.out (by kernel_rfl)) ?_
        try go_wp2
        go_meet
        case rel => exact ⟨_, (true), (by first | rfl | (simp; done) | (simp [*]; done)), H', ⟨by have := HK1.out; first | omega | exact Nat.le_refl _⟩, ⟨bk_ BK228⟩, ⟨bf_ HB⟩⟩
      ·rw [if_neg c10] at H
       exact absurd H (by simp)
     case rest =>
      clear HC8; (try clear c1); (try clear c2); (try clear c2b0); (try clear c2b1); (try clear p2 p2); (try clear q2); (try clear hx2); (try clear c4); (try clear c7); (try clear c7b0); (try clear c9); (try clear c10); (try clear c10b0); (try clear c12); (try clear hcz4_0 hfz4_0); (try clear hcz6_0 hfz6_0); (try clear hcz9_0 hfz9_0); (try clear hx229_0); (try clear hx229_1); (try clear hx231_0); (try clear hx231_1); (try clear p229); (try clear p231); (try clear q229); (try clear q231)
      obtain ⟨kq, x34_7, rfl, HA, HJ7, BK228, HB⟩ := hcut
      cases kq with
      | zero => exact absurd HA.out (by simp [spec_HeapOk.j1])
      | succ kj7 =>
       have H := HA.out
       clear HA
       simp only [spec_HeapOk.j1] at H
       by_cases c18 : x34_7 = true
       ·subst c18
        rw [if_pos rfl] at H
        obtain rfl := Option.some.inj H
        go_wp2
        go_ret
        exact ⟨by first | rfl | (simp [errW_none, errW_some] <;> rfl) | (simp [*, errW_none, errW_some] <;> rfl), bf_ HB⟩
       ·replace c18 := Bool.eq_false_iff.mpr c18
        subst c18
        rw [if_neg (show ¬ (false = true) by decide)] at H
        by_cases c19 : x3_1 > 0
        ·rw [if_pos c19] at H
         have c19b0 : decide (0 < x3_1) = true := decide_eq_true c19
         clear c19
         by_cases c20 : 0 ≤ x3_1
         ·rw [if_pos c20] at H
          have c20b0 : decide (0 ≤ x3_1) = true := decide_eq_true c20
          clear c20
          by_cases c21 : x3_1 < (l0_0.length : Int)
          ·rw [if_pos c21] at H
           have c21b0 : decide (x3_1 < (l0_0.length : Int)) = true := decide_eq_true c21
           clear c21
           obtain ⟨ji22, hji22⟩ : ∃ j_ : Int, (wrap64 (Int.tdiv (wrap64 (x3_1 - 1)) 2)) = j_ := ⟨_, rfl⟩
           replace H : (if 0 ≤ (ji22) then (if (ji22) < (l0_0.length : Int) then ((spec_Ahead.f ((rd_T68 l0_0 x3_1).f0) ((rd_T68 l0_0 x3_1).f1) ((rd_T68 l0_0 (ji22)).f0) ((rd_T68 l0_0 (ji22)).f1)).bind fun t235 => (if t235 = true then (some false) else (spec_HeapOk.l0 kj7 (wrap64 (x3_1 + 1)) l0_0))) else (none)) else (none)) = some r := by first | (rw [hji22] at H; exact H) | (simp only [hji22] at H ⊢; exact H)
           have hji22w : (IntKind.i64.wrap (Int.tdiv (wrap64 (x3_1 - 1)) 2)) = ji22 := (i64_w _).trans hji22
           by_cases c23 : 0 ≤ (ji22)
           ·rw [if_pos c23] at H
            have c23b0 : decide (0 ≤ (ji22)) = true := decide_eq_true c23
            clear c23
            by_cases c24 : (ji22) < (l0_0.length : Int)
            ·rw [if_pos c24] at H
             have c24b0 : decide ((ji22) < (l0_0.length : Int)) = true := decide_eq_true c24
             clear c24
             replace H := Option.bind_eq_some_iff.mp H
             obtain ⟨t235, A250, H⟩ := H
             have A25 := Aside0.mk A250
             clear A250
             by_cases c26 : t235 = true
             ·subst c26
              rw [if_pos rfl] at H
              obtain rfl := Option.some.inj H
              try go_wp2
              replace BK228 := Aside0.mk (blk_drew BK228.out); replace HB := Aside0.mk (below_drew1 HB.out)
              have p233 : 0 ≤ (x3_1 : Int) := od_
              have q233 : x3_1 < (l0_0.length : Int) := od_
              obtain ⟨ad233, e233, hx233_0, hx233_1⟩ := at_T68 HR0_0.out x3_1 p233 q233
              have hw233_1 := hx233_1; have hw233_0 := hx233_0
              cases e233
              replace hx233_0 := hb_ HB hx233_0
              replace hx233_1 := hb_ HB hx233_1
              replace p233 := eq_true p233
              replace q233 := eq_true q233
              have p234 : 0 ≤ ((ji22) : Int) := od_
              have q234 : (ji22) < (l0_0.length : Int) := od_
              obtain ⟨ad234, e234, hx234_0, hx234_1⟩ := at_T68 HR0_0.out (ji22) p234 q234
              have hw234_1 := hx234_1; have hw234_0 := hx234_0
              obtain rfl : ad233 = ad234 := (by injection e234)
              replace hx234_0 := hb_ HB hx234_0
              replace hx234_1 := hb_ HB hx234_1
              replace p234 := eq_true p234
              replace q234 := eq_true q234
              refine start_ (n := 17) (S := fun w' => cw_ w' gb228 0 (.slice (some ad233) l0_0.length c0_0) ∧ w'.cell? (ad233.add ((x3_1).toNat * 2)) = some (.int .i64 ((rd_T68 l0_0 x3_1).f0)) ∧ w'.cell? ⟨(ad233.add ((x3_1).toNat * 2)).block, (ad233.add ((x3_1).toNat * 2)).off + 1, none⟩ = some (.int .i64 ((rd_T68 l0_0 x3_1).f1)) ∧ w'.cell? (ad233.add (((ji22)).toNat * 2)) = some (.int .i64 ((rd_T68 l0_0 (ji22)).f0)) ∧ w'.cell? ⟨(ad233.add (((ji22)).toNat * 2)).block, (ad233.add (((ji22)).toNat * 2)).off + 1, none⟩ = some (.int .i64 ((rd_T68 l0_0 (ji22)).f1))) (ds := []) (bs 17 0) (by kernel_rfl) rfl rfl ⟨bt_ BK228 0, (hd_ HB hw233_0), (hd_ HB hw233_1), (hd_ HB hw234_0), (hd_ HB hw234_1)⟩ (fun hHeld => ?_); refine with_tabW spec_HeapOk.tab8 spec_HeapOk.bits8 (fun HT_ HW_ => ?_)
              generalize wc.drew = w27 at BK228 HB hx233_0 hx233_1 hx234_0 hx234_1 hHeld ⊢
              iterate 4 (refine psn_ HT_ ?_)
              refine ps_ 5 40 (bm 17 47) HT_ ?_
              refine ps_ 8 43 (bm 17 303) HT_ ?_
              refine ps_ 10 45 (bm 17 1327) HT_ ?_
              refine ps_ 11 46 (bm 17 3375) HT_ ?_
              refine ps_ 12 47 (bm 17 7471) HT_ ?_
              refine tk_ 4 39 (bm 17 7487) HT_ HW_ hHeld ?_
              refine ps_ 6 41 (bm 17 7551) HT_ ?_
              refine tk_ 7 42 (bm 17 7679) HT_ HW_ hHeld ?_
              refine tk_ 9 44 (bs 17 13) HT_ HW_ hHeld ?_
              refine psn_ HT_ ?_
              refine tkn_ HT_ HW_ hHeld ?_
              refine on_ 15 (some 50) (bs 17 16) HT_ (fun K hK => ?_)
              refine goes_ Try.func46 (by kernel_rfl) rfl #[.agg #[.int .i64 ((rd_T68 l0_0 x3_1).f0), .int .i64 ((rd_T68 l0_0 x3_1).f1)], .agg #[.int .i64 ((rd_T68 l0_0 (ji22)).f0), .int .i64 ((rd_T68 l0_0 (ji22)).f1)]] (by rfl) rfl rfl (by (try simp only [List.map_toArray, List.map_cons, List.map_nil]); first | done | (simp only [hji22]; rfl) | rfl | (simp only [List.length_drop, List.length_take]; rfl)) ?_
              with_reducible refine (spec_Ahead.calls ((rd_T68 l0_0 x3_1).f0) ((rd_T68 l0_0 x3_1).f1) ((rd_T68 l0_0 (ji22)).f0) ((rd_T68 l0_0 (ji22)).f1) true _ A25.out).mono ?_
              rintro e w28 ⟨rfl, hb⟩
              refine ⟨_, rfl, ?_⟩
              replace BK228 := bb_ BK228 hb; replace HB := Aside0.mk (below_step (bf_ HB) hb); (try clear hb); (try clear hb2); (try clear hk); (try clear hi)
              refine hK.out _ _ ⟨bt_ BK228 0, (hd_ HB hw233_0), (hd_ HB hw233_1), (hd_ HB hw234_0), (hd_ HB hw234_1)⟩ (fun hHeld => ?_)
              clear hK K
              refine norm_ (a' := ?_) ?_ ?_
              rotate_left
              ·show Act.put _ (some 50) _ = _
               simp only [Act.put, ls0_, ls1_, ls2_, i64_w, i32_w]
               rfl
              refine psn_ HT_ ?_
              refine done_ (done_of HT_.out (by kernel_rfl)) ?_
              try go_wp2
              go_ret
              exact ⟨by first | rfl | (simp [errW_none, errW_some] <;> rfl) | (simp only [← hji22]; first | rfl | (simp [errW_none, errW_some] <;> rfl)) | (simp [*, errW_none, errW_some] <;> rfl), bf_ HB⟩
             ·replace c26 := Bool.eq_false_iff.mpr c26
              subst c26
              rw [if_neg (show ¬ (false = true) by decide)] at H
              have H' := Aside0.mk H
              clear H
              try go_wp2
              replace BK228 := Aside0.mk (blk_drew BK228.out); replace HB := Aside0.mk (below_drew1 HB.out)
              have p233 : 0 ≤ (x3_1 : Int) := od_
              have q233 : x3_1 < (l0_0.length : Int) := od_
              obtain ⟨ad233, e233, hx233_0, hx233_1⟩ := at_T68 HR0_0.out x3_1 p233 q233
              have hw233_1 := hx233_1; have hw233_0 := hx233_0
              cases e233
              replace hx233_0 := hb_ HB hx233_0
              replace hx233_1 := hb_ HB hx233_1
              replace p233 := eq_true p233
              replace q233 := eq_true q233
              have p234 : 0 ≤ ((ji22) : Int) := od_
              have q234 : (ji22) < (l0_0.length : Int) := od_
              obtain ⟨ad234, e234, hx234_0, hx234_1⟩ := at_T68 HR0_0.out (ji22) p234 q234
              have hw234_1 := hx234_1; have hw234_0 := hx234_0
              obtain rfl : ad233 = ad234 := (by injection e234)
              replace hx234_0 := hb_ HB hx234_0
              replace hx234_1 := hb_ HB hx234_1
              replace p234 := eq_true p234
              replace q234 := eq_true q234
              refine start_ (n := 17) (S := fun w' => cw_ w' gb228 0 (.slice (some ad233) l0_0.length c0_0) ∧ w'.cell? (ad233.add ((x3_1).toNat * 2)) = some (.int .i64 ((rd_T68 l0_0 x3_1).f0)) ∧ w'.cell? ⟨(ad233.add ((x3_1).toNat * 2)).block, (ad233.add ((x3_1).toNat * 2)).off + 1, none⟩ = some (.int .i64 ((rd_T68 l0_0 x3_1).f1)) ∧ w'.cell? (ad233.add (((ji22)).toNat * 2)) = some (.int .i64 ((rd_T68 l0_0 (ji22)).f0)) ∧ w'.cell? ⟨(ad233.add (((ji22)).toNat * 2)).block, (ad233.add (((ji22)).toNat * 2)).off + 1, none⟩ = some (.int .i64 ((rd_T68 l0_0 (ji22)).f1))) (ds := []) (bs 17 0) (by kernel_rfl) rfl rfl ⟨bt_ BK228 0, (hd_ HB hw233_0), (hd_ HB hw233_1), (hd_ HB hw234_0), (hd_ HB hw234_1)⟩ (fun hHeld => ?_); refine with_tabW spec_HeapOk.tab8 spec_HeapOk.bits8 (fun HT_ HW_ => ?_)
              generalize wc.drew = w29 at BK228 HB hx233_0 hx233_1 hx234_0 hx234_1 hHeld ⊢
              iterate 4 (refine psn_ HT_ ?_)
              refine ps_ 5 40 (bm 17 47) HT_ ?_
              refine ps_ 8 43 (bm 17 303) HT_ ?_
              refine ps_ 10 45 (bm 17 1327) HT_ ?_
              refine ps_ 11 46 (bm 17 3375) HT_ ?_
              refine ps_ 12 47 (bm 17 7471) HT_ ?_
              refine tk_ 4 39 (bm 17 7487) HT_ HW_ hHeld ?_
              refine ps_ 6 41 (bm 17 7551) HT_ ?_
              refine tk_ 7 42 (bm 17 7679) HT_ HW_ hHeld ?_
              refine tk_ 9 44 (bs 17 13) HT_ HW_ hHeld ?_
              refine psn_ HT_ ?_
              refine tkn_ HT_ HW_ hHeld ?_
              refine on_ 15 (some 50) (bs 17 16) HT_ (fun K hK => ?_)
              refine goes_ Try.func46 (by kernel_rfl) rfl #[.agg #[.int .i64 ((rd_T68 l0_0 x3_1).f0), .int .i64 ((rd_T68 l0_0 x3_1).f1)], .agg #[.int .i64 ((rd_T68 l0_0 (ji22)).f0), .int .i64 ((rd_T68 l0_0 (ji22)).f1)]] (by rfl) rfl rfl (by (try simp only [List.map_toArray, List.map_cons, List.map_nil]); first | done | (simp only [hji22]; rfl) | rfl | (simp only [List.length_drop, List.length_take]; rfl)) ?_
              with_reducible refine (spec_Ahead.calls ((rd_T68 l0_0 x3_1).f0) ((rd_T68 l0_0 x3_1).f1) ((rd_T68 l0_0 (ji22)).f0) ((rd_T68 l0_0 (ji22)).f1) false _ A25.out).mono ?_
              rintro e w30 ⟨rfl, hb⟩
              refine ⟨_, rfl, ?_⟩
              replace BK228 := bb_ BK228 hb; replace HB := Aside0.mk (below_step (bf_ HB) hb); (try clear hb); (try clear hb2); (try clear hk); (try clear hi)
              refine hK.out _ _ ⟨bt_ BK228 0, (hd_ HB hw233_0), (hd_ HB hw233_1), (hd_ HB hw234_0), (hd_ HB hw234_1)⟩ (fun hHeld => ?_)
              clear hK K
              refine norm_ (a' := ?_) ?_ ?_
              rotate_left
              ·show Act.put _ (some 50) _ = _
               simp only [Act.put, ls0_, ls1_, ls2_, i64_w, i32_w]
               rfl
              refine psn_ HT_ ?_
              refine done_ (done_of HT_.out (by kernel_rfl)) ?_
              try go_wp2
              go_roundg kj7
              case measure => have := HK1.out; have := HJ7.out; omega
              case rel => exact ⟨(wrap64 (x3_1 + 1)), (by first | rfl | (simp; done) | (simp [*]; done)), H', ⟨by have := HK1.out; have := HJ7.out; omega⟩, ⟨bk_ BK228⟩, ⟨bf_ HB⟩⟩
            ·rw [if_neg c24] at H
             exact absurd H (by simp)
           ·rw [if_neg c23] at H
            exact absurd H (by simp)
          ·rw [if_neg c21] at H
           exact absurd H (by simp)
         ·rw [if_neg c20] at H
          exact absurd H (by simp)
        ·rw [if_neg c19] at H
         have c19b0 : decide (0 < x3_1) = false := decide_eq_false c19
         clear c19
         have H' := Aside0.mk H
         clear H
         try go_wp2
         replace BK228 := Aside0.mk (blk_drew BK228.out); replace HB := Aside0.mk (below_drew1 HB.out)
         refine start_ (n := 17) (S := fun w' => True) (ds := []) (bs 17 0) (by kernel_rfl) rfl rfl trivial (fun hHeld => ?_); refine with_tabW spec_HeapOk.tab8 spec_HeapOk.bits8 (fun HT_ HW_ => ?_)
         generalize wc.drew = w31 at BK228 HB hHeld ⊢
         iterate 3 (refine psn_ HT_ ?_)
         iterate 13 (refine pun_ HT_ ?_)
         refine psn_ HT_ ?_
         refine done_ (done_of HT_.out (by kernel_rfl)) ?_
         try go_wp2
         go_roundg kj7
         case measure => have := HK1.out; have := HJ7.out; omega
         case rel => exact ⟨(wrap64 (x3_1 + 1)), (by first | rfl | (simp; done) | (simp [*]; done)), H', ⟨by have := HK1.out; have := HJ7.out; omega⟩, ⟨bk_ BK228⟩, ⟨bf_ HB⟩⟩
    ·rw [if_neg c7] at H
     have c7b0 : decide (x3_1 < (l0_0.length : Int)) = false := decide_eq_false c7
     clear c7
     obtain rfl := Option.some.inj H
     obtain ⟨hcz32_0, hfz32_0⟩ := bz1_ BK228
     go_wp2
     go_ret
     exact ⟨by first | rfl | (simp [errW_none, errW_some] <;> rfl) | (simp [*, errW_none, errW_some] <;> rfl), bf_ HB⟩

/-! ### spec_l15Swap: function 153 -/
def spec_l15Swap.f (l0 : List (S68)) (a1 : Int) (a2 : Int) : Option ((List (S68))) := (some (([] : List (S68)) : List (S68))).bind fun y236 => (if y236.length + l0.length < 8796093022208 then ((some (y236 ++ l0 : List (S68))).bind fun y239 => (if 0 ≤ a2 then (if a2 < (l0.length : Int) then (if 0 ≤ a1 then (if a1 < (y239.length : Int) then (if a1 < (l0.length : Int) then (if a2 < (y239.length : Int) then (some ((y239.set (a1 : Int).toNat (⟨(rd_T68 l0 a2).f0, (rd_T68 l0 a2).f1⟩ : S68)).set (a2 : Int).toNat (⟨(rd_T68 l0 a1).f0, (rd_T68 l0 a1).f1⟩ : S68))) else (none)) else (none)) else (none)) else (none)) else (none)) else (none))) else (none))
set_option maxHeartbeats 8000000 in
set_option maxRecDepth 100000 in
theorem spec_l15Swap.calls (A0 : Option Addr) (c0 : Nat) (l0 : List (S68)) (a1 : Int) (a2 : Int) (r : List (S68)) (w : World) (hr0 : Kd.C k68 w A0 l0.length l0) (hc0 : l0.length ≤ c0) (h : spec_l15Swap.f l0 a1 a2 = some r) :
  Calls Try.prog 153 #[.slice A0 l0.length c0, .int .i64 a1, .int .i64 a2] w fun e w' => ∃ v0_ : Value, e = .returned (v0_) ∧ Kd.R k68 68 w' w.heap.size (fun _ => True) v0_ r ∧ Below w.heap.size w w' := by
 have hu68 := Try.underlying68
 have HR0 := Aside0.mk hr0
 have HC0 := Aside0.mk hc0
 clear hr0 hc0; have HB := Aside0.mk (Below.refl w.heap.size w)
 have H := h
 clear h
 unfold spec_l15Swap.f at H
 obtain ⟨y236, hy236⟩ : ∃ y_ : List (S68), y_ = (([] : List (S68))) := ⟨_, rfl⟩
 replace H : (if y236.length + l0.length < 8796093022208 then ((some (y236 ++ l0 : List (S68))).bind fun y239 => (if 0 ≤ a2 then (if a2 < (l0.length : Int) then (if 0 ≤ a1 then (if a1 < (y239.length : Int) then (if a1 < (l0.length : Int) then (if a2 < (y239.length : Int) then (some ((y239.set (a1 : Int).toNat (⟨(rd_T68 l0 a2).f0, (rd_T68 l0 a2).f1⟩ : S68)).set (a2 : Int).toNat (⟨(rd_T68 l0 a1).f0, (rd_T68 l0 a1).f1⟩ : S68))) else (none)) else (none)) else (none)) else (none)) else (none)) else (none))) else (none)) = some r := by first | (rw [hy236]; with_reducible exact H) | (have H2_ := (Option.bind_some _ _).symm.trans H; rw [hy236]; with_reducible exact H2_) | (have H2_ := (Option.bind_some _ _).symm.trans H; with_reducible exact H2_) | with_reducible exact H | (rw [hy236]; exact H) | exact H
 have Ny236 := Aside0.mk hy236
 clear hy236
 by_cases c4 : y236.length + l0.length < 8796093022208
 ·rw [if_pos c4] at H
  have LMc4 := Aside0.mk c4
  clear c4
  obtain ⟨y239, hy239⟩ : ∃ y_ : List (S68), y_ = (y236 ++ l0) := ⟨_, rfl⟩
  replace H : (if 0 ≤ a2 then (if a2 < (l0.length : Int) then (if 0 ≤ a1 then (if a1 < (y239.length : Int) then (if a1 < (l0.length : Int) then (if a2 < (y239.length : Int) then (some ((y239.set (a1 : Int).toNat (⟨(rd_T68 l0 a2).f0, (rd_T68 l0 a2).f1⟩ : S68)).set (a2 : Int).toNat (⟨(rd_T68 l0 a1).f0, (rd_T68 l0 a1).f1⟩ : S68))) else (none)) else (none)) else (none)) else (none)) else (none)) else (none)) = some r := by first | (rw [hy239]; with_reducible exact H) | (have H2_ := (Option.bind_some _ _).symm.trans H; rw [hy239]; with_reducible exact H2_) | (have H2_ := (Option.bind_some _ _).symm.trans H; with_reducible exact H2_) | with_reducible exact H | (rw [hy239]; exact H) | exact H
  have Ny239 := Aside0.mk hy239
  clear hy239
  by_cases c5 : 0 ≤ a2
  ·rw [if_pos c5] at H
   have c5b0 : decide (0 ≤ a2) = true := decide_eq_true c5
   clear c5
   by_cases c6 : a2 < (l0.length : Int)
   ·rw [if_pos c6] at H
    have c6b0 : decide (a2 < (l0.length : Int)) = true := decide_eq_true c6
    clear c6
    by_cases c7 : 0 ≤ a1
    ·rw [if_pos c7] at H
     have c7b0 : decide (0 ≤ a1) = true := decide_eq_true c7
     clear c7
     by_cases c8 : a1 < (y239.length : Int)
     ·rw [if_pos c8] at H
      have c8b0 : decide (a1 < (y239.length : Int)) = true := decide_eq_true c8
      clear c8
      obtain ⟨y243, hy243⟩ : ∃ y_ : List (S68), y_ = (y239.set (a1 : Int).toNat (⟨(rd_T68 l0 a2).f0, (rd_T68 l0 a2).f1⟩ : S68)) := ⟨_, rfl⟩
      replace H : (if a1 < (l0.length : Int) then (if a2 < (y239.length : Int) then (some (y243.set (a2 : Int).toNat (⟨(rd_T68 l0 a1).f0, (rd_T68 l0 a1).f1⟩ : S68))) else (none)) else (none)) = some r := by first | (rw [hy243]; with_reducible exact H) | (have H2_ := (Option.bind_some _ _).symm.trans H; rw [hy243]; with_reducible exact H2_) | (have H2_ := (Option.bind_some _ _).symm.trans H; with_reducible exact H2_) | with_reducible exact H | (rw [hy243]; exact H) | exact H
      have Ny243 := Aside0.mk hy243
      clear hy243
      by_cases c10 : a1 < (l0.length : Int)
      ·rw [if_pos c10] at H
       have c10b0 : decide (a1 < (l0.length : Int)) = true := decide_eq_true c10
       clear c10
       by_cases c11 : a2 < (y239.length : Int)
       ·rw [if_pos c11] at H
        have c11b0 : decide (a2 < (y239.length : Int)) = true := decide_eq_true c11
        clear c11
        obtain ⟨y245, hy245⟩ : ∃ y_ : List (S68), y_ = (y243.set (a2 : Int).toNat (⟨(rd_T68 l0 a1).f0, (rd_T68 l0 a1).f1⟩ : S68)) := ⟨_, rfl⟩
        replace H : (some y245) = some r := by first | (rw [hy245]; with_reducible exact H) | (have H2_ := (Option.bind_some _ _).symm.trans H; rw [hy245]; with_reducible exact H2_) | (have H2_ := (Option.bind_some _ _).symm.trans H; with_reducible exact H2_) | with_reducible exact H | (rw [hy245]; exact H) | exact H
        have Ny245 := Aside0.mk hy245
        clear hy245
        obtain rfl := Option.some.inj H
        go_enter Try.func153, Try.ntmps153
        go_wp2_with (first | ((with_reducible refine gd_ 8 rfl ?_); refine Kd.R_lit k68 _ 68 ?hg (N := 8) ?hd (xs := ([] : List (S68))) (inner := []) (ok := fun _ => True) (okp := fun _ => True) ?hr ?hp (fun _ hk => by first | exact hk | grind) trivial (Below.refl _ _) (Nat.le_refl _) (by simp) ?_; (case hd => rfl); (case hg => rfl); (case hr => first | (go_simp; done) | (go_simp; rfl)); (case hp => exact (Reps.none _ _)); intro v237 w13 ho14 hb hg_ hnew_; clear hg_ hnew_; (first | rw [← Ny236.out] at ho14 | (simp only [Int.reduceToNat] at ho14; rw [← Ny236.out] at ho14)); have HO238 := Aside0.mk (Kd.R_lower ho14 (below_size (be_ HB))); replace HB := Aside0.mk (below_step (be_ HB) hb); clear hb ho14) | ((with_reducible refine gate_builtin (b := .append) (xs := #[.tmp 8, .tmp 9]) rfl ?_); at_builtin; refine Kd.R_append_rows k68 (w0 := w) w.heap.size rfl (.tmp 8) (.tmp 9) 26 68 (.agg #[(.int .i64 0), (.int .i64 0)]) 16 rfl Try.underlying26 info68 rfl (by decide) (by omega) v237 y236 l0 _ _ _ (fun _ => True) (fun _ => False) rfl rfl ?aO ?aR (fun _ _ h => h) (fun _ h => h.elim) ?aF ?aB ?aS ?aL ?_; (case aR => repeat (first | exact (Kd.C_below HR0.out HB.out) | (with_reducible refine Kd.C_alloc ?_ _) | (with_reducible refine Kd.C_drewN ?_ _) | (with_reducible refine Kd.C_drew ?_))); (case aB => exact (be_ HB)); (case aF => exact (fun _ _ => trivial)); (case aO => exact (kr_ HO238)); (case aS => exact (below_size (be_ HB))); (case aL => have := LMc4.out; omega); intro v240 w15 ho hb hg hat; rw [← Ny239.out] at ho; replace HB := Aside0.mk (hb); have HO241 := Aside0.mk (ho); clear HO238 ho hb hg hat; have p242 : 0 ≤ (a2 : Int) := od_; have q242 : a2 < (l0.length : Int) := od_; obtain ⟨ad242, e242, hx242_0, hx242_1⟩ := at_T68 HR0.out a2 p242 q242; cases e242; replace hx242_0 := hb_ HB hx242_0; replace hx242_1 := hb_ HB hx242_1; replace p242 := eq_true p242; replace q242 := eq_true q242; have p9 : 0 ≤ (a1 : Int) := od_; have q9 : (a1 : Int) < ((y239.length : Int) : Int) := od_; obtain ⟨go9, co9, eo9, gb9, gl9, cl9, HG9⟩ := Kd.R_form HO241.out (by omega); (first | cases eo9 | (injection eo9 with ea_ en_ ec_; (first | subst ea_ | (injection ea_ with ea_; subst ea_)); subst ec_; clear en_)); have GB9 := Aside0.mk gb9; have GG9 := Aside0.mk HG9; clear gb9 gl9 HG9; obtain ⟨ce9, hcl9, hM9, hcc9, hfr9⟩ := Kd.R_elem HO241.out z68 (a1 : Int) p9 q9; obtain rfl := k68_openM hM9; have hx9_0 : w15.cell? ⟨go9, (a1 : Int).toNat * 2, none⟩ = some (.int .i64 ((rd_T68 y239 a1).f0)) := hcc9 0 _ rfl; have hx9_1 : w15.cell? ⟨go9, (a1 : Int).toNat * 2 + 1, none⟩ = some (.int .i64 ((rd_T68 y239 a1).f1)) := hcc9 1 _ rfl; have hf9_0 : w15.frozen? ⟨go9, (a1 : Int).toNat * 2, none⟩ = false := hfr9 0; have hf9_1 : w15.frozen? ⟨go9, (a1 : Int).toNat * 2 + 1, none⟩ = false := hfr9 1; clear hcl9 hcc9 hfr9 hM9; replace p9 := eq_true p9; replace q9 := eq_true q9; have HX16 := Aside0.mk (show Kd.R k68 68 w15 w.heap.size (fun _ => True) (.slice (some ⟨go9, 0, none⟩) y239.length co9) y239 from (kr_ HO241)); obtain ⟨ce16, hcl16, hM16, hcc16, hfr16⟩ := Kd.R_elem HX16.out z68 (a1 : Int) (od_) (by have h_ : (a1 : Int) < ((y239.length : Int) : Int) := od_; first | exact h_ | (have e_ := (Kd.R_reads' HO241.out).1; omega) | simpa using h_); obtain rfl := k68_openM hM16; have HP16 := Kd.R_seg HX16.out (a1 : Int) (od_) (by have h_ : (a1 : Int) < ((y239.length : Int) : Int) := od_; first | exact h_ | (have e_ := (Kd.R_reads' HO241.out).1; omega) | simpa using h_) (seg := [.int .i64 ((rd_T68 l0 a2).f0), .int .i64 ((rd_T68 l0 a2).f1)]) (j := 0) hcl16 hcc16 (show 2 ≤ 2 from by decide) (x' := (⟨(rd_T68 l0 a2).f0, (rd_T68 l0 a2).f1⟩ : S68)) (k68_mkM _ _ _ (⟨(rd_T68 l0 a2).f0, (rd_T68 l0 a2).f1⟩ : S68) ) (fun _ hk => by first | exact hk | grind); have hx16_0 := hcc16 0 _ rfl; (try simp only [show (k68).sz = 2 from rfl, Nat.mul_one, Nat.add_zero] at hx16_0); have hf16_0 := hfr16 0; (try simp only [show (k68).sz = 2 from rfl, Nat.mul_one, Nat.add_zero] at hf16_0); have hx16_1 := hcc16 1 _ rfl; (try simp only [show (k68).sz = 2 from rfl, Nat.mul_one, Nat.add_zero] at hx16_1); have hf16_1 := hfr16 1; (try simp only [show (k68).sz = 2 from rfl, Nat.mul_one, Nat.add_zero] at hf16_1); clear hcl16 hcc16 hfr16 hM16) | ((with_reducible refine gate_store (t := 68) (p := 17) rfl ?_); refine store_event (t := 68) (p := 17) (v := ?vo_w17) (w1 := ((w15.setCell ⟨go9, (a1 : Int).toNat * 2, none⟩ (.int .i64 ((rd_T68 l0 a2).f0))).setCell ⟨go9, (a1 : Int).toNat * 2 + 1, none⟩ (.int .i64 ((rd_T68 l0 a2).f1)))) ?hg ?ho ?hn ?hr ?_; (case ho => rfl); (case hg => rfl); (case hn => rfl); (case hr => first | (go_simp; done) | (go_simp; rfl)); intro w17 hw; have hg : w15.grownBy w17 (some go9) := (by rw [hw]; exact HP16.2); have hp_ : Kd.R k68 68 w17 w.heap.size (fun _ => True) (.slice (some ⟨go9, 0, none⟩) y239.length co9) y243 := (by rw [hw, Ny243.out]; exact HP16.1); clear HP16; replace HO241 := Aside0.mk (hp_); replace HB := Aside0.mk ((by rw [hw]; exact below_set (below_set (HB.out) GB9.out) GB9.out : Below w.heap.size w w17)); clear hg hw hp_; have p244 : 0 ≤ (a1 : Int) := od_; have q244 : a1 < (l0.length : Int) := od_; obtain ⟨ad244, e244, hx244_0, hx244_1⟩ := at_T68 HR0.out a1 p244 q244; obtain rfl : ad242 = ad244 := (by injection e244); replace hx244_0 := hb_ HB hx244_0; replace hx244_1 := hb_ HB hx244_1; replace p244 := eq_true p244; replace q244 := eq_true q244; have p12 : 0 ≤ (a2 : Int) := od_; have q12 : (a2 : Int) < ((y239.length : Int) : Int) := od_; obtain ⟨ce12, hcl12, hM12, hcc12, hfr12⟩ := Kd.R_elem HO241.out z68 (a2 : Int) p12 q12; obtain rfl := k68_openM hM12; have hx12_0 : w17.cell? ⟨go9, (a2 : Int).toNat * 2, none⟩ = some (.int .i64 ((rd_T68 y243 a2).f0)) := hcc12 0 _ rfl; have hx12_1 : w17.cell? ⟨go9, (a2 : Int).toNat * 2 + 1, none⟩ = some (.int .i64 ((rd_T68 y243 a2).f1)) := hcc12 1 _ rfl; have hf12_0 : w17.frozen? ⟨go9, (a2 : Int).toNat * 2, none⟩ = false := hfr12 0; have hf12_1 : w17.frozen? ⟨go9, (a2 : Int).toNat * 2 + 1, none⟩ = false := hfr12 1; clear hcl12 hcc12 hfr12 hM12; replace p12 := eq_true p12; replace q12 := eq_true q12; have HX18 := Aside0.mk (show Kd.R k68 68 w17 w.heap.size (fun _ => True) (.slice (some ⟨go9, 0, none⟩) y239.length co9) y243 from (kr_ HO241)); obtain ⟨ce18, hcl18, hM18, hcc18, hfr18⟩ := Kd.R_elem HX18.out z68 (a2 : Int) (od_) (by have h_ : (a2 : Int) < ((y239.length : Int) : Int) := od_; first | exact h_ | (have e_ := (Kd.R_reads' HO241.out).1; omega) | simpa using h_); obtain rfl := k68_openM hM18; have HP18 := Kd.R_seg HX18.out (a2 : Int) (od_) (by have h_ : (a2 : Int) < ((y239.length : Int) : Int) := od_; first | exact h_ | (have e_ := (Kd.R_reads' HO241.out).1; omega) | simpa using h_) (seg := [.int .i64 ((rd_T68 l0 a1).f0), .int .i64 ((rd_T68 l0 a1).f1)]) (j := 0) hcl18 hcc18 (show 2 ≤ 2 from by decide) (x' := (⟨(rd_T68 l0 a1).f0, (rd_T68 l0 a1).f1⟩ : S68)) (k68_mkM _ _ _ (⟨(rd_T68 l0 a1).f0, (rd_T68 l0 a1).f1⟩ : S68) ) (fun _ hk => by first | exact hk | grind); have hx18_0 := hcc18 0 _ rfl; (try simp only [show (k68).sz = 2 from rfl, Nat.mul_one, Nat.add_zero] at hx18_0); have hf18_0 := hfr18 0; (try simp only [show (k68).sz = 2 from rfl, Nat.mul_one, Nat.add_zero] at hf18_0); have hx18_1 := hcc18 1 _ rfl; (try simp only [show (k68).sz = 2 from rfl, Nat.mul_one, Nat.add_zero] at hx18_1); have hf18_1 := hfr18 1; (try simp only [show (k68).sz = 2 from rfl, Nat.mul_one, Nat.add_zero] at hf18_1); clear hcl18 hcc18 hfr18 hM18) | ((with_reducible refine gate_store (t := 68) (p := 24) rfl ?_); refine store_event (t := 68) (p := 24) (v := ?vo_w19) (w1 := ((w17.setCell ⟨go9, (a2 : Int).toNat * 2, none⟩ (.int .i64 ((rd_T68 l0 a1).f0))).setCell ⟨go9, (a2 : Int).toNat * 2 + 1, none⟩ (.int .i64 ((rd_T68 l0 a1).f1)))) ?hg ?ho ?hn ?hr ?_; (case ho => rfl); (case hg => rfl); (case hn => rfl); (case hr => first | (go_simp; done) | (go_simp; rfl)); intro w19 hw; have hg : w17.grownBy w19 (some go9) := (by rw [hw]; exact HP18.2); have hp_ : Kd.R k68 68 w19 w.heap.size (fun _ => True) (.slice (some ⟨go9, 0, none⟩) y239.length co9) y245 := (by rw [hw, Ny245.out]; exact HP18.1); clear HP18; replace HO241 := Aside0.mk (hp_); replace HB := Aside0.mk ((by rw [hw]; exact below_set (below_set (HB.out) GB9.out) GB9.out : Below w.heap.size w w19)); clear hg hw hp_))
        go_ret
        exact ⟨_, by first | rfl | (simp [errW_none, errW_some] <;> rfl) | (simp [*, errW_none, errW_some] <;> rfl), by (with_reducible repeat (first | apply Kd.R_alloc | apply Kd.R_drewN | apply Kd.R_drew)); exact HO241.out, be_ HB⟩
       ·rw [if_neg c11] at H
        exact absurd H (by simp)
      ·rw [if_neg c10] at H
       exact absurd H (by simp)
     ·rw [if_neg c8] at H
      exact absurd H (by simp)
    ·rw [if_neg c7] at H
     exact absurd H (by simp)
   ·rw [if_neg c6] at H
    exact absurd H (by simp)
  ·rw [if_neg c5] at H
   exact absurd H (by simp)
 ·rw [if_neg c4] at H
  exact absurd H (by simp)

end Go.Proofs.Ytnklakficjpmoaa.PFnHeapBook
