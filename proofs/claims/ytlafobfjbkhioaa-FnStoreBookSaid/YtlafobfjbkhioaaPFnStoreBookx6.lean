-- printed by a program of this session (wip/printx) out of the translation; Lean checks it
import Derived.Test.YtlafobfjbkhioaaXSq
import Derived.Test.YtlafobfjbkhioaaPFnStoreBookx0
import Derived.Test.YtlafobfjbkhioaaPFnStoreBookx5
namespace Go.Proofs.Ytlafobfjbkhioaa.PFnStoreBook
open Go.RowKit Go.Proofs.YtlafobfjbkhioaaW.PrintWords Go.Proofs.YtlafobfjbkhioaaW.PrintLast Go.Proofs.YtlafobfjbkhioaaW.PrintMore
attribute [local go_sem] max2_int min2_int max_two min_two max_three min_three max_four min_four   -- for this text's walks alone
set_option linter.unusedVariables false
set_option linter.unusedSimpArgs false

/-! ### spec_SlabOk: function 54 -/
mutual
def spec_SlabOk.j0 : Nat → Int → Bool → Int → List Int → Option (Bool)
  | 0, _, _, _, _ => none
  | k + 1, x3, x24, x262000, x262001 => if x24 = true then (some false) else (spec_SlabOk.l0 k x3 0 x262000 x262001)
def spec_SlabOk.l0 : Nat → Int → Int → Int → List Int → Option (Bool)
  | 0, _, _, _, _ => none
  | k + 1, x3, x4, x262000, x262001 => if x4 < x3 then (if 0 ≤ x4 then (if x4 < (x262001.length : Int) then (if (rd x262001 x4) < (-1) then (some false) else (if (rd x262001 x4) ≥ x3 then (some false) else (if (rd x262001 x4) ≥ 0 then ((spec_l16Ahead.f k x262000 x262001 (rd x262001 x4)).bind fun t267 => (if t267 = x4 then (spec_SlabOk.l0 k x3 (wrap64 (x4 + 1)) x262000 x262001) else (some false))) else (spec_SlabOk.l0 k x3 (wrap64 (x4 + 1)) x262000 x262001)))) else (none)) else (none)) else (spec_SlabOk.l1 k x3 0 x262000 x262001)
def spec_SlabOk.l1 : Nat → Int → Int → Int → List Int → Option (Bool)
  | 0, _, _, _, _ => none
  | k + 1, x3, x5, x262000, x262001 => if x5 < x3 then (spec_SlabOk.l2 k x3 x5 x5 0 x262000 x262001) else (some true)
def spec_SlabOk.l2 : Nat → Int → Int → Int → Int → Int → List Int → Option (Bool)
  | 0, _, _, _, _, _, _ => none
  | k + 1, x3, x5, x6, x7, x262000, x262001 => if x7 < x3 then (if x6 ≥ 0 then (if 0 ≤ x6 then (if x6 < (x262001.length : Int) then (spec_SlabOk.l2 k x3 x5 (rd x262001 x6) (wrap64 (x7 + 1)) x262000 x262001) else (none)) else (none)) else (spec_SlabOk.l1 k x3 (wrap64 (x5 + 1)) x262000 x262001)) else (if x6 ≥ 0 then (some false) else (spec_SlabOk.l1 k x3 (wrap64 (x5 + 1)) x262000 x262001))
end
def spec_SlabOk.f (k : Nat) (a0_0 : Int) (l0_1 : List Int) : Option (Bool) := if (l0_1.length : Int) > 128 then (spec_SlabOk.j0 k (l0_1.length : Int) true a0_0 l0_1) else (if a0_0 = (-1) then (spec_SlabOk.j0 k (l0_1.length : Int) false a0_0 l0_1) else ((spec_l16Head.f k a0_0 l0_1 a0_0).bind fun t262 => (spec_SlabOk.j0 k (l0_1.length : Int) (!t262) a0_0 l0_1)))
theorem spec_SlabOk.mono_l : ∀ k, (∀ y0 y1 y2 y3, LeO (spec_SlabOk.j0 k y0 y1 y2 y3) (spec_SlabOk.j0 (k + 1) y0 y1 y2 y3)) ∧ (∀ y0 y1 y2 y3, LeO (spec_SlabOk.l0 k y0 y1 y2 y3) (spec_SlabOk.l0 (k + 1) y0 y1 y2 y3)) ∧ (∀ y0 y1 y2 y3, LeO (spec_SlabOk.l1 k y0 y1 y2 y3) (spec_SlabOk.l1 (k + 1) y0 y1 y2 y3)) ∧ (∀ y0 y1 y2 y3 y4 y5, LeO (spec_SlabOk.l2 k y0 y1 y2 y3 y4 y5) (spec_SlabOk.l2 (k + 1) y0 y1 y2 y3 y4 y5))
 | 0 => ⟨fun _ _ _ _ r h => by simp [spec_SlabOk.j0] at h, fun _ _ _ _ r h => by simp [spec_SlabOk.l0] at h, fun _ _ _ _ r h => by simp [spec_SlabOk.l1] at h, fun _ _ _ _ _ _ r h => by simp [spec_SlabOk.l2] at h⟩
 | k + 1 => by
  obtain ⟨ih0, ih1, ih2, ih3⟩ := spec_SlabOk.mono_l k
  refine ⟨?_, ?_, ?_, ?_⟩
  ·intro y0 y1 y2 y3
   unfold spec_SlabOk.j0
   repeat' first
   | (with_reducible exact ih0 _ _ _ _)
   | (with_reducible exact ih1 _ _ _ _)
   | (with_reducible exact ih2 _ _ _ _)
   | (with_reducible exact ih3 _ _ _ _ _ _)
   | (with_reducible exact spec_l16Ahead.mono _ _ _ _)
   | (with_reducible exact spec_l16Head.mono _ _ _ _)
   | (with_reducible exact LeO.refl _)
   | (with_reducible exact LeO.none _)
   | (with_reducible refine LeO.ite ?_ ?_)
   | (with_reducible refine LeO.bind ?_ (fun _ => ?_))
   | exact ih0 _ _ _ _
   | exact ih1 _ _ _ _
   | exact ih2 _ _ _ _
   | exact ih3 _ _ _ _ _ _
   | exact spec_l16Ahead.mono _ _ _ _
   | exact spec_l16Head.mono _ _ _ _
   | exact LeO.none _
   | refine LeO.ite ?_ ?_
   | refine LeO.bind ?_ (fun _ => ?_)
  ·intro y0 y1 y2 y3
   unfold spec_SlabOk.l0
   repeat' first
   | (with_reducible exact ih0 _ _ _ _)
   | (with_reducible exact ih1 _ _ _ _)
   | (with_reducible exact ih2 _ _ _ _)
   | (with_reducible exact ih3 _ _ _ _ _ _)
   | (with_reducible exact spec_l16Ahead.mono _ _ _ _)
   | (with_reducible exact spec_l16Head.mono _ _ _ _)
   | (with_reducible exact LeO.refl _)
   | (with_reducible exact LeO.none _)
   | (with_reducible refine LeO.ite ?_ ?_)
   | (with_reducible refine LeO.bind ?_ (fun _ => ?_))
   | exact ih0 _ _ _ _
   | exact ih1 _ _ _ _
   | exact ih2 _ _ _ _
   | exact ih3 _ _ _ _ _ _
   | exact spec_l16Ahead.mono _ _ _ _
   | exact spec_l16Head.mono _ _ _ _
   | exact LeO.none _
   | refine LeO.ite ?_ ?_
   | refine LeO.bind ?_ (fun _ => ?_)
  ·intro y0 y1 y2 y3
   unfold spec_SlabOk.l1
   repeat' first
   | (with_reducible exact ih0 _ _ _ _)
   | (with_reducible exact ih1 _ _ _ _)
   | (with_reducible exact ih2 _ _ _ _)
   | (with_reducible exact ih3 _ _ _ _ _ _)
   | (with_reducible exact spec_l16Ahead.mono _ _ _ _)
   | (with_reducible exact spec_l16Head.mono _ _ _ _)
   | (with_reducible exact LeO.refl _)
   | (with_reducible exact LeO.none _)
   | (with_reducible refine LeO.ite ?_ ?_)
   | (with_reducible refine LeO.bind ?_ (fun _ => ?_))
   | exact ih0 _ _ _ _
   | exact ih1 _ _ _ _
   | exact ih2 _ _ _ _
   | exact ih3 _ _ _ _ _ _
   | exact spec_l16Ahead.mono _ _ _ _
   | exact spec_l16Head.mono _ _ _ _
   | exact LeO.none _
   | refine LeO.ite ?_ ?_
   | refine LeO.bind ?_ (fun _ => ?_)
  ·intro y0 y1 y2 y3 y4 y5
   unfold spec_SlabOk.l2
   repeat' first
   | (with_reducible exact ih0 _ _ _ _)
   | (with_reducible exact ih1 _ _ _ _)
   | (with_reducible exact ih2 _ _ _ _)
   | (with_reducible exact ih3 _ _ _ _ _ _)
   | (with_reducible exact spec_l16Ahead.mono _ _ _ _)
   | (with_reducible exact spec_l16Head.mono _ _ _ _)
   | (with_reducible exact LeO.refl _)
   | (with_reducible exact LeO.none _)
   | (with_reducible refine LeO.ite ?_ ?_)
   | (with_reducible refine LeO.bind ?_ (fun _ => ?_))
   | exact ih0 _ _ _ _
   | exact ih1 _ _ _ _
   | exact ih2 _ _ _ _
   | exact ih3 _ _ _ _ _ _
   | exact spec_l16Ahead.mono _ _ _ _
   | exact spec_l16Head.mono _ _ _ _
   | exact LeO.none _
   | refine LeO.ite ?_ ?_
   | refine LeO.bind ?_ (fun _ => ?_)
theorem spec_SlabOk.mono : ∀ a0 a1 k, LeO (spec_SlabOk.f k a0 a1) (spec_SlabOk.f (k + 1) a0 a1) := by
 intro a0 a1 k
 obtain ⟨ih0, ih1, ih2, ih3⟩ := spec_SlabOk.mono_l k
 unfold spec_SlabOk.f
 repeat' first
   | (with_reducible exact ih0 _ _ _ _)
   | (with_reducible exact ih1 _ _ _ _)
   | (with_reducible exact ih2 _ _ _ _)
   | (with_reducible exact ih3 _ _ _ _ _ _)
   | (with_reducible exact spec_l16Ahead.mono _ _ _ _)
   | (with_reducible exact spec_l16Head.mono _ _ _ _)
   | (with_reducible exact LeO.refl _)
   | (with_reducible exact LeO.none _)
   | (with_reducible refine LeO.ite ?_ ?_)
   | (with_reducible refine LeO.bind ?_ (fun _ => ?_))
   | exact ih0 _ _ _ _
   | exact ih1 _ _ _ _
   | exact ih2 _ _ _ _
   | exact ih3 _ _ _ _ _ _
   | exact spec_l16Ahead.mono _ _ _ _
   | exact spec_l16Head.mono _ _ _ _
   | exact LeO.none _
   | refine LeO.ite ?_ ?_
   | refine LeO.bind ?_ (fun _ => ?_)
def spec_SlabOk.T7 : Bool × List (List Nat × List Nat) := (true, [([], []), ([0], [0]), ([], []), ([1, 2], [1, 2]), ([3], [3]), ([4], [4]), ([5], [5]), ([6], [6]), ([7, 6], [6, 7]), ([6], [6]), ([8, 9, 6], [6, 8, 9]), ([10, 6], [6, 10]), ([6], [6]), ([11, 12, 6], [6, 11, 12]), ([6, 13], [6, 13]), ([14, 6], [14]), ([15], [15]), ([16, 15], [15, 16]), ([15], [15]), ([17, 18, 15], [15, 17, 18]), ([19, 15], [15, 19]), ([20, 15], [15, 20]), ([21, 15, 15], [15, 21]), ([22], [22]), ([22], [22]), ([24, 22], [22, 24]), ([22], [22]), ([25, 26, 22], [22, 25, 26]), ([27, 22], [22, 27]), ([23, 28, 22, 22], [22, 23, 28]), ([22], [22]), ([29, 30, 22], [22, 29, 30]), ([22, 31, 15], [15, 22, 31]), ([15, 32], [15, 32])])
def spec_SlabOk.B7 : List Nat := [0, 1, 0, 7, 15, 31, 63, 127, 255, 127, 1023, 2047, 127, 8191, 16383, 32767, 65535, 131071, 65535, 524287, 1048575, 2097151, 4194303, 8388607, 8388607, 25165823, 8388607, 125829119, 260046847, 536870911, 8388607, 2147483647, 4294967295, 8589934591]
theorem spec_SlabOk.tab7 : rtab .any (opsOf Try.f54 7) = spec_SlabOk.T7 := by kernel_rfl
theorem spec_SlabOk.bits7 : waitsOk spec_SlabOk.T7.2 spec_SlabOk.B7 = true := by kernel_rfl
set_option maxHeartbeats 8000000 in
set_option maxRecDepth 100000 in
theorem spec_SlabOk.calls (k : Nat) (a0_0 : Int) (A0_1 : Option Addr) (c0_1 : Nat) (l0_1 : List Int) (r : Bool) (w : World) (hr0_1 : Kd.C (Kd.int .i64) w A0_1 l0_1.length l0_1) (hc0_1 : l0_1.length ≤ c0_1) (h : spec_SlabOk.f k a0_0 l0_1 = some r) :
  Calls Try.prog 54 #[.agg #[.int .i64 a0_0, .slice A0_1 l0_1.length c0_1]] w fun e w' => e = .returned (.bool r) ∧ Below w.heap.size w w' := by
 have hu27 := Try.underlying27
 have HR0_1 := Aside0.mk hr0_1
 have HC0_1 := Aside0.mk hc0_1
 clear hr0_1 hc0_1; have HB := Aside0.mk (Below.refl w.heap.size w)
 have H : (if (l0_1.length : Int) > 128 then (spec_SlabOk.j0 k (l0_1.length : Int) true a0_0 l0_1) else (if a0_0 = (-1) then (spec_SlabOk.j0 k (l0_1.length : Int) false a0_0 l0_1) else ((spec_l16Head.f k a0_0 l0_1 a0_0).bind fun t262 => (spec_SlabOk.j0 k (l0_1.length : Int) (!t262) a0_0 l0_1)))) = some r := h
 clear h
 have HC2 := Aside0.mk H
 clear H
 go_enter Try.func54, Try.ntmps54
 go_upto_region 2 with (first | ((with_reducible refine gd_ 1 rfl ?_); refine bv_ 1 #[.int .i64 a0_0, .slice A0_1 l0_1.length c0_1] 27 ?_; intro gb261 hg w3 hbox hb; have BK261 := Aside0.mk (hbox); have GW261 := gw_ HB hg; have GE261 := gw_ HB hg; replace HB := Aside0.mk (below_step (be_ HB) hb); clear hb hbox hg; obtain ⟨hcz4_0, hcz4_1, hfz4_0, hfz4_1⟩ := bz2_ BK261))
 (try simp only [Act.put, ls0_, ls1_, ls2_])
 go_cut [24] (fun v24 wc => ∃ (kq : Nat) (x24_1 : Bool), v24 = .bool x24_1 ∧ Aside0 (spec_SlabOk.j0 kq (l0_1.length : Int) x24_1 a0_0 l0_1 = some r) ∧ Aside0 (kq ≤ k) ∧ Aside0 (wc.heap[gb261]? = some (.cells #[.int .i64 a0_0, (.slice A0_1 l0_1.length c0_1)] 27 (0, 0))) ∧ Aside0 (Below w.heap.size w wc))
 case first =>
  have H := HC2.out
  clear HC2
  by_cases c5 : (l0_1.length : Int) > 128
  ·rw [if_pos c5] at H
   have c5b0 : decide (128 < (l0_1.length : Int)) = true := decide_eq_true c5
   have c5b1 : decide (128 < l0_1.length) = true := decide_eq_true (by omega)
   clear c5
   (first | rw [c5b0] | (simp only [i64_w, i32_w]; rw [c5b0]) | skip)
   have H' := Aside0.mk H
   clear H
   go_wp2
   go_meet
   case rel => exact ⟨_, (true), (by first | rfl | (simp; done) | (simp [*]; done)), H', ⟨by first | omega | exact Nat.le_refl _⟩, ⟨bk_ BK261⟩, ⟨bf_ HB⟩⟩
  ·rw [if_neg c5] at H
   have c5b0 : decide (128 < (l0_1.length : Int)) = false := decide_eq_false c5
   have c5b1 : decide (128 < l0_1.length) = false := decide_eq_false (by omega)
   clear c5
   (first | rw [c5b0] | (simp only [i64_w, i32_w]; rw [c5b0]) | skip)
   by_cases c6 : a0_0 = (-1)
   ·rw [if_pos c6] at H
    have c6b0 : (a0_0 == (-1)) = true := beq_iff_eq.mpr c6
    have c6b1 : (a0_0 != (-1)) = false := bne_eq_false_iff_eq.mpr c6
    clear c6
    have H' := Aside0.mk H
    clear H; obtain ⟨hcz7_0, hcz7_1, hfz7_0, hfz7_1⟩ := bz2_ BK261
    go_wp2
    go_meet
    case rel => exact ⟨_, (false), (by first | rfl | (simp; done) | (simp [*]; done)), H', ⟨by first | omega | exact Nat.le_refl _⟩, ⟨bk_ BK261⟩, ⟨bf_ HB⟩⟩
   ·rw [if_neg c6] at H
    have c6b0 : (a0_0 == (-1)) = false := beq_eq_false_iff_ne.mpr c6
    have c6b1 : (a0_0 != (-1)) = true := bne_iff_ne.mpr c6
    replace H := Option.bind_eq_some_iff.mp H
    obtain ⟨t262, A80, H⟩ := H
    replace H : (spec_SlabOk.j0 k (l0_1.length : Int) (!t262) a0_0 l0_1) = some r := H
    have A8 := Aside0.mk A80
    clear A80
    have H' := Aside0.mk H
    clear H; obtain ⟨hcz9_0, hcz9_1, hfz9_0, hfz9_1⟩ := bz2_ BK261
    go_wp2_with (first | (go_at_call 119; (with_reducible refine (spec_l16Head.calls k a0_0 _ _ l0_1 a0_0 t262 _ ?side1 ?side2 A8.out).mono ?_); (case side1 => repeat (first | exact (Kd.C_below HR0_1.out HB.out) | (with_reducible refine Kd.C_alloc ?_ _) | (with_reducible refine Kd.C_drewN ?_ _) | (with_reducible refine Kd.C_drew ?_))); (case side2 => exact HC0_1.out); rintro e w10 ⟨rfl, hb⟩; replace BK261 := bb_ BK261 hb; replace HB := Aside0.mk (below_step (bf_ HB) hb); (try clear hb); (try clear hb2); (try clear hk); (try clear hi)))
    go_meet
    case rel => exact ⟨_, (!t262), (by first | rfl | (simp; done) | (simp [*]; done)), H', ⟨by first | omega | exact Nat.le_refl _⟩, ⟨bk_ BK261⟩, ⟨bf_ HB⟩⟩
 case rest =>
  clear HC2; (try clear p2); (try clear c5); (try clear c5b0); (try clear c5b1); (try clear c6); (try clear c6b0); (try clear c6b1); (try clear hcz4_0 hcz4_1 hfz4_0 hfz4_1); (try clear hcz7_0 hcz7_1 hfz7_0 hfz7_1); (try clear hcz9_0 hcz9_1 hfz9_0 hfz9_1)
  obtain ⟨kq, x24_1, rfl, HA, HJ1, BK261, HB⟩ := hcut
  cases kq with
  | zero => exact absurd HA.out (by simp [spec_SlabOk.j0])
  | succ kj1 =>
   have H := HA.out
   clear HA
   simp only [spec_SlabOk.j0] at H
   by_cases c11 : x24_1 = true
   ·subst c11
    have H1 : (some false) = some r := by rw [if_pos rfl] at H; exact H
    clear H
    have H := H1
    clear H1
    obtain rfl := Option.some.inj H
    go_wp2
    go_ret
    exact ⟨by first | rfl | (simp [errW_none, errW_some] <;> rfl) | (simp [*, errW_none, errW_some] <;> rfl), bf_ HB⟩
   ·replace c11 := Bool.eq_false_iff.mpr c11
    subst c11
    have H1 : (spec_SlabOk.l0 kj1 (l0_1.length : Int) 0 a0_0 l0_1) = some r := by rw [if_neg (show ¬ (false = true) by decide)] at H; exact H
    clear H
    have H := H1
    clear H1
    have H' := Aside0.mk H
    clear H
    go_wp2
    go_loopg [4] kj1 (fun kq v4 w' => ∃ (x4_2 : Int), v4 = .int .i64 x4_2 ∧ Aside0 (spec_SlabOk.l0 kq (l0_1.length : Int) x4_2 a0_0 l0_1 = some r) ∧ Aside0 (kq ≤ kj1) ∧ Aside0 (w'.heap[gb261]? = some (.cells #[.int .i64 a0_0, (.slice A0_1 l0_1.length c0_1)] 27 (0, 0))) ∧ Aside0 (Below w.heap.size w w'))
    case atStart => exact ⟨(0), (by first | rfl | (simp; done) | (simp [*]; done)), H', ⟨Nat.le_refl _⟩, ⟨bk_ BK261⟩, ⟨bf_ HB⟩⟩
    case round =>
     clear H'
     (try clear c1); (try clear p2 p2); (try clear c5); (try clear c5b0); (try clear c5b1); (try clear c6); (try clear c6b0); (try clear c6b1); (try clear c11); (try clear hcz4_0 hcz4_1 hfz4_0 hfz4_1); (try clear hcz7_0 hcz7_1 hfz7_0 hfz7_1); (try clear hcz9_0 hcz9_1 hfz9_0 hfz9_1)
     obtain ⟨x4_2, rfl, HA, HK2, BK261, HB⟩ := hrel
     cases gk with
     | zero => exact absurd HA.out (by simp [spec_SlabOk.l0])
     | succ k2 =>
      have H := HA.out
      clear HA
      simp only [spec_SlabOk.l0] at H
      by_cases c12 : x4_2 < (l0_1.length : Int)
      ·rw [if_pos c12] at H
       have c12b0 : decide (x4_2 < (l0_1.length : Int)) = true := decide_eq_true c12
       clear c12
       by_cases c13 : 0 ≤ x4_2
       ·rw [if_pos c13] at H
        have c13b0 : decide (0 ≤ x4_2) = true := decide_eq_true c13
        clear c13
        by_cases c14 : x4_2 < (l0_1.length : Int)
        ·rw [if_pos c14] at H
         have c14b0 : decide (x4_2 < (l0_1.length : Int)) = true := decide_eq_true c14
         clear c14
         by_cases c15 : (rd l0_1 x4_2) < (-1)
         ·rw [if_pos c15] at H
          have c15b0 : decide ((rd l0_1 x4_2) < (-1)) = true := decide_eq_true c15
          clear c15
          obtain rfl := Option.some.inj H
          try go_wp2
          replace BK261 := Aside0.mk (blk_drew BK261.out); replace HB := Aside0.mk (below_drew1 HB.out)
          have p263 : 0 ≤ (x4_2 : Int) := od_
          have q263 : x4_2 < (l0_1.length : Int) := od_
          obtain ⟨ad263, e263, hx263_0⟩ := Kd.at_int HR0_1.out x4_2 p263 q263
          have hw263_0 := hx263_0
          cases e263
          replace hx263_0 := hb_ HB hx263_0
          replace p263 := eq_true p263
          replace q263 := eq_true q263
          refine start_ (n := 34) (S := fun w' => cw_ w' gb261 0 (.int .i64 a0_0) ∧ cw_ w' gb261 1 (.slice (some ad263) l0_1.length c0_1) ∧ w'.cell? (ad263.add (x4_2).toNat) = some (.int .i64 (rd l0_1 x4_2))) (ds := []) (bs 34 0) (by kernel_rfl) rfl rfl ⟨bt_ BK261 0, bt_ BK261 1, (hd_ HB hw263_0)⟩ (fun hHeld => ?_); refine with_tabW spec_SlabOk.tab7 spec_SlabOk.bits7 (fun HT_ HW_ => ?_)
          generalize wr.drew = w16 at BK261 HB hx263_0 hHeld ⊢
          refine ps_ 0 30 (bs 34 1) HT_ ?_
          refine ps_ 2 32 (bm 34 5) HT_ ?_
          refine tk_ 1 31 (bs 34 3) HT_ HW_ hHeld ?_
          refine ps_ 3 33 (bs 34 4) HT_ ?_
          refine tk_ 4 34 (bs 34 5) HT_ HW_ hHeld ?_
          refine ps_ 5 35 (bs 34 6) HT_ ?_
          refine ps_ 6 36 (bs 34 7) HT_ ?_
          refine pu_ 7 37 (bs 34 8) HT_ ?_
          refine pu_ 8 38 (bs 34 9) HT_ ?_
          refine pu_ 9 39 (bs 34 10) HT_ ?_
          refine pu_ 10 40 (bs 34 11) HT_ ?_
          refine pu_ 11 41 (bs 34 12) HT_ ?_
          refine pu_ 12 42 (bs 34 13) HT_ ?_
          refine pu_ 13 43 (bs 34 14) HT_ ?_
          refine ps_ 14 44 (bs 34 15) HT_ ?_
          refine ps_ 15 45 (bs 34 16) HT_ ?_
          refine pu_ 16 46 (bs 34 17) HT_ ?_
          refine pu_ 17 47 (bs 34 18) HT_ ?_
          refine pu_ 18 48 (bs 34 19) HT_ ?_
          refine pu_ 19 49 (bs 34 20) HT_ ?_
          refine pu_ 20 50 (bs 34 21) HT_ ?_
          refine pu_ 21 51 (bs 34 22) HT_ ?_
          refine pu_ 22 52 (bs 34 23) HT_ ?_
          refine pu_ 23 53 (bs 34 24) HT_ ?_
          refine pu_ 24 54 (bs 34 25) HT_ ?_
          refine pu_ 25 55 (bs 34 26) HT_ ?_
          refine pu_ 26 56 (bs 34 27) HT_ ?_
          refine pu_ 27 57 (bs 34 28) HT_ ?_
          refine pu_ 28 58 (bs 34 29) HT_ ?_
          refine pu_ 29 59 (bs 34 30) HT_ ?_
          refine pu_ 30 60 (bs 34 31) HT_ ?_
          refine pu_ 31 61 (bs 34 32) HT_ ?_
          refine pu_ 32 62 (bs 34 33) HT_ ?_
          refine ps_ 33 63 (bs 34 34) HT_ ?_
          refine done_ (done_of HT_.out (by kernel_rfl)) ?_
          try go_wp2
          go_ret
          exact ⟨by first | rfl | (simp [errW_none, errW_some] <;> rfl) | (simp [*, errW_none, errW_some] <;> rfl), bf_ HB⟩
         ·rw [if_neg c15] at H
          have c15b0 : decide ((rd l0_1 x4_2) < (-1)) = false := decide_eq_false c15
          clear c15
          by_cases c17 : (rd l0_1 x4_2) ≥ (l0_1.length : Int)
          ·rw [if_pos c17] at H
           have c17b0 : decide ((l0_1.length : Int) ≤ (rd l0_1 x4_2)) = true := decide_eq_true c17
           clear c17
           obtain rfl := Option.some.inj H
           try go_wp2
           replace BK261 := Aside0.mk (blk_drew BK261.out); replace HB := Aside0.mk (below_drew1 HB.out)
           have p263 : 0 ≤ (x4_2 : Int) := od_
           have q263 : x4_2 < (l0_1.length : Int) := od_
           obtain ⟨ad263, e263, hx263_0⟩ := Kd.at_int HR0_1.out x4_2 p263 q263
           have hw263_0 := hx263_0
           cases e263
           replace hx263_0 := hb_ HB hx263_0
           replace p263 := eq_true p263
           replace q263 := eq_true q263
           have p264 : 0 ≤ (x4_2 : Int) := od_
           have q264 : x4_2 < (l0_1.length : Int) := od_
           obtain ⟨ad264, e264, hx264_0⟩ := Kd.at_int HR0_1.out x4_2 p264 q264
           have hw264_0 := hx264_0
           obtain rfl : ad263 = ad264 := (by injection e264)
           replace hx264_0 := hb_ HB hx264_0
           replace p264 := eq_true p264
           replace q264 := eq_true q264
           refine start_ (n := 34) (S := fun w' => cw_ w' gb261 0 (.int .i64 a0_0) ∧ cw_ w' gb261 1 (.slice (some ad263) l0_1.length c0_1) ∧ w'.cell? (ad263.add (x4_2).toNat) = some (.int .i64 (rd l0_1 x4_2)) ∧ w'.cell? (ad263.add (x4_2).toNat) = some (.int .i64 (rd l0_1 x4_2))) (ds := []) (bs 34 0) (by kernel_rfl) rfl rfl ⟨bt_ BK261 0, bt_ BK261 1, (hd_ HB hw263_0), (hd_ HB hw264_0)⟩ (fun hHeld => ?_); refine with_tabW spec_SlabOk.tab7 spec_SlabOk.bits7 (fun HT_ HW_ => ?_)
           generalize wr.drew = w18 at BK261 HB hx263_0 hx264_0 hHeld ⊢
           refine ps_ 0 30 (bs 34 1) HT_ ?_
           refine ps_ 2 32 (bm 34 5) HT_ ?_
           refine tk_ 1 31 (bs 34 3) HT_ HW_ hHeld ?_
           refine ps_ 3 33 (bs 34 4) HT_ ?_
           refine tk_ 4 34 (bs 34 5) HT_ HW_ hHeld ?_
           refine ps_ 5 35 (bs 34 6) HT_ ?_
           refine ps_ 6 36 (bs 34 7) HT_ ?_
           refine ps_ 7 37 (bs 34 8) HT_ ?_
           refine ps_ 9 39 (bm 34 767) HT_ ?_
           refine ps_ 12 42 (bm 34 4863) HT_ ?_
           refine tk_ 8 38 (bm 34 5119) HT_ HW_ hHeld ?_
           refine ps_ 10 40 (bm 34 6143) HT_ ?_
           refine tk_ 11 41 (bs 34 13) HT_ HW_ hHeld ?_
           refine ps_ 13 43 (bs 34 14) HT_ ?_
           refine ps_ 14 44 (bs 34 15) HT_ ?_
           refine ps_ 15 45 (bs 34 16) HT_ ?_
           refine pu_ 16 46 (bs 34 17) HT_ ?_
           refine pu_ 17 47 (bs 34 18) HT_ ?_
           refine pu_ 18 48 (bs 34 19) HT_ ?_
           refine pu_ 19 49 (bs 34 20) HT_ ?_
           refine pu_ 20 50 (bs 34 21) HT_ ?_
           refine pu_ 21 51 (bs 34 22) HT_ ?_
           refine pu_ 22 52 (bs 34 23) HT_ ?_
           refine pu_ 23 53 (bs 34 24) HT_ ?_
           refine pu_ 24 54 (bs 34 25) HT_ ?_
           refine pu_ 25 55 (bs 34 26) HT_ ?_
           refine pu_ 26 56 (bs 34 27) HT_ ?_
           refine pu_ 27 57 (bs 34 28) HT_ ?_
           refine pu_ 28 58 (bs 34 29) HT_ ?_
           refine pu_ 29 59 (bs 34 30) HT_ ?_
           refine pu_ 30 60 (bs 34 31) HT_ ?_
           refine pu_ 31 61 (bs 34 32) HT_ ?_
           refine pu_ 32 62 (bs 34 33) HT_ ?_
           refine ps_ 33 63 (bs 34 34) HT_ ?_
           refine done_ (done_of HT_.out (by kernel_rfl)) ?_
           try go_wp2
           go_ret
           exact ⟨by first | rfl | (simp [errW_none, errW_some] <;> rfl) | (simp [*, errW_none, errW_some] <;> rfl), bf_ HB⟩
          ·rw [if_neg c17] at H
           have c17b0 : decide ((l0_1.length : Int) ≤ (rd l0_1 x4_2)) = false := decide_eq_false c17
           clear c17
           by_cases c19 : (rd l0_1 x4_2) ≥ 0
           ·rw [if_pos c19] at H
            have c19b0 : decide (0 ≤ (rd l0_1 x4_2)) = true := decide_eq_true c19
            clear c19
            replace H := Option.bind_eq_some_iff.mp H
            obtain ⟨t267, A200, H⟩ := H
            replace H : (if t267 = x4_2 then (spec_SlabOk.l0 k2 (l0_1.length : Int) (wrap64 (x4_2 + 1)) a0_0 l0_1) else (some false)) = some r := H
            have A20 := Aside0.mk A200
            clear A200
            by_cases c21 : t267 = x4_2
            ·rw [if_pos c21] at H
             have c21b0 : (t267 == x4_2) = true := beq_iff_eq.mpr c21
             have c21b1 : (t267 != x4_2) = false := bne_eq_false_iff_eq.mpr c21
             clear c21
             have H' := Aside0.mk H
             clear H
             try go_wp2
             replace BK261 := Aside0.mk (blk_drew BK261.out); replace HB := Aside0.mk (below_drew1 HB.out)
             have p263 : 0 ≤ (x4_2 : Int) := od_
             have q263 : x4_2 < (l0_1.length : Int) := od_
             obtain ⟨ad263, e263, hx263_0⟩ := Kd.at_int HR0_1.out x4_2 p263 q263
             have hw263_0 := hx263_0
             cases e263
             replace hx263_0 := hb_ HB hx263_0
             replace p263 := eq_true p263
             replace q263 := eq_true q263
             have p264 : 0 ≤ (x4_2 : Int) := od_
             have q264 : x4_2 < (l0_1.length : Int) := od_
             obtain ⟨ad264, e264, hx264_0⟩ := Kd.at_int HR0_1.out x4_2 p264 q264
             have hw264_0 := hx264_0
             obtain rfl : ad263 = ad264 := (by injection e264)
             replace hx264_0 := hb_ HB hx264_0
             replace p264 := eq_true p264
             replace q264 := eq_true q264
             have p265 : 0 ≤ (x4_2 : Int) := od_
             have q265 : x4_2 < (l0_1.length : Int) := od_
             obtain ⟨ad265, e265, hx265_0⟩ := Kd.at_int HR0_1.out x4_2 p265 q265
             have hw265_0 := hx265_0
             obtain rfl : ad263 = ad265 := (by injection e265)
             replace hx265_0 := hb_ HB hx265_0
             replace p265 := eq_true p265
             replace q265 := eq_true q265
             have p266 : 0 ≤ (x4_2 : Int) := od_
             have q266 : x4_2 < (l0_1.length : Int) := od_
             obtain ⟨ad266, e266, hx266_0⟩ := Kd.at_int HR0_1.out x4_2 p266 q266
             have hw266_0 := hx266_0
             obtain rfl : ad263 = ad266 := (by injection e266)
             replace hx266_0 := hb_ HB hx266_0
             replace p266 := eq_true p266
             replace q266 := eq_true q266
             refine start_ (n := 34) (S := fun w' => cw_ w' gb261 0 (.int .i64 a0_0) ∧ cw_ w' gb261 1 (.slice (some ad263) l0_1.length c0_1) ∧ w'.cell? (ad263.add (x4_2).toNat) = some (.int .i64 (rd l0_1 x4_2)) ∧ w'.cell? (ad263.add (x4_2).toNat) = some (.int .i64 (rd l0_1 x4_2)) ∧ w'.cell? (ad263.add (x4_2).toNat) = some (.int .i64 (rd l0_1 x4_2)) ∧ w'.cell? (ad263.add (x4_2).toNat) = some (.int .i64 (rd l0_1 x4_2))) (ds := []) (bs 34 0) (by kernel_rfl) rfl rfl ⟨bt_ BK261 0, bt_ BK261 1, (hd_ HB hw263_0), (hd_ HB hw264_0), (hd_ HB hw265_0), (hd_ HB hw266_0)⟩ (fun hHeld => ?_); refine with_tabW spec_SlabOk.tab7 spec_SlabOk.bits7 (fun HT_ HW_ => ?_)
             generalize wr.drew = w22 at BK261 HB hx263_0 hx264_0 hx265_0 hx266_0 hHeld ⊢
             refine ps_ 0 30 (bs 34 1) HT_ ?_
             refine ps_ 2 32 (bm 34 5) HT_ ?_
             refine tk_ 1 31 (bs 34 3) HT_ HW_ hHeld ?_
             refine ps_ 3 33 (bs 34 4) HT_ ?_
             refine tk_ 4 34 (bs 34 5) HT_ HW_ hHeld ?_
             refine ps_ 5 35 (bs 34 6) HT_ ?_
             refine ps_ 6 36 (bs 34 7) HT_ ?_
             refine ps_ 7 37 (bs 34 8) HT_ ?_
             refine ps_ 9 39 (bm 34 767) HT_ ?_
             refine ps_ 12 42 (bm 34 4863) HT_ ?_
             refine tk_ 8 38 (bm 34 5119) HT_ HW_ hHeld ?_
             refine ps_ 10 40 (bm 34 6143) HT_ ?_
             refine tk_ 11 41 (bs 34 13) HT_ HW_ hHeld ?_
             refine ps_ 13 43 (bs 34 14) HT_ ?_
             refine ps_ 14 44 (bs 34 15) HT_ ?_
             refine ps_ 15 45 (bs 34 16) HT_ ?_
             refine ps_ 16 46 (bs 34 17) HT_ ?_
             refine ps_ 18 48 (bm 34 393215) HT_ ?_
             refine tk_ 17 47 (bs 34 19) HT_ HW_ hHeld ?_
             refine ps_ 19 49 (bs 34 20) HT_ ?_
             refine tk_ 20 50 (bs 34 21) HT_ HW_ hHeld ?_
             refine ps_ 21 51 (bs 34 22) HT_ ?_
             refine ps_ 22 52 (bs 34 23) HT_ ?_
             refine ps_ 24 54 (bm 34 25165823) HT_ ?_
             refine ps_ 26 56 (bm 34 92274687) HT_ ?_
             refine ps_ 30 60 (bm 34 1166016511) HT_ ?_
             refine tk_ 23 53 (bm 34 1174405119) HT_ HW_ hHeld ?_
             refine tk_ 25 55 (bm 34 1207959551) HT_ HW_ hHeld ?_
             refine ps_ 27 57 (bm 34 1342177279) HT_ ?_
             refine tk_ 28 58 (bm 34 1610612735) HT_ HW_ hHeld ?_
             refine on_ 29 (some 59) (bs 34 31) HT_ (fun K hK => ?_)
             refine gs_ Try.func120 #[.agg #[.int .i64 a0_0, .slice (some ad263) l0_1.length c0_1], .int .i64 (rd l0_1 x4_2)] ?_
             with_reducible refine (spec_l16Ahead.calls k2 a0_0 _ _ l0_1 (rd l0_1 x4_2) t267 _ ?side1 ?side2 A20.out).mono ?_
             (case side1 => repeat (first | exact (Kd.C_below HR0_1.out HB.out) | (with_reducible refine Kd.C_alloc ?_ _) | (with_reducible refine Kd.C_drewN ?_ _) | (with_reducible refine Kd.C_drew ?_)))
             (case side2 => exact HC0_1.out)
             rintro e w23 ⟨rfl, hb⟩
             refine ⟨_, rfl, ?_⟩
             replace BK261 := bb_ BK261 hb; replace HB := Aside0.mk (below_step (bf_ HB) hb); (try clear hb); (try clear hb2); (try clear hk); (try clear hi)
             refine hK.out _ _ ⟨bt_ BK261 0, bt_ BK261 1, (hd_ HB hw263_0), (hd_ HB hw264_0), (hd_ HB hw265_0), (hd_ HB hw266_0)⟩ (fun hHeld => ?_)
             clear hK K
             refine norm_ (a' := ?_) ?_ ?_
             rotate_left
             ·show Act.put _ (some 59) _ = _
              simp only [Act.put, ls0_, ls1_, ls2_, i64_w, i32_w]
              rfl
             refine ps_ 31 61 (bs 34 32) HT_ ?_
             refine ps_ 32 62 (bs 34 33) HT_ ?_
             refine ps_ 33 63 (bs 34 34) HT_ ?_
             refine done_ (done_of HT_.out (by kernel_rfl)) ?_
             try go_wp2
             go_roundg k2
             case measure => have := HJ1.out; have := HK2.out; omega
             case rel => exact ⟨(wrap64 (x4_2 + 1)), (by first | rfl | (simp; done) | (simp [*]; done)), H', ⟨by have := HJ1.out; have := HK2.out; omega⟩, ⟨bk_ BK261⟩, ⟨bf_ HB⟩⟩
            ·rw [if_neg c21] at H
             have c21b0 : (t267 == x4_2) = false := beq_eq_false_iff_ne.mpr c21
             have c21b1 : (t267 != x4_2) = true := bne_iff_ne.mpr c21
             obtain rfl := Option.some.inj H
             try go_wp2
             replace BK261 := Aside0.mk (blk_drew BK261.out); replace HB := Aside0.mk (below_drew1 HB.out)
             have p263 : 0 ≤ (x4_2 : Int) := od_
             have q263 : x4_2 < (l0_1.length : Int) := od_
             obtain ⟨ad263, e263, hx263_0⟩ := Kd.at_int HR0_1.out x4_2 p263 q263
             have hw263_0 := hx263_0
             cases e263
             replace hx263_0 := hb_ HB hx263_0
             replace p263 := eq_true p263
             replace q263 := eq_true q263
             have p264 : 0 ≤ (x4_2 : Int) := od_
             have q264 : x4_2 < (l0_1.length : Int) := od_
             obtain ⟨ad264, e264, hx264_0⟩ := Kd.at_int HR0_1.out x4_2 p264 q264
             have hw264_0 := hx264_0
             obtain rfl : ad263 = ad264 := (by injection e264)
             replace hx264_0 := hb_ HB hx264_0
             replace p264 := eq_true p264
             replace q264 := eq_true q264
             have p265 : 0 ≤ (x4_2 : Int) := od_
             have q265 : x4_2 < (l0_1.length : Int) := od_
             obtain ⟨ad265, e265, hx265_0⟩ := Kd.at_int HR0_1.out x4_2 p265 q265
             have hw265_0 := hx265_0
             obtain rfl : ad263 = ad265 := (by injection e265)
             replace hx265_0 := hb_ HB hx265_0
             replace p265 := eq_true p265
             replace q265 := eq_true q265
             have p266 : 0 ≤ (x4_2 : Int) := od_
             have q266 : x4_2 < (l0_1.length : Int) := od_
             obtain ⟨ad266, e266, hx266_0⟩ := Kd.at_int HR0_1.out x4_2 p266 q266
             have hw266_0 := hx266_0
             obtain rfl : ad263 = ad266 := (by injection e266)
             replace hx266_0 := hb_ HB hx266_0
             replace p266 := eq_true p266
             replace q266 := eq_true q266
             refine start_ (n := 34) (S := fun w' => cw_ w' gb261 0 (.int .i64 a0_0) ∧ cw_ w' gb261 1 (.slice (some ad263) l0_1.length c0_1) ∧ w'.cell? (ad263.add (x4_2).toNat) = some (.int .i64 (rd l0_1 x4_2)) ∧ w'.cell? (ad263.add (x4_2).toNat) = some (.int .i64 (rd l0_1 x4_2)) ∧ w'.cell? (ad263.add (x4_2).toNat) = some (.int .i64 (rd l0_1 x4_2)) ∧ w'.cell? (ad263.add (x4_2).toNat) = some (.int .i64 (rd l0_1 x4_2))) (ds := []) (bs 34 0) (by kernel_rfl) rfl rfl ⟨bt_ BK261 0, bt_ BK261 1, (hd_ HB hw263_0), (hd_ HB hw264_0), (hd_ HB hw265_0), (hd_ HB hw266_0)⟩ (fun hHeld => ?_); refine with_tabW spec_SlabOk.tab7 spec_SlabOk.bits7 (fun HT_ HW_ => ?_)
             generalize wr.drew = w24 at BK261 HB hx263_0 hx264_0 hx265_0 hx266_0 hHeld ⊢
             refine ps_ 0 30 (bs 34 1) HT_ ?_
             refine ps_ 2 32 (bm 34 5) HT_ ?_
             refine tk_ 1 31 (bs 34 3) HT_ HW_ hHeld ?_
             refine ps_ 3 33 (bs 34 4) HT_ ?_
             refine tk_ 4 34 (bs 34 5) HT_ HW_ hHeld ?_
             refine ps_ 5 35 (bs 34 6) HT_ ?_
             refine ps_ 6 36 (bs 34 7) HT_ ?_
             refine ps_ 7 37 (bs 34 8) HT_ ?_
             refine ps_ 9 39 (bm 34 767) HT_ ?_
             refine ps_ 12 42 (bm 34 4863) HT_ ?_
             refine tk_ 8 38 (bm 34 5119) HT_ HW_ hHeld ?_
             refine ps_ 10 40 (bm 34 6143) HT_ ?_
             refine tk_ 11 41 (bs 34 13) HT_ HW_ hHeld ?_
             refine ps_ 13 43 (bs 34 14) HT_ ?_
             refine ps_ 14 44 (bs 34 15) HT_ ?_
             refine ps_ 15 45 (bs 34 16) HT_ ?_
             refine ps_ 16 46 (bs 34 17) HT_ ?_
             refine ps_ 18 48 (bm 34 393215) HT_ ?_
             refine tk_ 17 47 (bs 34 19) HT_ HW_ hHeld ?_
             refine ps_ 19 49 (bs 34 20) HT_ ?_
             refine tk_ 20 50 (bs 34 21) HT_ HW_ hHeld ?_
             refine ps_ 21 51 (bs 34 22) HT_ ?_
             refine ps_ 22 52 (bs 34 23) HT_ ?_
             refine ps_ 24 54 (bm 34 25165823) HT_ ?_
             refine ps_ 26 56 (bm 34 92274687) HT_ ?_
             refine ps_ 30 60 (bm 34 1166016511) HT_ ?_
             refine tk_ 23 53 (bm 34 1174405119) HT_ HW_ hHeld ?_
             refine tk_ 25 55 (bm 34 1207959551) HT_ HW_ hHeld ?_
             refine ps_ 27 57 (bm 34 1342177279) HT_ ?_
             refine tk_ 28 58 (bm 34 1610612735) HT_ HW_ hHeld ?_
             refine on_ 29 (some 59) (bs 34 31) HT_ (fun K hK => ?_)
             refine gs_ Try.func120 #[.agg #[.int .i64 a0_0, .slice (some ad263) l0_1.length c0_1], .int .i64 (rd l0_1 x4_2)] ?_
             with_reducible refine (spec_l16Ahead.calls k2 a0_0 _ _ l0_1 (rd l0_1 x4_2) t267 _ ?side1 ?side2 A20.out).mono ?_
             (case side1 => repeat (first | exact (Kd.C_below HR0_1.out HB.out) | (with_reducible refine Kd.C_alloc ?_ _) | (with_reducible refine Kd.C_drewN ?_ _) | (with_reducible refine Kd.C_drew ?_)))
             (case side2 => exact HC0_1.out)
             rintro e w25 ⟨rfl, hb⟩
             refine ⟨_, rfl, ?_⟩
             replace BK261 := bb_ BK261 hb; replace HB := Aside0.mk (below_step (bf_ HB) hb); (try clear hb); (try clear hb2); (try clear hk); (try clear hi)
             refine hK.out _ _ ⟨bt_ BK261 0, bt_ BK261 1, (hd_ HB hw263_0), (hd_ HB hw264_0), (hd_ HB hw265_0), (hd_ HB hw266_0)⟩ (fun hHeld => ?_)
             clear hK K
             refine norm_ (a' := ?_) ?_ ?_
             rotate_left
             ·show Act.put _ (some 59) _ = _
              simp only [Act.put, ls0_, ls1_, ls2_, i64_w, i32_w]
              rfl
             refine ps_ 31 61 (bs 34 32) HT_ ?_
             refine ps_ 32 62 (bs 34 33) HT_ ?_
             refine ps_ 33 63 (bs 34 34) HT_ ?_
             refine done_ (done_of HT_.out (by kernel_rfl)) ?_
             try go_wp2
             go_ret
             exact ⟨by first | rfl | (simp [errW_none, errW_some] <;> rfl) | (simp [*, errW_none, errW_some] <;> rfl), bf_ HB⟩
           ·rw [if_neg c19] at H
            have c19b0 : decide (0 ≤ (rd l0_1 x4_2)) = false := decide_eq_false c19
            clear c19
            have H' := Aside0.mk H
            clear H
            try go_wp2
            replace BK261 := Aside0.mk (blk_drew BK261.out); replace HB := Aside0.mk (below_drew1 HB.out)
            have p263 : 0 ≤ (x4_2 : Int) := od_
            have q263 : x4_2 < (l0_1.length : Int) := od_
            obtain ⟨ad263, e263, hx263_0⟩ := Kd.at_int HR0_1.out x4_2 p263 q263
            have hw263_0 := hx263_0
            cases e263
            replace hx263_0 := hb_ HB hx263_0
            replace p263 := eq_true p263
            replace q263 := eq_true q263
            have p264 : 0 ≤ (x4_2 : Int) := od_
            have q264 : x4_2 < (l0_1.length : Int) := od_
            obtain ⟨ad264, e264, hx264_0⟩ := Kd.at_int HR0_1.out x4_2 p264 q264
            have hw264_0 := hx264_0
            obtain rfl : ad263 = ad264 := (by injection e264)
            replace hx264_0 := hb_ HB hx264_0
            replace p264 := eq_true p264
            replace q264 := eq_true q264
            have p265 : 0 ≤ (x4_2 : Int) := od_
            have q265 : x4_2 < (l0_1.length : Int) := od_
            obtain ⟨ad265, e265, hx265_0⟩ := Kd.at_int HR0_1.out x4_2 p265 q265
            have hw265_0 := hx265_0
            obtain rfl : ad263 = ad265 := (by injection e265)
            replace hx265_0 := hb_ HB hx265_0
            replace p265 := eq_true p265
            replace q265 := eq_true q265
            refine start_ (n := 34) (S := fun w' => cw_ w' gb261 0 (.int .i64 a0_0) ∧ cw_ w' gb261 1 (.slice (some ad263) l0_1.length c0_1) ∧ w'.cell? (ad263.add (x4_2).toNat) = some (.int .i64 (rd l0_1 x4_2)) ∧ w'.cell? (ad263.add (x4_2).toNat) = some (.int .i64 (rd l0_1 x4_2)) ∧ w'.cell? (ad263.add (x4_2).toNat) = some (.int .i64 (rd l0_1 x4_2))) (ds := []) (bs 34 0) (by kernel_rfl) rfl rfl ⟨bt_ BK261 0, bt_ BK261 1, (hd_ HB hw263_0), (hd_ HB hw264_0), (hd_ HB hw265_0)⟩ (fun hHeld => ?_); refine with_tabW spec_SlabOk.tab7 spec_SlabOk.bits7 (fun HT_ HW_ => ?_)
            generalize wr.drew = w26 at BK261 HB hx263_0 hx264_0 hx265_0 hHeld ⊢
            refine ps_ 0 30 (bs 34 1) HT_ ?_
            refine ps_ 2 32 (bm 34 5) HT_ ?_
            refine tk_ 1 31 (bs 34 3) HT_ HW_ hHeld ?_
            refine ps_ 3 33 (bs 34 4) HT_ ?_
            refine tk_ 4 34 (bs 34 5) HT_ HW_ hHeld ?_
            refine ps_ 5 35 (bs 34 6) HT_ ?_
            refine ps_ 6 36 (bs 34 7) HT_ ?_
            refine ps_ 7 37 (bs 34 8) HT_ ?_
            refine ps_ 9 39 (bm 34 767) HT_ ?_
            refine ps_ 12 42 (bm 34 4863) HT_ ?_
            refine tk_ 8 38 (bm 34 5119) HT_ HW_ hHeld ?_
            refine ps_ 10 40 (bm 34 6143) HT_ ?_
            refine tk_ 11 41 (bs 34 13) HT_ HW_ hHeld ?_
            refine ps_ 13 43 (bs 34 14) HT_ ?_
            refine ps_ 14 44 (bs 34 15) HT_ ?_
            refine ps_ 15 45 (bs 34 16) HT_ ?_
            refine ps_ 16 46 (bs 34 17) HT_ ?_
            refine ps_ 18 48 (bm 34 393215) HT_ ?_
            refine tk_ 17 47 (bs 34 19) HT_ HW_ hHeld ?_
            refine ps_ 19 49 (bs 34 20) HT_ ?_
            refine tk_ 20 50 (bs 34 21) HT_ HW_ hHeld ?_
            refine ps_ 21 51 (bs 34 22) HT_ ?_
            refine ps_ 22 52 (bs 34 23) HT_ ?_
            refine pu_ 23 53 (bs 34 24) HT_ ?_
            refine pu_ 24 54 (bs 34 25) HT_ ?_
            refine pu_ 25 55 (bs 34 26) HT_ ?_
            refine pu_ 26 56 (bs 34 27) HT_ ?_
            refine pu_ 27 57 (bs 34 28) HT_ ?_
            refine pu_ 28 58 (bs 34 29) HT_ ?_
            refine pu_ 29 59 (bs 34 30) HT_ ?_
            refine pu_ 30 60 (bs 34 31) HT_ ?_
            refine pu_ 31 61 (bs 34 32) HT_ ?_
            refine ps_ 32 62 (bs 34 33) HT_ ?_
            refine ps_ 33 63 (bs 34 34) HT_ ?_
            refine done_ (done_of HT_.out (by kernel_rfl)) ?_
            try go_wp2
            go_roundg k2
            case measure => have := HJ1.out; have := HK2.out; omega
            case rel => exact ⟨(wrap64 (x4_2 + 1)), (by first | rfl | (simp; done) | (simp [*]; done)), H', ⟨by have := HJ1.out; have := HK2.out; omega⟩, ⟨bk_ BK261⟩, ⟨bf_ HB⟩⟩
        ·rw [if_neg c14] at H
         exact absurd H (by simp)
       ·rw [if_neg c13] at H
        exact absurd H (by simp)
      ·rw [if_neg c12] at H
       have c12b0 : decide (x4_2 < (l0_1.length : Int)) = false := decide_eq_false c12
       clear c12
       have H' := Aside0.mk H
       clear H
       go_wp2
       go_loopg [5] k2 (fun kq v5 w' => ∃ (x5_3 : Int), v5 = .int .i64 x5_3 ∧ Aside0 (spec_SlabOk.l1 kq (l0_1.length : Int) x5_3 a0_0 l0_1 = some r) ∧ Aside0 (kq ≤ k2) ∧ Aside0 (w'.heap[gb261]? = some (.cells #[.int .i64 a0_0, (.slice A0_1 l0_1.length c0_1)] 27 (0, 0))) ∧ Aside0 (Below w.heap.size w w'))
       case atStart => exact ⟨(0), (by first | rfl | (simp; done) | (simp [*]; done)), H', ⟨Nat.le_refl _⟩, ⟨bk_ BK261⟩, ⟨bf_ HB⟩⟩
       case round =>
        clear H'
        (try clear c1); (try clear p2); (try clear q2); (try clear hx2); (try clear p6); (try clear c12); (try clear c12b0); (try clear c13); (try clear c14); (try clear c19); (try clear c19b0); (try clear p26); (try clear q26); (try clear hx26); (try clear hx263_0); (try clear hx264_0); (try clear hx265_0); (try clear hx266_0); (try clear p263); (try clear p264); (try clear p265); (try clear p266); (try clear q263); (try clear q264); (try clear q265); (try clear q266)
        obtain ⟨x5_3, rfl, HA, HK3, BK261, HB⟩ := hrel
        cases gk with
        | zero => exact absurd HA.out (by simp [spec_SlabOk.l1])
        | succ k3 =>
         have H := HA.out
         clear HA
         simp only [spec_SlabOk.l1] at H
         by_cases c27 : x5_3 < (l0_1.length : Int)
         ·rw [if_pos c27] at H
          have c27b0 : decide (x5_3 < (l0_1.length : Int)) = true := decide_eq_true c27
          clear c27
          have H' := Aside0.mk H
          clear H
          go_wp2
          go_loopg [6, 7] k3 (fun kq v6 v7 w' => ∃ (x6_4 : Int) (x7_4 : Int), v6 = .int .i64 x6_4 ∧ v7 = .int .i64 x7_4 ∧ Aside0 (spec_SlabOk.l2 kq (l0_1.length : Int) x5_3 x6_4 x7_4 a0_0 l0_1 = some r) ∧ Aside0 (kq ≤ k3) ∧ Aside0 (w'.heap[gb261]? = some (.cells #[.int .i64 a0_0, (.slice A0_1 l0_1.length c0_1)] 27 (0, 0))) ∧ Aside0 (Below w.heap.size w w'))
          case atStart => exact ⟨(x5_3), (0), (by first | rfl | (simp; done) | (simp [*]; done)), (by first | rfl | (simp; done) | (simp [*]; done)), H', ⟨Nat.le_refl _⟩, ⟨bk_ BK261⟩, ⟨bf_ HB⟩⟩
          case round =>
           clear H'
           (try clear c1); (try clear c2); (try clear p2 p2); (try clear q2 q2); (try clear hx2); (try clear p6 p6); (try clear c12); (try clear c12b0); (try clear c13); (try clear c14); (try clear c19); (try clear c19b0); (try clear p26 p26); (try clear q26 q26); (try clear hx26); (try clear c27); (try clear c27b0); (try clear hx263_0); (try clear hx264_0); (try clear hx265_0); (try clear hx266_0); (try clear p263); (try clear p264); (try clear p265); (try clear p266); (try clear q263); (try clear q264); (try clear q265); (try clear q266)
           obtain ⟨x6_4, x7_4, rfl, rfl, HA, HK4, BK261, HB⟩ := hrel
           cases gk with
           | zero => exact absurd HA.out (by simp [spec_SlabOk.l2])
           | succ k4 =>
            have H := HA.out
            clear HA
            simp only [spec_SlabOk.l2] at H
            by_cases c28 : x7_4 < (l0_1.length : Int)
            ·rw [if_pos c28] at H
             have c28b0 : decide (x7_4 < (l0_1.length : Int)) = true := decide_eq_true c28
             clear c28
             by_cases c29 : x6_4 ≥ 0
             ·rw [if_pos c29] at H
              have c29b0 : decide (0 ≤ x6_4) = true := decide_eq_true c29
              clear c29
              by_cases c30 : 0 ≤ x6_4
              ·rw [if_pos c30] at H
               have c30b0 : decide (0 ≤ x6_4) = true := decide_eq_true c30
               clear c30
               by_cases c31 : x6_4 < (l0_1.length : Int)
               ·rw [if_pos c31] at H
                have c31b0 : decide (x6_4 < (l0_1.length : Int)) = true := decide_eq_true c31
                clear c31
                have H' := Aside0.mk H
                clear H; obtain ⟨hcz32_0, hcz32_1, hfz32_0, hfz32_1⟩ := bz2_ BK261
                have p268 : 0 ≤ (x6_4 : Int) := od_
                have q268 : x6_4 < (l0_1.length : Int) := od_
                obtain ⟨ad268, e268, hx268_0⟩ := Kd.at_int HR0_1.out x6_4 p268 q268
                cases e268
                replace hx268_0 := hb_ HB hx268_0
                replace p268 := eq_true p268
                replace q268 := eq_true q268
                go_wp2
                go_roundg k4
                case measure => have := HJ1.out; have := HK2.out; have := HK3.out; have := HK4.out; omega
                case rel => exact ⟨(rd l0_1 x6_4), (wrap64 (x7_4 + 1)), (by first | rfl | (simp; done) | (simp [*]; done)), (by first | rfl | (simp; done) | (simp [*]; done)), H', ⟨by have := HJ1.out; have := HK2.out; have := HK3.out; have := HK4.out; omega⟩, ⟨bk_ BK261⟩, ⟨bf_ HB⟩⟩
               ·rw [if_neg c31] at H
                exact absurd H (by simp)
              ·rw [if_neg c30] at H
               exact absurd H (by simp)
             ·rw [if_neg c29] at H
              have c29b0 : decide (0 ≤ x6_4) = false := decide_eq_false c29
              clear c29
              have H' := Aside0.mk H
              clear H
              go_wp2
              go_roundg k4
              case measure => have := HJ1.out; have := HK2.out; have := HK3.out; have := HK4.out; omega
              case rel => exact ⟨(wrap64 (x5_3 + 1)), (by first | rfl | (simp; done) | (simp [*]; done)), H', ⟨by have := HJ1.out; have := HK2.out; have := HK3.out; have := HK4.out; omega⟩, ⟨bk_ BK261⟩, ⟨bf_ HB⟩⟩
            ·rw [if_neg c28] at H
             have c28b0 : decide (x7_4 < (l0_1.length : Int)) = false := decide_eq_false c28
             clear c28
             by_cases c33 : x6_4 ≥ 0
             ·rw [if_pos c33] at H
              have c33b0 : decide (0 ≤ x6_4) = true := decide_eq_true c33
              clear c33
              obtain rfl := Option.some.inj H
              go_wp2
              go_ret
              exact ⟨by first | rfl | (simp [errW_none, errW_some] <;> rfl) | (simp [*, errW_none, errW_some] <;> rfl), bf_ HB⟩
             ·rw [if_neg c33] at H
              have c33b0 : decide (0 ≤ x6_4) = false := decide_eq_false c33
              clear c33
              have H' := Aside0.mk H
              clear H
              go_wp2
              go_roundg k4
              case measure => have := HJ1.out; have := HK2.out; have := HK3.out; have := HK4.out; omega
              case rel => exact ⟨(wrap64 (x5_3 + 1)), (by first | rfl | (simp; done) | (simp [*]; done)), H', ⟨by have := HJ1.out; have := HK2.out; have := HK3.out; have := HK4.out; omega⟩, ⟨bk_ BK261⟩, ⟨bf_ HB⟩⟩
         ·rw [if_neg c27] at H
          have c27b0 : decide (x5_3 < (l0_1.length : Int)) = false := decide_eq_false c27
          clear c27
          obtain rfl := Option.some.inj H
          go_wp2
          go_ret
          exact ⟨by first | rfl | (simp [errW_none, errW_some] <;> rfl) | (simp [*, errW_none, errW_some] <;> rfl), bf_ HB⟩

end Go.Proofs.Ytlafobfjbkhioaa.PFnStoreBook
