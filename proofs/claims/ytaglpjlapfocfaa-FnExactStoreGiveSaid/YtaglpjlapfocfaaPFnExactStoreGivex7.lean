-- printed by a program of this session (wip/printx) out of the translation; Lean checks it
import Derived.Test.YtaglpjlapfocfaaPFnExactStoreGivex0
import Derived.Test.YtaglpjlapfocfaaPFnExactStoreGivex6
namespace Go.Proofs.Ytaglpjlapfocfaa.PFnExactStoreGive
open Go.RowKit Go.Proofs.YtaglpjlapfocfaaW.PrintWords Go.Proofs.YtaglpjlapfocfaaW.PrintLast Go.Proofs.YtaglpjlapfocfaaW.PrintMore
attribute [local go_sem] max2_int min2_int max_two min_two max_three min_three max_four min_four   -- for this text's walks alone
set_option linter.unusedVariables false
set_option linter.unusedSimpArgs false

/-! ### spec_SlabOk: function 23 -/
mutual
def spec_SlabOk.j0 : Nat → Int → Bool → Int → List Int → Option (Bool)
  | 0, _, _, _, _ => none
  | k + 1, x3, x24, x236000, x236001 => if x24 = true then (some false) else (spec_SlabOk.l0 k x3 0 x236000 x236001)
def spec_SlabOk.l0 : Nat → Int → Int → Int → List Int → Option (Bool)
  | 0, _, _, _, _ => none
  | k + 1, x3, x4, x236000, x236001 => if x4 < x3 then (if 0 ≤ x4 then (if x4 < (x236001.length : Int) then (if (rd x236001 x4) < (-1) then (some false) else (if (rd x236001 x4) ≥ x3 then (some false) else (if (rd x236001 x4) ≥ 0 then ((spec_l16Ahead.f k x236000 x236001 (rd x236001 x4)).bind fun t241 => (if t241 = x4 then (spec_SlabOk.l0 k x3 (wrap64 (x4 + 1)) x236000 x236001) else (some false))) else (spec_SlabOk.l0 k x3 (wrap64 (x4 + 1)) x236000 x236001)))) else (none)) else (none)) else (spec_SlabOk.l1 k x3 0 x236000 x236001)
def spec_SlabOk.l1 : Nat → Int → Int → Int → List Int → Option (Bool)
  | 0, _, _, _, _ => none
  | k + 1, x3, x5, x236000, x236001 => if x5 < x3 then (spec_SlabOk.l2 k x3 x5 x5 0 x236000 x236001) else (some true)
def spec_SlabOk.l2 : Nat → Int → Int → Int → Int → Int → List Int → Option (Bool)
  | 0, _, _, _, _, _, _ => none
  | k + 1, x3, x5, x6, x7, x236000, x236001 => if x7 < x3 then (if x6 ≥ 0 then (if 0 ≤ x6 then (if x6 < (x236001.length : Int) then (spec_SlabOk.l2 k x3 x5 (rd x236001 x6) (wrap64 (x7 + 1)) x236000 x236001) else (none)) else (none)) else (spec_SlabOk.l1 k x3 (wrap64 (x5 + 1)) x236000 x236001)) else (if x6 ≥ 0 then (some false) else (spec_SlabOk.l1 k x3 (wrap64 (x5 + 1)) x236000 x236001))
end
def spec_SlabOk.f (k : Nat) (a0_0 : Int) (l0_1 : List Int) : Option (Bool) := if (l0_1.length : Int) > 128 then (spec_SlabOk.j0 k (l0_1.length : Int) true a0_0 l0_1) else (if a0_0 = (-1) then (spec_SlabOk.j0 k (l0_1.length : Int) false a0_0 l0_1) else ((spec_l16Head.f k a0_0 l0_1 a0_0).bind fun t236 => (spec_SlabOk.j0 k (l0_1.length : Int) (!t236) a0_0 l0_1)))
theorem spec_SlabOk.mono_l : ∀ k, (∀ y0 y1 y2 y3, LeO (spec_SlabOk.j0 k y0 y1 y2 y3) (spec_SlabOk.j0 (k + 1) y0 y1 y2 y3)) ∧ (∀ y0 y1 y2 y3, LeO (spec_SlabOk.l0 k y0 y1 y2 y3) (spec_SlabOk.l0 (k + 1) y0 y1 y2 y3)) ∧ (∀ y0 y1 y2 y3, LeO (spec_SlabOk.l1 k y0 y1 y2 y3) (spec_SlabOk.l1 (k + 1) y0 y1 y2 y3)) ∧ (∀ y0 y1 y2 y3 y4 y5, LeO (spec_SlabOk.l2 k y0 y1 y2 y3 y4 y5) (spec_SlabOk.l2 (k + 1) y0 y1 y2 y3 y4 y5))
 | 0 => ⟨fun _ _ _ _ r h => by simp [spec_SlabOk.j0] at h, fun _ _ _ _ r h => by simp [spec_SlabOk.l0] at h, fun _ _ _ _ r h => by simp [spec_SlabOk.l1] at h, fun _ _ _ _ _ _ r h => by simp [spec_SlabOk.l2] at h⟩
 | k + 1 => by
  obtain ⟨ih0, ih1, ih2, ih3⟩ := spec_SlabOk.mono_l k
  refine ⟨?_, ?_, ?_, ?_⟩
  ·intro y0 y1 y2 y3
   unfold spec_SlabOk.j0
   repeat' first
   | (with_reducible exact ih0 _ _ _ _)
   | (with_reducible exact ih1 _ _ _ _)
   | (with_reducible exact ih2 _ _ _ _)
   | (with_reducible exact ih3 _ _ _ _ _ _)
   | (with_reducible exact spec_l16Ahead.mono _ _ _ _)
   | (with_reducible exact spec_l16Head.mono _ _ _ _)
   | (with_reducible exact LeO.refl _)
   | (with_reducible exact LeO.none _)
   | (with_reducible refine LeO.ite ?_ ?_)
   | (with_reducible refine LeO.bind ?_ (fun _ => ?_))
   | exact ih0 _ _ _ _
   | exact ih1 _ _ _ _
   | exact ih2 _ _ _ _
   | exact ih3 _ _ _ _ _ _
   | exact spec_l16Ahead.mono _ _ _ _
   | exact spec_l16Head.mono _ _ _ _
   | exact LeO.none _
   | refine LeO.ite ?_ ?_
   | refine LeO.bind ?_ (fun _ => ?_)
  ·intro y0 y1 y2 y3
   unfold spec_SlabOk.l0
   repeat' first
   | (with_reducible exact ih0 _ _ _ _)
   | (with_reducible exact ih1 _ _ _ _)
   | (with_reducible exact ih2 _ _ _ _)
   | (with_reducible exact ih3 _ _ _ _ _ _)
   | (with_reducible exact spec_l16Ahead.mono _ _ _ _)
   | (with_reducible exact spec_l16Head.mono _ _ _ _)
   | (with_reducible exact LeO.refl _)
   | (with_reducible exact LeO.none _)
   | (with_reducible refine LeO.ite ?_ ?_)
   | (with_reducible refine LeO.bind ?_ (fun _ => ?_))
   | exact ih0 _ _ _ _
   | exact ih1 _ _ _ _
   | exact ih2 _ _ _ _
   | exact ih3 _ _ _ _ _ _
   | exact spec_l16Ahead.mono _ _ _ _
   | exact spec_l16Head.mono _ _ _ _
   | exact LeO.none _
   | refine LeO.ite ?_ ?_
   | refine LeO.bind ?_ (fun _ => ?_)
  ·intro y0 y1 y2 y3
   unfold spec_SlabOk.l1
   repeat' first
   | (with_reducible exact ih0 _ _ _ _)
   | (with_reducible exact ih1 _ _ _ _)
   | (with_reducible exact ih2 _ _ _ _)
   | (with_reducible exact ih3 _ _ _ _ _ _)
   | (with_reducible exact spec_l16Ahead.mono _ _ _ _)
   | (with_reducible exact spec_l16Head.mono _ _ _ _)
   | (with_reducible exact LeO.refl _)
   | (with_reducible exact LeO.none _)
   | (with_reducible refine LeO.ite ?_ ?_)
   | (with_reducible refine LeO.bind ?_ (fun _ => ?_))
   | exact ih0 _ _ _ _
   | exact ih1 _ _ _ _
   | exact ih2 _ _ _ _
   | exact ih3 _ _ _ _ _ _
   | exact spec_l16Ahead.mono _ _ _ _
   | exact spec_l16Head.mono _ _ _ _
   | exact LeO.none _
   | refine LeO.ite ?_ ?_
   | refine LeO.bind ?_ (fun _ => ?_)
  ·intro y0 y1 y2 y3 y4 y5
   unfold spec_SlabOk.l2
   repeat' first
   | (with_reducible exact ih0 _ _ _ _)
   | (with_reducible exact ih1 _ _ _ _)
   | (with_reducible exact ih2 _ _ _ _)
   | (with_reducible exact ih3 _ _ _ _ _ _)
   | (with_reducible exact spec_l16Ahead.mono _ _ _ _)
   | (with_reducible exact spec_l16Head.mono _ _ _ _)
   | (with_reducible exact LeO.refl _)
   | (with_reducible exact LeO.none _)
   | (with_reducible refine LeO.ite ?_ ?_)
   | (with_reducible refine LeO.bind ?_ (fun _ => ?_))
   | exact ih0 _ _ _ _
   | exact ih1 _ _ _ _
   | exact ih2 _ _ _ _
   | exact ih3 _ _ _ _ _ _
   | exact spec_l16Ahead.mono _ _ _ _
   | exact spec_l16Head.mono _ _ _ _
   | exact LeO.none _
   | refine LeO.ite ?_ ?_
   | refine LeO.bind ?_ (fun _ => ?_)
theorem spec_SlabOk.mono : ∀ a0 a1 k, LeO (spec_SlabOk.f k a0 a1) (spec_SlabOk.f (k + 1) a0 a1) := by
 intro a0 a1 k
 obtain ⟨ih0, ih1, ih2, ih3⟩ := spec_SlabOk.mono_l k
 unfold spec_SlabOk.f
 repeat' first
   | (with_reducible exact ih0 _ _ _ _)
   | (with_reducible exact ih1 _ _ _ _)
   | (with_reducible exact ih2 _ _ _ _)
   | (with_reducible exact ih3 _ _ _ _ _ _)
   | (with_reducible exact spec_l16Ahead.mono _ _ _ _)
   | (with_reducible exact spec_l16Head.mono _ _ _ _)
   | (with_reducible exact LeO.refl _)
   | (with_reducible exact LeO.none _)
   | (with_reducible refine LeO.ite ?_ ?_)
   | (with_reducible refine LeO.bind ?_ (fun _ => ?_))
   | exact ih0 _ _ _ _
   | exact ih1 _ _ _ _
   | exact ih2 _ _ _ _
   | exact ih3 _ _ _ _ _ _
   | exact spec_l16Ahead.mono _ _ _ _
   | exact spec_l16Head.mono _ _ _ _
   | exact LeO.none _
   | refine LeO.ite ?_ ?_
   | refine LeO.bind ?_ (fun _ => ?_)
def spec_SlabOk.T7 : Bool × List (List Nat × List Nat) := (true, [([], []), ([0], [0]), ([], []), ([1, 2], [1, 2]), ([3], [3]), ([4], [4]), ([5], [5]), ([6], [6]), ([7, 6], [6, 7]), ([6], [6]), ([8, 9, 6], [6, 8, 9]), ([10, 6], [6, 10]), ([6], [6]), ([11, 12, 6], [6, 11, 12]), ([6, 13], [6, 13]), ([14, 6], [14]), ([15], [15]), ([16, 15], [15, 16]), ([15], [15]), ([17, 18, 15], [15, 17, 18]), ([19, 15], [15, 19]), ([20, 15], [15, 20]), ([21, 15, 15], [15, 21]), ([22], [22]), ([22], [22]), ([24, 22], [22, 24]), ([22], [22]), ([25, 26, 22], [22, 25, 26]), ([27, 22], [22, 27]), ([23, 28, 22, 22], [22, 23, 28]), ([22], [22]), ([29, 30, 22], [22, 29, 30]), ([22, 31, 15], [15, 22, 31]), ([15, 32], [15, 32])])
def spec_SlabOk.B7 : List Nat := [0, 1, 0, 7, 15, 31, 63, 127, 255, 127, 1023, 2047, 127, 8191, 16383, 32767, 65535, 131071, 65535, 524287, 1048575, 2097151, 4194303, 8388607, 8388607, 25165823, 8388607, 125829119, 260046847, 536870911, 8388607, 2147483647, 4294967295, 8589934591]
theorem spec_SlabOk.tab7 : rtab .any (opsOf Try.f23 7) = spec_SlabOk.T7 := by kernel_rfl
theorem spec_SlabOk.bits7 : waitsOk spec_SlabOk.T7.2 spec_SlabOk.B7 = true := by kernel_rfl
set_option maxHeartbeats 8000000 in
set_option maxRecDepth 100000 in
theorem spec_SlabOk.calls (k : Nat) (a0_0 : Int) (A0_1 : Option Addr) (c0_1 : Nat) (l0_1 : List Int) (r : Bool) (w : World) (hr0_1 : Kd.C (Kd.int .i64) w A0_1 l0_1.length l0_1) (hc0_1 : l0_1.length ≤ c0_1) (h : spec_SlabOk.f k a0_0 l0_1 = some r) :
  Calls Try.prog 23 #[.agg #[.int .i64 a0_0, .slice A0_1 l0_1.length c0_1]] w fun e w' => e = .returned (.bool r) ∧ Below w.heap.size w w' := by
 have hu24 := Try.underlying24
 have HR0_1 := Aside0.mk hr0_1
 have HC0_1 := Aside0.mk hc0_1
 clear hr0_1 hc0_1
 have HB := Aside0.mk (Below.refl w.heap.size w)
 have H : (if (l0_1.length : Int) > 128 then (spec_SlabOk.j0 k (l0_1.length : Int) true a0_0 l0_1) else (if a0_0 = (-1) then (spec_SlabOk.j0 k (l0_1.length : Int) false a0_0 l0_1) else ((spec_l16Head.f k a0_0 l0_1 a0_0).bind fun t236 => (spec_SlabOk.j0 k (l0_1.length : Int) (!t236) a0_0 l0_1)))) = some r := h
 clear h
 have HC2 := Aside0.mk H
 clear H
 go_enter Try.func23, Try.ntmps23
 go_upto_region 2 with (first | ((with_reducible refine gate_dst (N := 1) rfl ?_); refine box_event ?hg (N := 1) ?hd (cs := #[.int .i64 a0_0, .slice A0_1 l0_1.length c0_1]) (t := 24) ?hr ?_; (case hd => rfl); (case hg => rfl); (case hr => first | (go_simp; done) | (go_simp; rfl)); intro gb235 hg w3 hbox hb; have n0_ := Aside0.mk (below_step (be_ HB) hb); have n1_ := Aside0.mk (hbox); have n2_ := Aside0.mk ((by rw [hg]; exact (below_size (be_ HB)) : w.heap.size ≤ gb235)); have n3_ := Aside0.mk ((by rw [hg]; exact (below_size (be_ HB)) : w.heap.size ≤ gb235)); clear HB; have HB := n0_; have BK235 := n1_; have GW235 := n2_; have GE235 := n3_; clear n0_ n1_ n2_ n3_; clear hb hbox hg; have hcz4_0 : w3.cell? ⟨gb235, 0, none⟩ = some (.int .i64 a0_0) := (blk_cell BK235.out 0).trans rfl; have hcz4_1 : w3.cell? ⟨gb235, 1, none⟩ = some (.slice A0_1 l0_1.length c0_1) := (blk_cell BK235.out 1).trans rfl; have hfz4_0 := blk_frozen BK235.out 0; have hfz4_1 := blk_frozen BK235.out 1))
 (try simp only [Act.put, List.setIfInBounds_toArray, List.set_cons_zero, List.set_cons_succ])
 go_cut [24] (fun v24 wc => ∃ (kq : Nat) (x24_1 : Bool), v24 = .bool x24_1 ∧ Aside0 (spec_SlabOk.j0 kq (l0_1.length : Int) x24_1 a0_0 l0_1 = some r) ∧ Aside0 (kq ≤ k) ∧ Aside0 (wc.heap[gb235]? = some (.cells #[.int .i64 a0_0, (.slice A0_1 l0_1.length c0_1)] 24 (0, 0))) ∧ Aside0 (Below w.heap.size w wc))
 case first =>
  have H := HC2.out
  clear HC2
  by_cases c5 : (l0_1.length : Int) > 128
  ·rw [if_pos c5] at H
   have c5b0 : decide (128 < (l0_1.length : Int)) = true := decide_eq_true c5
   have c5b1 : decide (128 < l0_1.length) = true := decide_eq_true (by omega)
   clear c5
   (first | rw [c5b0] | (simp only [i64_w, i32_w]; rw [c5b0]) | skip)
   have H' := Aside0.mk H
   clear H
   go_wp2
   go_meet
   case rel => exact ⟨_, (true), (by first | rfl | (simp; done) | (simp [*]; done)), H', ⟨by first | omega | exact Nat.le_refl _⟩, ⟨bk_ BK235⟩, ⟨by repeat (first | (with_reducible first | exact HB.out | apply below_alloc | apply pw_below_drewN | apply below_drew1 | refine below_set ?_ GE235.out) | exact HB.out)⟩⟩
  ·rw [if_neg c5] at H
   have c5b0 : decide (128 < (l0_1.length : Int)) = false := decide_eq_false c5
   have c5b1 : decide (128 < l0_1.length) = false := decide_eq_false (by omega)
   clear c5
   (first | rw [c5b0] | (simp only [i64_w, i32_w]; rw [c5b0]) | skip)
   by_cases c6 : a0_0 = (-1)
   ·rw [if_pos c6] at H
    have c6b0 : (a0_0 == (-1)) = true := beq_iff_eq.mpr c6
    have c6b1 : (a0_0 != (-1)) = false := bne_eq_false_iff_eq.mpr c6
    clear c6
    have H' := Aside0.mk H
    clear H
    have hcz7_0 : w3.cell? ⟨gb235, 0, none⟩ = some (.int .i64 a0_0) := (blk_cell BK235.out 0).trans rfl
    have hcz7_1 : w3.cell? ⟨gb235, 1, none⟩ = some (.slice A0_1 l0_1.length c0_1) := (blk_cell BK235.out 1).trans rfl
    have hfz7_0 := blk_frozen BK235.out 0
    have hfz7_1 := blk_frozen BK235.out 1
    go_wp2
    go_meet
    case rel => exact ⟨_, (false), (by first | rfl | (simp; done) | (simp [*]; done)), H', ⟨by first | omega | exact Nat.le_refl _⟩, ⟨bk_ BK235⟩, ⟨by repeat (first | (with_reducible first | exact HB.out | apply below_alloc | apply pw_below_drewN | apply below_drew1 | refine below_set ?_ GE235.out) | exact HB.out)⟩⟩
   ·rw [if_neg c6] at H
    have c6b0 : (a0_0 == (-1)) = false := beq_eq_false_iff_ne.mpr c6
    have c6b1 : (a0_0 != (-1)) = true := bne_iff_ne.mpr c6
    replace H := Option.bind_eq_some_iff.mp H
    obtain ⟨t236, A80, H⟩ := H
    replace H : (spec_SlabOk.j0 k (l0_1.length : Int) (!t236) a0_0 l0_1) = some r := H
    have A8 := Aside0.mk A80
    clear A80
    have H' := Aside0.mk H
    clear H
    have hcz9_0 : w3.cell? ⟨gb235, 0, none⟩ = some (.int .i64 a0_0) := (blk_cell BK235.out 0).trans rfl
    have hcz9_1 : w3.cell? ⟨gb235, 1, none⟩ = some (.slice A0_1 l0_1.length c0_1) := (blk_cell BK235.out 1).trans rfl
    have hfz9_0 := blk_frozen BK235.out 0
    have hfz9_1 := blk_frozen BK235.out 1
    go_wp2_with (first | (go_at_call 65; (with_reducible refine (spec_l16Head.calls k a0_0 _ _ l0_1 a0_0 t236 _ ?side1 ?side2 A8.out).mono ?_); (case side1 => repeat (first | exact (Kd.C_below HR0_1.out HB.out) | (with_reducible refine Kd.C_alloc ?_ _) | (with_reducible refine Kd.C_drewN ?_ _) | (with_reducible refine Kd.C_drew ?_))); (case side2 => exact HC0_1.out); rintro e w10 ⟨rfl, hb⟩; have n0_ := Aside0.mk (blk_below (g := gb235) (o := .cells #[.int .i64 a0_0, .slice A0_1 l0_1.length c0_1] 24 (0, 0)) (bk_ BK235) hb); have n1_ := Aside0.mk (below_step (by repeat (first | (with_reducible first | exact HB.out | apply below_alloc | apply pw_below_drewN | apply below_drew1 | refine below_set ?_ GE235.out) | exact HB.out)) hb); clear BK235; clear HB; have BK235 := n0_; have HB := n1_; clear n0_ n1_; (try clear hb); (try clear hb2); (try clear hk); (try clear hi)))
    go_meet
    case rel => exact ⟨_, (!t236), (by first | rfl | (simp; done) | (simp [*]; done)), H', ⟨by first | omega | exact Nat.le_refl _⟩, ⟨bk_ BK235⟩, ⟨by repeat (first | (with_reducible first | exact HB.out | apply below_alloc | apply pw_below_drewN | apply below_drew1 | refine below_set ?_ GE235.out) | exact HB.out)⟩⟩
 case rest =>
  clear HC2
  try clear c2
  try clear p2
  try clear c5
  try clear c5b0
  try clear c5b1
  try clear c6
  try clear c6b0
  try clear c6b1
  try clear hcz4_0
  try clear hcz4_1
  try clear hcz7_0
  try clear hcz7_1
  try clear hcz9_0
  try clear hcz9_1
  try clear hfz4_0
  try clear hfz4_1
  try clear hfz7_0
  try clear hfz7_1
  try clear hfz9_0
  try clear hfz9_1
  obtain ⟨kq, x24_1, rfl, HA, HJ1, BK235, HB⟩ := hcut
  cases kq with
  | zero => exact absurd HA.out (by simp [spec_SlabOk.j0])
  | succ kj1 =>
   have H := HA.out
   clear HA
   simp only [spec_SlabOk.j0] at H
   by_cases c11 : x24_1 = true
   ·subst c11
    have H1 : (some false) = some r := by rw [if_pos rfl] at H; exact H
    clear H
    have H := H1
    clear H1
    obtain rfl := Option.some.inj H
    go_wp2
    go_ret
    exact ⟨by first | rfl | (simp [errW_none, errW_some] <;> rfl) | (simp [*, errW_none, errW_some] <;> rfl), by repeat (first | (with_reducible first | exact HB.out | apply below_alloc | apply pw_below_drewN | apply below_drew1 | refine below_set ?_ GE235.out) | exact HB.out)⟩
   ·replace c11 := Bool.eq_false_iff.mpr c11
    subst c11
    have H1 : (spec_SlabOk.l0 kj1 (l0_1.length : Int) 0 a0_0 l0_1) = some r := by rw [if_neg (show ¬ (false = true) by decide)] at H; exact H
    clear H
    have H := H1
    clear H1
    have H' := Aside0.mk H
    clear H
    go_wp2
    go_loopg [4] kj1 (fun kq v4 w' => ∃ (x4_2 : Int), v4 = .int .i64 x4_2 ∧ Aside0 (spec_SlabOk.l0 kq (l0_1.length : Int) x4_2 a0_0 l0_1 = some r) ∧ Aside0 (kq ≤ kj1) ∧ Aside0 (w'.heap[gb235]? = some (.cells #[.int .i64 a0_0, (.slice A0_1 l0_1.length c0_1)] 24 (0, 0))) ∧ Aside0 (Below w.heap.size w w'))
    case atStart => exact ⟨(0), (by first | rfl | (simp; done) | (simp [*]; done)), H', ⟨Nat.le_refl _⟩, ⟨bk_ BK235⟩, ⟨by repeat (first | (with_reducible first | exact HB.out | apply below_alloc | apply pw_below_drewN | apply below_drew1 | refine below_set ?_ GE235.out) | exact HB.out)⟩⟩
    case round =>
     clear H'
     try clear c1
     try clear c2
     try clear p2
     try clear c5
     try clear c5b0
     try clear c5b1
     try clear c6
     try clear c6b0
     try clear c6b1
     try clear c11
     try clear hcz4_0
     try clear hcz4_1
     try clear hcz7_0
     try clear hcz7_1
     try clear hcz9_0
     try clear hcz9_1
     try clear hfz4_0
     try clear hfz4_1
     try clear hfz7_0
     try clear hfz7_1
     try clear hfz9_0
     try clear hfz9_1
     try clear p2
     obtain ⟨x4_2, rfl, HA, HK2, BK235, HB⟩ := hrel
     cases gk with
     | zero => exact absurd HA.out (by simp [spec_SlabOk.l0])
     | succ k2 =>
      have H := HA.out
      clear HA
      simp only [spec_SlabOk.l0] at H
      by_cases c12 : x4_2 < (l0_1.length : Int)
      ·rw [if_pos c12] at H
       have c12b0 : decide (x4_2 < (l0_1.length : Int)) = true := decide_eq_true c12
       clear c12
       by_cases c13 : 0 ≤ x4_2
       ·rw [if_pos c13] at H
        have c13b0 : decide (0 ≤ x4_2) = true := decide_eq_true c13
        clear c13
        by_cases c14 : x4_2 < (l0_1.length : Int)
        ·rw [if_pos c14] at H
         have c14b0 : decide (x4_2 < (l0_1.length : Int)) = true := decide_eq_true c14
         clear c14
         by_cases c15 : (rd l0_1 x4_2) < (-1)
         ·rw [if_pos c15] at H
          have c15b0 : decide ((rd l0_1 x4_2) < (-1)) = true := decide_eq_true c15
          clear c15
          obtain rfl := Option.some.inj H
          try go_wp2
          have n0_ := Aside0.mk (blk_drew BK235.out)
          have n1_ := Aside0.mk (below_drew1 HB.out)
          clear BK235
          clear HB
          have BK235 := n0_
          have HB := n1_
          clear n0_ n1_
          have p237 : 0 ≤ (x4_2 : Int) := of_decide_eq_true (by first | (with_reducible assumption) | assumption)
          have q237 : x4_2 < (l0_1.length : Int) := of_decide_eq_true (by first | (with_reducible assumption) | assumption)
          obtain ⟨ad237, e237, hx237_0⟩ := Kd.at_int HR0_1.out x4_2 p237 q237
          have hw237_0 := hx237_0
          cases e237
          replace hx237_0 := (HB.out.cell (World.block_lt_of_cell? w _ hx237_0)).trans hx237_0
          replace p237 := eq_true p237
          replace q237 := eq_true q237
          refine start_ (n := 34) (S := fun w' => w'.cell? ⟨gb235, 0, none⟩ = some (.int .i64 a0_0) ∧ w'.cell? ⟨gb235, 1, none⟩ = some (.slice (some ad237) l0_1.length c0_1) ∧ w'.cell? (ad237.add (x4_2).toNat) = some (.int .i64 (rd l0_1 x4_2))) (ds := []) (bs 34 0) (by kernel_rfl) rfl rfl ⟨(blk_cell BK235.out 0).trans rfl, (blk_cell BK235.out 1).trans rfl, ((HB.out.cell (World.block_lt_of_cell? w _ hw237_0)).trans hw237_0)⟩ (fun hHeld => ?_); refine with_tabW spec_SlabOk.tab7 spec_SlabOk.bits7 (fun HT_ HW_ => ?_)
          generalize wr.drew = w16 at BK235 HB hx237_0 hHeld ⊢
          refine pure_s (i := 0) (N := some 30) (bs 34 1) (any_of HT_.out (by kernel_rfl)) (h := ?_)
          refine pure_s (i := 2) (N := some 32) #[oT,oF,oT,oF,oF,oF,oF,oF,oF,oF,oF,oF,oF,oF,oF,oF,oF,oF,oF,oF,oF,oF,oF,oF,oF,oF,oF,oF,oF,oF,oF,oF,oF,oF] (any_of HT_.out (by kernel_rfl)) (h := ?_)
          refine take_ (i := 1) (N := some 31) (v := ?_) (a' := ?_) (bs 34 3) rfl rfl (take_ofW HT_.out HW_.out (by kernel_rfl)) (fun _ _ _ h => h) (Or.inl ⟨by rfl, ?_⟩) hHeld ?_ ?_
          rotate_left
          ·rintro w' ⟨s0, s1, s2⟩
           go_simp
           with_reducible rfl
          rotate_left
          ·simp only [Act.put, List.setIfInBounds_toArray, List.set_cons_zero, List.set_cons_succ, i64_w, i32_w]
           rfl
          refine pure_s (i := 3) (N := some 33) (bs 34 4) (any_of HT_.out (by kernel_rfl)) (h := ?_)
          refine take_ (i := 4) (N := some 34) (v := ?_) (a' := ?_) (bs 34 5) rfl rfl (take_ofW HT_.out HW_.out (by kernel_rfl)) (fun _ _ _ h => h) (Or.inl ⟨by rfl, ?_⟩) hHeld ?_ ?_
          rotate_left
          ·rintro w' ⟨s0, s1, s2⟩
           go_simp
           with_reducible rfl
          rotate_left
          ·simp only [Act.put, List.setIfInBounds_toArray, List.set_cons_zero, List.set_cons_succ, i64_w, i32_w]
           rfl
          refine pure_s (i := 5) (N := some 35) (bs 34 6) (any_of HT_.out (by kernel_rfl)) (h := ?_)
          refine pure_s (i := 6) (N := some 36) (bs 34 7) (any_of HT_.out (by kernel_rfl)) (h := ?_)
          refine pure_u (i := 7) (N := some 37) (bs 34 8) (any_of HT_.out (by kernel_rfl)) (h := ?_)
          refine pure_u (i := 8) (N := some 38) (bs 34 9) (any_of HT_.out (by kernel_rfl)) (h := ?_)
          refine pure_u (i := 9) (N := some 39) (bs 34 10) (any_of HT_.out (by kernel_rfl)) (h := ?_)
          refine pure_u (i := 10) (N := some 40) (bs 34 11) (any_of HT_.out (by kernel_rfl)) (h := ?_)
          refine pure_u (i := 11) (N := some 41) (bs 34 12) (any_of HT_.out (by kernel_rfl)) (h := ?_)
          refine pure_u (i := 12) (N := some 42) (bs 34 13) (any_of HT_.out (by kernel_rfl)) (h := ?_)
          refine pure_u (i := 13) (N := some 43) (bs 34 14) (any_of HT_.out (by kernel_rfl)) (h := ?_)
          refine pure_s (i := 14) (N := some 44) (bs 34 15) (any_of HT_.out (by kernel_rfl)) (h := ?_)
          refine pure_s (i := 15) (N := some 45) (bs 34 16) (any_of HT_.out (by kernel_rfl)) (h := ?_)
          refine pure_u (i := 16) (N := some 46) (bs 34 17) (any_of HT_.out (by kernel_rfl)) (h := ?_)
          refine pure_u (i := 17) (N := some 47) (bs 34 18) (any_of HT_.out (by kernel_rfl)) (h := ?_)
          refine pure_u (i := 18) (N := some 48) (bs 34 19) (any_of HT_.out (by kernel_rfl)) (h := ?_)
          refine pure_u (i := 19) (N := some 49) (bs 34 20) (any_of HT_.out (by kernel_rfl)) (h := ?_)
          refine pure_u (i := 20) (N := some 50) (bs 34 21) (any_of HT_.out (by kernel_rfl)) (h := ?_)
          refine pure_u (i := 21) (N := some 51) (bs 34 22) (any_of HT_.out (by kernel_rfl)) (h := ?_)
          refine pure_u (i := 22) (N := some 52) (bs 34 23) (any_of HT_.out (by kernel_rfl)) (h := ?_)
          refine pure_u (i := 23) (N := some 53) (bs 34 24) (any_of HT_.out (by kernel_rfl)) (h := ?_)
          refine pure_u (i := 24) (N := some 54) (bs 34 25) (any_of HT_.out (by kernel_rfl)) (h := ?_)
          refine pure_u (i := 25) (N := some 55) (bs 34 26) (any_of HT_.out (by kernel_rfl)) (h := ?_)
          refine pure_u (i := 26) (N := some 56) (bs 34 27) (any_of HT_.out (by kernel_rfl)) (h := ?_)
          refine pure_u (i := 27) (N := some 57) (bs 34 28) (any_of HT_.out (by kernel_rfl)) (h := ?_)
          refine pure_u (i := 28) (N := some 58) (bs 34 29) (any_of HT_.out (by kernel_rfl)) (h := ?_)
          refine pure_u (i := 29) (N := some 59) (bs 34 30) (any_of HT_.out (by kernel_rfl)) (h := ?_)
          refine pure_u (i := 30) (N := some 60) (bs 34 31) (any_of HT_.out (by kernel_rfl)) (h := ?_)
          refine pure_u (i := 31) (N := some 61) (bs 34 32) (any_of HT_.out (by kernel_rfl)) (h := ?_)
          refine pure_u (i := 32) (N := some 62) (bs 34 33) (any_of HT_.out (by kernel_rfl)) (h := ?_)
          refine pure_s (i := 33) (N := some 63) (bs 34 34) (any_of HT_.out (by kernel_rfl)) (h := ?_)
          refine done_ (done_of HT_.out (by kernel_rfl)) ?_
          try go_wp2
          go_ret
          exact ⟨by first | rfl | (simp [errW_none, errW_some] <;> rfl) | (simp [*, errW_none, errW_some] <;> rfl), by repeat (first | (with_reducible first | exact HB.out | apply below_alloc | apply pw_below_drewN | apply below_drew1 | refine below_set ?_ GE235.out) | exact HB.out)⟩
         ·rw [if_neg c15] at H
          have c15b0 : decide ((rd l0_1 x4_2) < (-1)) = false := decide_eq_false c15
          clear c15
          by_cases c17 : (rd l0_1 x4_2) ≥ (l0_1.length : Int)
          ·rw [if_pos c17] at H
           have c17b0 : decide ((l0_1.length : Int) ≤ (rd l0_1 x4_2)) = true := decide_eq_true c17
           clear c17
           obtain rfl := Option.some.inj H
           try go_wp2
           have n0_ := Aside0.mk (blk_drew BK235.out)
           have n1_ := Aside0.mk (below_drew1 HB.out)
           clear BK235
           clear HB
           have BK235 := n0_
           have HB := n1_
           clear n0_ n1_
           have p237 : 0 ≤ (x4_2 : Int) := of_decide_eq_true (by first | (with_reducible assumption) | assumption)
           have q237 : x4_2 < (l0_1.length : Int) := of_decide_eq_true (by first | (with_reducible assumption) | assumption)
           obtain ⟨ad237, e237, hx237_0⟩ := Kd.at_int HR0_1.out x4_2 p237 q237
           have hw237_0 := hx237_0
           cases e237
           replace hx237_0 := (HB.out.cell (World.block_lt_of_cell? w _ hx237_0)).trans hx237_0
           replace p237 := eq_true p237
           replace q237 := eq_true q237
           have p238 : 0 ≤ (x4_2 : Int) := of_decide_eq_true (by first | (with_reducible assumption) | assumption)
           have q238 : x4_2 < (l0_1.length : Int) := of_decide_eq_true (by first | (with_reducible assumption) | assumption)
           obtain ⟨ad238, e238, hx238_0⟩ := Kd.at_int HR0_1.out x4_2 p238 q238
           have hw238_0 := hx238_0
           obtain rfl : ad237 = ad238 := (by injection e238)
           replace hx238_0 := (HB.out.cell (World.block_lt_of_cell? w _ hx238_0)).trans hx238_0
           replace p238 := eq_true p238
           replace q238 := eq_true q238
           refine start_ (n := 34) (S := fun w' => w'.cell? ⟨gb235, 0, none⟩ = some (.int .i64 a0_0) ∧ w'.cell? ⟨gb235, 1, none⟩ = some (.slice (some ad237) l0_1.length c0_1) ∧ w'.cell? (ad237.add (x4_2).toNat) = some (.int .i64 (rd l0_1 x4_2)) ∧ w'.cell? (ad237.add (x4_2).toNat) = some (.int .i64 (rd l0_1 x4_2))) (ds := []) (bs 34 0) (by kernel_rfl) rfl rfl ⟨(blk_cell BK235.out 0).trans rfl, (blk_cell BK235.out 1).trans rfl, ((HB.out.cell (World.block_lt_of_cell? w _ hw237_0)).trans hw237_0), ((HB.out.cell (World.block_lt_of_cell? w _ hw238_0)).trans hw238_0)⟩ (fun hHeld => ?_); refine with_tabW spec_SlabOk.tab7 spec_SlabOk.bits7 (fun HT_ HW_ => ?_)
           generalize wr.drew = w18 at BK235 HB hx237_0 hx238_0 hHeld ⊢
           refine pure_s (i := 0) (N := some 30) (bs 34 1) (any_of HT_.out (by kernel_rfl)) (h := ?_)
           refine pure_s (i := 2) (N := some 32) #[oT,oF,oT,oF,oF,oF,oF,oF,oF,oF,oF,oF,oF,oF,oF,oF,oF,oF,oF,oF,oF,oF,oF,oF,oF,oF,oF,oF,oF,oF,oF,oF,oF,oF] (any_of HT_.out (by kernel_rfl)) (h := ?_)
           refine take_ (i := 1) (N := some 31) (v := ?_) (a' := ?_) (bs 34 3) rfl rfl (take_ofW HT_.out HW_.out (by kernel_rfl)) (fun _ _ _ h => h) (Or.inl ⟨by rfl, ?_⟩) hHeld ?_ ?_
           rotate_left
           ·rintro w' ⟨s0, s1, s2, s3⟩
            go_simp
            with_reducible rfl
           rotate_left
           ·simp only [Act.put, List.setIfInBounds_toArray, List.set_cons_zero, List.set_cons_succ, i64_w, i32_w]
            rfl
           refine pure_s (i := 3) (N := some 33) (bs 34 4) (any_of HT_.out (by kernel_rfl)) (h := ?_)
           refine take_ (i := 4) (N := some 34) (v := ?_) (a' := ?_) (bs 34 5) rfl rfl (take_ofW HT_.out HW_.out (by kernel_rfl)) (fun _ _ _ h => h) (Or.inl ⟨by rfl, ?_⟩) hHeld ?_ ?_
           rotate_left
           ·rintro w' ⟨s0, s1, s2, s3⟩
            go_simp
            with_reducible rfl
           rotate_left
           ·simp only [Act.put, List.setIfInBounds_toArray, List.set_cons_zero, List.set_cons_succ, i64_w, i32_w]
            rfl
           refine pure_s (i := 5) (N := some 35) (bs 34 6) (any_of HT_.out (by kernel_rfl)) (h := ?_)
           refine pure_s (i := 6) (N := some 36) (bs 34 7) (any_of HT_.out (by kernel_rfl)) (h := ?_)
           refine pure_s (i := 7) (N := some 37) (bs 34 8) (any_of HT_.out (by kernel_rfl)) (h := ?_)
           refine pure_s (i := 9) (N := some 39) #[oT,oT,oT,oT,oT,oT,oT,oT,oF,oT,oF,oF,oF,oF,oF,oF,oF,oF,oF,oF,oF,oF,oF,oF,oF,oF,oF,oF,oF,oF,oF,oF,oF,oF] (any_of HT_.out (by kernel_rfl)) (h := ?_)
           refine pure_s (i := 12) (N := some 42) #[oT,oT,oT,oT,oT,oT,oT,oT,oF,oT,oF,oF,oT,oF,oF,oF,oF,oF,oF,oF,oF,oF,oF,oF,oF,oF,oF,oF,oF,oF,oF,oF,oF,oF] (any_of HT_.out (by kernel_rfl)) (h := ?_)
           refine take_ (i := 8) (N := some 38) (v := ?_) (a' := ?_) #[oT,oT,oT,oT,oT,oT,oT,oT,oT,oT,oF,oF,oT,oF,oF,oF,oF,oF,oF,oF,oF,oF,oF,oF,oF,oF,oF,oF,oF,oF,oF,oF,oF,oF] rfl rfl (take_ofW HT_.out HW_.out (by kernel_rfl)) (fun _ _ _ h => h) (Or.inl ⟨by rfl, ?_⟩) hHeld ?_ ?_
           rotate_left
           ·rintro w' ⟨s0, s1, s2, s3⟩
            go_simp
            with_reducible rfl
           rotate_left
           ·simp only [Act.put, List.setIfInBounds_toArray, List.set_cons_zero, List.set_cons_succ, i64_w, i32_w]
            rfl
           refine pure_s (i := 10) (N := some 40) #[oT,oT,oT,oT,oT,oT,oT,oT,oT,oT,oT,oF,oT,oF,oF,oF,oF,oF,oF,oF,oF,oF,oF,oF,oF,oF,oF,oF,oF,oF,oF,oF,oF,oF] (any_of HT_.out (by kernel_rfl)) (h := ?_)
           refine take_ (i := 11) (N := some 41) (v := ?_) (a' := ?_) (bs 34 13) rfl rfl (take_ofW HT_.out HW_.out (by kernel_rfl)) (fun _ _ _ h => h) (Or.inl ⟨by rfl, ?_⟩) hHeld ?_ ?_
           rotate_left
           ·rintro w' ⟨s0, s1, s2, s3⟩
            go_simp
            with_reducible rfl
           rotate_left
           ·simp only [Act.put, List.setIfInBounds_toArray, List.set_cons_zero, List.set_cons_succ, i64_w, i32_w]
            rfl
           refine pure_s (i := 13) (N := some 43) (bs 34 14) (any_of HT_.out (by kernel_rfl)) (h := ?_)
           refine pure_s (i := 14) (N := some 44) (bs 34 15) (any_of HT_.out (by kernel_rfl)) (h := ?_)
           refine pure_s (i := 15) (N := some 45) (bs 34 16) (any_of HT_.out (by kernel_rfl)) (h := ?_)
           refine pure_u (i := 16) (N := some 46) (bs 34 17) (any_of HT_.out (by kernel_rfl)) (h := ?_)
           refine pure_u (i := 17) (N := some 47) (bs 34 18) (any_of HT_.out (by kernel_rfl)) (h := ?_)
           refine pure_u (i := 18) (N := some 48) (bs 34 19) (any_of HT_.out (by kernel_rfl)) (h := ?_)
           refine pure_u (i := 19) (N := some 49) (bs 34 20) (any_of HT_.out (by kernel_rfl)) (h := ?_)
           refine pure_u (i := 20) (N := some 50) (bs 34 21) (any_of HT_.out (by kernel_rfl)) (h := ?_)
           refine pure_u (i := 21) (N := some 51) (bs 34 22) (any_of HT_.out (by kernel_rfl)) (h := ?_)
           refine pure_u (i := 22) (N := some 52) (bs 34 23) (any_of HT_.out (by kernel_rfl)) (h := ?_)
           refine pure_u (i := 23) (N := some 53) (bs 34 24) (any_of HT_.out (by kernel_rfl)) (h := ?_)
           refine pure_u (i := 24) (N := some 54) (bs 34 25) (any_of HT_.out (by kernel_rfl)) (h := ?_)
           refine pure_u (i := 25) (N := some 55) (bs 34 26) (any_of HT_.out (by kernel_rfl)) (h := ?_)
           refine pure_u (i := 26) (N := some 56) (bs 34 27) (any_of HT_.out (by kernel_rfl)) (h := ?_)
           refine pure_u (i := 27) (N := some 57) (bs 34 28) (any_of HT_.out (by kernel_rfl)) (h := ?_)
           refine pure_u (i := 28) (N := some 58) (bs 34 29) (any_of HT_.out (by kernel_rfl)) (h := ?_)
           refine pure_u (i := 29) (N := some 59) (bs 34 30) (any_of HT_.out (by kernel_rfl)) (h := ?_)
           refine pure_u (i := 30) (N := some 60) (bs 34 31) (any_of HT_.out (by kernel_rfl)) (h := ?_)
           refine pure_u (i := 31) (N := some 61) (bs 34 32) (any_of HT_.out (by kernel_rfl)) (h := ?_)
           refine pure_u (i := 32) (N := some 62) (bs 34 33) (any_of HT_.out (by kernel_rfl)) (h := ?_)
           refine pure_s (i := 33) (N := some 63) (bs 34 34) (any_of HT_.out (by kernel_rfl)) (h := ?_)
           refine done_ (done_of HT_.out (by kernel_rfl)) ?_
           try go_wp2
           go_ret
           exact ⟨by first | rfl | (simp [errW_none, errW_some] <;> rfl) | (simp [*, errW_none, errW_some] <;> rfl), by repeat (first | (with_reducible first | exact HB.out | apply below_alloc | apply pw_below_drewN | apply below_drew1 | refine below_set ?_ GE235.out) | exact HB.out)⟩
          ·rw [if_neg c17] at H
           have c17b0 : decide ((l0_1.length : Int) ≤ (rd l0_1 x4_2)) = false := decide_eq_false c17
           clear c17
           by_cases c19 : (rd l0_1 x4_2) ≥ 0
           ·rw [if_pos c19] at H
            have c19b0 : decide (0 ≤ (rd l0_1 x4_2)) = true := decide_eq_true c19
            clear c19
            replace H := Option.bind_eq_some_iff.mp H
            obtain ⟨t241, A200, H⟩ := H
            replace H : (if t241 = x4_2 then (spec_SlabOk.l0 k2 (l0_1.length : Int) (wrap64 (x4_2 + 1)) a0_0 l0_1) else (some false)) = some r := H
            have A20 := Aside0.mk A200
            clear A200
            by_cases c21 : t241 = x4_2
            ·rw [if_pos c21] at H
             have c21b0 : (t241 == x4_2) = true := beq_iff_eq.mpr c21
             have c21b1 : (t241 != x4_2) = false := bne_eq_false_iff_eq.mpr c21
             clear c21
             have H' := Aside0.mk H
             clear H
             try go_wp2
             have n0_ := Aside0.mk (blk_drew BK235.out)
             have n1_ := Aside0.mk (below_drew1 HB.out)
             clear BK235
             clear HB
             have BK235 := n0_
             have HB := n1_
             clear n0_ n1_
             have p237 : 0 ≤ (x4_2 : Int) := of_decide_eq_true (by first | (with_reducible assumption) | assumption)
             have q237 : x4_2 < (l0_1.length : Int) := of_decide_eq_true (by first | (with_reducible assumption) | assumption)
             obtain ⟨ad237, e237, hx237_0⟩ := Kd.at_int HR0_1.out x4_2 p237 q237
             have hw237_0 := hx237_0
             cases e237
             replace hx237_0 := (HB.out.cell (World.block_lt_of_cell? w _ hx237_0)).trans hx237_0
             replace p237 := eq_true p237
             replace q237 := eq_true q237
             have p238 : 0 ≤ (x4_2 : Int) := of_decide_eq_true (by first | (with_reducible assumption) | assumption)
             have q238 : x4_2 < (l0_1.length : Int) := of_decide_eq_true (by first | (with_reducible assumption) | assumption)
             obtain ⟨ad238, e238, hx238_0⟩ := Kd.at_int HR0_1.out x4_2 p238 q238
             have hw238_0 := hx238_0
             obtain rfl : ad237 = ad238 := (by injection e238)
             replace hx238_0 := (HB.out.cell (World.block_lt_of_cell? w _ hx238_0)).trans hx238_0
             replace p238 := eq_true p238
             replace q238 := eq_true q238
             have p239 : 0 ≤ (x4_2 : Int) := of_decide_eq_true (by first | (with_reducible assumption) | assumption)
             have q239 : x4_2 < (l0_1.length : Int) := of_decide_eq_true (by first | (with_reducible assumption) | assumption)
             obtain ⟨ad239, e239, hx239_0⟩ := Kd.at_int HR0_1.out x4_2 p239 q239
             have hw239_0 := hx239_0
             obtain rfl : ad237 = ad239 := (by injection e239)
             replace hx239_0 := (HB.out.cell (World.block_lt_of_cell? w _ hx239_0)).trans hx239_0
             replace p239 := eq_true p239
             replace q239 := eq_true q239
             have p240 : 0 ≤ (x4_2 : Int) := of_decide_eq_true (by first | (with_reducible assumption) | assumption)
             have q240 : x4_2 < (l0_1.length : Int) := of_decide_eq_true (by first | (with_reducible assumption) | assumption)
             obtain ⟨ad240, e240, hx240_0⟩ := Kd.at_int HR0_1.out x4_2 p240 q240
             have hw240_0 := hx240_0
             obtain rfl : ad237 = ad240 := (by injection e240)
             replace hx240_0 := (HB.out.cell (World.block_lt_of_cell? w _ hx240_0)).trans hx240_0
             replace p240 := eq_true p240
             replace q240 := eq_true q240
             refine start_ (n := 34) (S := fun w' => w'.cell? ⟨gb235, 0, none⟩ = some (.int .i64 a0_0) ∧ w'.cell? ⟨gb235, 1, none⟩ = some (.slice (some ad237) l0_1.length c0_1) ∧ w'.cell? (ad237.add (x4_2).toNat) = some (.int .i64 (rd l0_1 x4_2)) ∧ w'.cell? (ad237.add (x4_2).toNat) = some (.int .i64 (rd l0_1 x4_2)) ∧ w'.cell? (ad237.add (x4_2).toNat) = some (.int .i64 (rd l0_1 x4_2)) ∧ w'.cell? (ad237.add (x4_2).toNat) = some (.int .i64 (rd l0_1 x4_2))) (ds := []) (bs 34 0) (by kernel_rfl) rfl rfl ⟨(blk_cell BK235.out 0).trans rfl, (blk_cell BK235.out 1).trans rfl, ((HB.out.cell (World.block_lt_of_cell? w _ hw237_0)).trans hw237_0), ((HB.out.cell (World.block_lt_of_cell? w _ hw238_0)).trans hw238_0), ((HB.out.cell (World.block_lt_of_cell? w _ hw239_0)).trans hw239_0), ((HB.out.cell (World.block_lt_of_cell? w _ hw240_0)).trans hw240_0)⟩ (fun hHeld => ?_); refine with_tabW spec_SlabOk.tab7 spec_SlabOk.bits7 (fun HT_ HW_ => ?_)
             generalize wr.drew = w22 at BK235 HB hx237_0 hx238_0 hx239_0 hx240_0 hHeld ⊢
             refine pure_s (i := 0) (N := some 30) (bs 34 1) (any_of HT_.out (by kernel_rfl)) (h := ?_)
             refine pure_s (i := 2) (N := some 32) #[oT,oF,oT,oF,oF,oF,oF,oF,oF,oF,oF,oF,oF,oF,oF,oF,oF,oF,oF,oF,oF,oF,oF,oF,oF,oF,oF,oF,oF,oF,oF,oF,oF,oF] (any_of HT_.out (by kernel_rfl)) (h := ?_)
             refine take_ (i := 1) (N := some 31) (v := ?_) (a' := ?_) (bs 34 3) rfl rfl (take_ofW HT_.out HW_.out (by kernel_rfl)) (fun _ _ _ h => h) (Or.inl ⟨by rfl, ?_⟩) hHeld ?_ ?_
             rotate_left
             ·rintro w' ⟨s0, s1, s2, s3, s4, s5⟩
              go_simp
              with_reducible rfl
             rotate_left
             ·simp only [Act.put, List.setIfInBounds_toArray, List.set_cons_zero, List.set_cons_succ, i64_w, i32_w]
              rfl
             refine pure_s (i := 3) (N := some 33) (bs 34 4) (any_of HT_.out (by kernel_rfl)) (h := ?_)
             refine take_ (i := 4) (N := some 34) (v := ?_) (a' := ?_) (bs 34 5) rfl rfl (take_ofW HT_.out HW_.out (by kernel_rfl)) (fun _ _ _ h => h) (Or.inl ⟨by rfl, ?_⟩) hHeld ?_ ?_
             rotate_left
             ·rintro w' ⟨s0, s1, s2, s3, s4, s5⟩
              go_simp
              with_reducible rfl
             rotate_left
             ·simp only [Act.put, List.setIfInBounds_toArray, List.set_cons_zero, List.set_cons_succ, i64_w, i32_w]
              rfl
             refine pure_s (i := 5) (N := some 35) (bs 34 6) (any_of HT_.out (by kernel_rfl)) (h := ?_)
             refine pure_s (i := 6) (N := some 36) (bs 34 7) (any_of HT_.out (by kernel_rfl)) (h := ?_)
             refine pure_s (i := 7) (N := some 37) (bs 34 8) (any_of HT_.out (by kernel_rfl)) (h := ?_)
             refine pure_s (i := 9) (N := some 39) #[oT,oT,oT,oT,oT,oT,oT,oT,oF,oT,oF,oF,oF,oF,oF,oF,oF,oF,oF,oF,oF,oF,oF,oF,oF,oF,oF,oF,oF,oF,oF,oF,oF,oF] (any_of HT_.out (by kernel_rfl)) (h := ?_)
             refine pure_s (i := 12) (N := some 42) #[oT,oT,oT,oT,oT,oT,oT,oT,oF,oT,oF,oF,oT,oF,oF,oF,oF,oF,oF,oF,oF,oF,oF,oF,oF,oF,oF,oF,oF,oF,oF,oF,oF,oF] (any_of HT_.out (by kernel_rfl)) (h := ?_)
             refine take_ (i := 8) (N := some 38) (v := ?_) (a' := ?_) #[oT,oT,oT,oT,oT,oT,oT,oT,oT,oT,oF,oF,oT,oF,oF,oF,oF,oF,oF,oF,oF,oF,oF,oF,oF,oF,oF,oF,oF,oF,oF,oF,oF,oF] rfl rfl (take_ofW HT_.out HW_.out (by kernel_rfl)) (fun _ _ _ h => h) (Or.inl ⟨by rfl, ?_⟩) hHeld ?_ ?_
             rotate_left
             ·rintro w' ⟨s0, s1, s2, s3, s4, s5⟩
              go_simp
              with_reducible rfl
             rotate_left
             ·simp only [Act.put, List.setIfInBounds_toArray, List.set_cons_zero, List.set_cons_succ, i64_w, i32_w]
              rfl
             refine pure_s (i := 10) (N := some 40) #[oT,oT,oT,oT,oT,oT,oT,oT,oT,oT,oT,oF,oT,oF,oF,oF,oF,oF,oF,oF,oF,oF,oF,oF,oF,oF,oF,oF,oF,oF,oF,oF,oF,oF] (any_of HT_.out (by kernel_rfl)) (h := ?_)
             refine take_ (i := 11) (N := some 41) (v := ?_) (a' := ?_) (bs 34 13) rfl rfl (take_ofW HT_.out HW_.out (by kernel_rfl)) (fun _ _ _ h => h) (Or.inl ⟨by rfl, ?_⟩) hHeld ?_ ?_
             rotate_left
             ·rintro w' ⟨s0, s1, s2, s3, s4, s5⟩
              go_simp
              with_reducible rfl
             rotate_left
             ·simp only [Act.put, List.setIfInBounds_toArray, List.set_cons_zero, List.set_cons_succ, i64_w, i32_w]
              rfl
             refine pure_s (i := 13) (N := some 43) (bs 34 14) (any_of HT_.out (by kernel_rfl)) (h := ?_)
             refine pure_s (i := 14) (N := some 44) (bs 34 15) (any_of HT_.out (by kernel_rfl)) (h := ?_)
             refine pure_s (i := 15) (N := some 45) (bs 34 16) (any_of HT_.out (by kernel_rfl)) (h := ?_)
             refine pure_s (i := 16) (N := some 46) (bs 34 17) (any_of HT_.out (by kernel_rfl)) (h := ?_)
             refine pure_s (i := 18) (N := some 48) #[oT,oT,oT,oT,oT,oT,oT,oT,oT,oT,oT,oT,oT,oT,oT,oT,oT,oF,oT,oF,oF,oF,oF,oF,oF,oF,oF,oF,oF,oF,oF,oF,oF,oF] (any_of HT_.out (by kernel_rfl)) (h := ?_)
             refine take_ (i := 17) (N := some 47) (v := ?_) (a' := ?_) (bs 34 19) rfl rfl (take_ofW HT_.out HW_.out (by kernel_rfl)) (fun _ _ _ h => h) (Or.inl ⟨by rfl, ?_⟩) hHeld ?_ ?_
             rotate_left
             ·rintro w' ⟨s0, s1, s2, s3, s4, s5⟩
              go_simp
              with_reducible rfl
             rotate_left
             ·simp only [Act.put, List.setIfInBounds_toArray, List.set_cons_zero, List.set_cons_succ, i64_w, i32_w]
              rfl
             refine pure_s (i := 19) (N := some 49) (bs 34 20) (any_of HT_.out (by kernel_rfl)) (h := ?_)
             refine take_ (i := 20) (N := some 50) (v := ?_) (a' := ?_) (bs 34 21) rfl rfl (take_ofW HT_.out HW_.out (by kernel_rfl)) (fun _ _ _ h => h) (Or.inl ⟨by rfl, ?_⟩) hHeld ?_ ?_
             rotate_left
             ·rintro w' ⟨s0, s1, s2, s3, s4, s5⟩
              go_simp
              with_reducible rfl
             rotate_left
             ·simp only [Act.put, List.setIfInBounds_toArray, List.set_cons_zero, List.set_cons_succ, i64_w, i32_w]
              rfl
             refine pure_s (i := 21) (N := some 51) (bs 34 22) (any_of HT_.out (by kernel_rfl)) (h := ?_)
             refine pure_s (i := 22) (N := some 52) (bs 34 23) (any_of HT_.out (by kernel_rfl)) (h := ?_)
             refine pure_s (i := 24) (N := some 54) #[oT,oT,oT,oT,oT,oT,oT,oT,oT,oT,oT,oT,oT,oT,oT,oT,oT,oT,oT,oT,oT,oT,oT,oF,oT,oF,oF,oF,oF,oF,oF,oF,oF,oF] (any_of HT_.out (by kernel_rfl)) (h := ?_)
             refine pure_s (i := 26) (N := some 56) #[oT,oT,oT,oT,oT,oT,oT,oT,oT,oT,oT,oT,oT,oT,oT,oT,oT,oT,oT,oT,oT,oT,oT,oF,oT,oF,oT,oF,oF,oF,oF,oF,oF,oF] (any_of HT_.out (by kernel_rfl)) (h := ?_)
             refine pure_s (i := 30) (N := some 60) #[oT,oT,oT,oT,oT,oT,oT,oT,oT,oT,oT,oT,oT,oT,oT,oT,oT,oT,oT,oT,oT,oT,oT,oF,oT,oF,oT,oF,oF,oF,oT,oF,oF,oF] (any_of HT_.out (by kernel_rfl)) (h := ?_)
             refine take_ (i := 23) (N := some 53) (v := ?_) (a' := ?_) #[oT,oT,oT,oT,oT,oT,oT,oT,oT,oT,oT,oT,oT,oT,oT,oT,oT,oT,oT,oT,oT,oT,oT,oT,oT,oF,oT,oF,oF,oF,oT,oF,oF,oF] rfl rfl (take_ofW HT_.out HW_.out (by kernel_rfl)) (fun _ _ _ h => h) (Or.inl ⟨by rfl, ?_⟩) hHeld ?_ ?_
             rotate_left
             ·rintro w' ⟨s0, s1, s2, s3, s4, s5⟩
              go_simp
              with_reducible rfl
             rotate_left
             ·simp only [Act.put, List.setIfInBounds_toArray, List.set_cons_zero, List.set_cons_succ, i64_w, i32_w]
              rfl
             refine take_ (i := 25) (N := some 55) (v := ?_) (a' := ?_) #[oT,oT,oT,oT,oT,oT,oT,oT,oT,oT,oT,oT,oT,oT,oT,oT,oT,oT,oT,oT,oT,oT,oT,oT,oT,oT,oT,oF,oF,oF,oT,oF,oF,oF] rfl rfl (take_ofW HT_.out HW_.out (by kernel_rfl)) (fun _ _ _ h => h) (Or.inl ⟨by rfl, ?_⟩) hHeld ?_ ?_
             rotate_left
             ·rintro w' ⟨s0, s1, s2, s3, s4, s5⟩
              go_simp
              with_reducible rfl
             rotate_left
             ·simp only [Act.put, List.setIfInBounds_toArray, List.set_cons_zero, List.set_cons_succ, i64_w, i32_w]
              rfl
             refine pure_s (i := 27) (N := some 57) #[oT,oT,oT,oT,oT,oT,oT,oT,oT,oT,oT,oT,oT,oT,oT,oT,oT,oT,oT,oT,oT,oT,oT,oT,oT,oT,oT,oT,oF,oF,oT,oF,oF,oF] (any_of HT_.out (by kernel_rfl)) (h := ?_)
             refine take_ (i := 28) (N := some 58) (v := ?_) (a' := ?_) #[oT,oT,oT,oT,oT,oT,oT,oT,oT,oT,oT,oT,oT,oT,oT,oT,oT,oT,oT,oT,oT,oT,oT,oT,oT,oT,oT,oT,oT,oF,oT,oF,oF,oF] rfl rfl (take_ofW HT_.out HW_.out (by kernel_rfl)) (fun _ _ _ h => h) (Or.inl ⟨by rfl, ?_⟩) hHeld ?_ ?_
             rotate_left
             ·rintro w' ⟨s0, s1, s2, s3, s4, s5⟩
              go_simp
              with_reducible rfl
             rotate_left
             ·simp only [Act.put, List.setIfInBounds_toArray, List.set_cons_zero, List.set_cons_succ, i64_w, i32_w]
              rfl
             refine one_ (i := 29) (N := some 59) (bs 34 31) rfl rfl (one_of HT_.out (by kernel_rfl)) (by decide) (fun K hK => ?_)
             refine goes_ Try.func66 (by kernel_rfl) rfl #[.agg #[.int .i64 a0_0, .slice (some ad237) l0_1.length c0_1], .int .i64 (rd l0_1 x4_2)] (by rfl) rfl rfl mt_ ?_
             with_reducible refine (spec_l16Ahead.calls k2 a0_0 _ _ l0_1 (rd l0_1 x4_2) t241 _ ?side1 ?side2 A20.out).mono ?_
             (case side1 => repeat (first | exact (Kd.C_below HR0_1.out HB.out) | (with_reducible refine Kd.C_alloc ?_ _) | (with_reducible refine Kd.C_drewN ?_ _) | (with_reducible refine Kd.C_drew ?_)))
             (case side2 => exact HC0_1.out)
             rintro e w23 ⟨rfl, hb⟩
             refine ⟨_, rfl, ?_⟩
             have n0_ := Aside0.mk (blk_below (g := gb235) (o := .cells #[.int .i64 a0_0, .slice (some ad237) l0_1.length c0_1] 24 (0, 0)) (bk_ BK235) hb)
             have n1_ := Aside0.mk (below_step (by repeat (first | (with_reducible first | exact HB.out | apply below_alloc | apply pw_below_drewN | apply below_drew1 | refine below_set ?_ GE235.out) | exact HB.out)) hb)
             clear BK235
             clear HB
             have BK235 := n0_
             have HB := n1_
             clear n0_ n1_
             (try clear hb)
             (try clear hb2)
             (try clear hk)
             (try clear hi)
             refine hK.out _ _ ⟨(blk_cell BK235.out 0).trans rfl, (blk_cell BK235.out 1).trans rfl, ((HB.out.cell (World.block_lt_of_cell? w _ hw237_0)).trans hw237_0), ((HB.out.cell (World.block_lt_of_cell? w _ hw238_0)).trans hw238_0), ((HB.out.cell (World.block_lt_of_cell? w _ hw239_0)).trans hw239_0), ((HB.out.cell (World.block_lt_of_cell? w _ hw240_0)).trans hw240_0)⟩ (fun hHeld => ?_)
             clear hK K
             refine norm_ (a' := ?_) ?_ ?_
             rotate_left
             ·show Act.put _ (some 59) _ = _
              simp only [Act.put, List.setIfInBounds_toArray, List.set_cons_zero, List.set_cons_succ, i64_w, i32_w]
              rfl
             refine pure_s (i := 31) (N := some 61) (bs 34 32) (any_of HT_.out (by kernel_rfl)) (h := ?_)
             refine pure_s (i := 32) (N := some 62) (bs 34 33) (any_of HT_.out (by kernel_rfl)) (h := ?_)
             refine pure_s (i := 33) (N := some 63) (bs 34 34) (any_of HT_.out (by kernel_rfl)) (h := ?_)
             refine done_ (done_of HT_.out (by kernel_rfl)) ?_
             try go_wp2
             go_roundg k2
             case measure => have := HJ1.out; have := HK2.out; omega
             case rel => exact ⟨(wrap64 (x4_2 + 1)), (by first | rfl | (simp; done) | (simp [*]; done)), H', ⟨by have := HJ1.out; have := HK2.out; omega⟩, ⟨bk_ BK235⟩, ⟨by repeat (first | (with_reducible first | exact HB.out | apply below_alloc | apply pw_below_drewN | apply below_drew1 | refine below_set ?_ GE235.out) | exact HB.out)⟩⟩
            ·rw [if_neg c21] at H
             have c21b0 : (t241 == x4_2) = false := beq_eq_false_iff_ne.mpr c21
             have c21b1 : (t241 != x4_2) = true := bne_iff_ne.mpr c21
             obtain rfl := Option.some.inj H
             try go_wp2
             have n0_ := Aside0.mk (blk_drew BK235.out)
             have n1_ := Aside0.mk (below_drew1 HB.out)
             clear BK235
             clear HB
             have BK235 := n0_
             have HB := n1_
             clear n0_ n1_
             have p237 : 0 ≤ (x4_2 : Int) := of_decide_eq_true (by first | (with_reducible assumption) | assumption)
             have q237 : x4_2 < (l0_1.length : Int) := of_decide_eq_true (by first | (with_reducible assumption) | assumption)
             obtain ⟨ad237, e237, hx237_0⟩ := Kd.at_int HR0_1.out x4_2 p237 q237
             have hw237_0 := hx237_0
             cases e237
             replace hx237_0 := (HB.out.cell (World.block_lt_of_cell? w _ hx237_0)).trans hx237_0
             replace p237 := eq_true p237
             replace q237 := eq_true q237
             have p238 : 0 ≤ (x4_2 : Int) := of_decide_eq_true (by first | (with_reducible assumption) | assumption)
             have q238 : x4_2 < (l0_1.length : Int) := of_decide_eq_true (by first | (with_reducible assumption) | assumption)
             obtain ⟨ad238, e238, hx238_0⟩ := Kd.at_int HR0_1.out x4_2 p238 q238
             have hw238_0 := hx238_0
             obtain rfl : ad237 = ad238 := (by injection e238)
             replace hx238_0 := (HB.out.cell (World.block_lt_of_cell? w _ hx238_0)).trans hx238_0
             replace p238 := eq_true p238
             replace q238 := eq_true q238
             have p239 : 0 ≤ (x4_2 : Int) := of_decide_eq_true (by first | (with_reducible assumption) | assumption)
             have q239 : x4_2 < (l0_1.length : Int) := of_decide_eq_true (by first | (with_reducible assumption) | assumption)
             obtain ⟨ad239, e239, hx239_0⟩ := Kd.at_int HR0_1.out x4_2 p239 q239
             have hw239_0 := hx239_0
             obtain rfl : ad237 = ad239 := (by injection e239)
             replace hx239_0 := (HB.out.cell (World.block_lt_of_cell? w _ hx239_0)).trans hx239_0
             replace p239 := eq_true p239
             replace q239 := eq_true q239
             have p240 : 0 ≤ (x4_2 : Int) := of_decide_eq_true (by first | (with_reducible assumption) | assumption)
             have q240 : x4_2 < (l0_1.length : Int) := of_decide_eq_true (by first | (with_reducible assumption) | assumption)
             obtain ⟨ad240, e240, hx240_0⟩ := Kd.at_int HR0_1.out x4_2 p240 q240
             have hw240_0 := hx240_0
             obtain rfl : ad237 = ad240 := (by injection e240)
             replace hx240_0 := (HB.out.cell (World.block_lt_of_cell? w _ hx240_0)).trans hx240_0
             replace p240 := eq_true p240
             replace q240 := eq_true q240
             refine start_ (n := 34) (S := fun w' => w'.cell? ⟨gb235, 0, none⟩ = some (.int .i64 a0_0) ∧ w'.cell? ⟨gb235, 1, none⟩ = some (.slice (some ad237) l0_1.length c0_1) ∧ w'.cell? (ad237.add (x4_2).toNat) = some (.int .i64 (rd l0_1 x4_2)) ∧ w'.cell? (ad237.add (x4_2).toNat) = some (.int .i64 (rd l0_1 x4_2)) ∧ w'.cell? (ad237.add (x4_2).toNat) = some (.int .i64 (rd l0_1 x4_2)) ∧ w'.cell? (ad237.add (x4_2).toNat) = some (.int .i64 (rd l0_1 x4_2))) (ds := []) (bs 34 0) (by kernel_rfl) rfl rfl ⟨(blk_cell BK235.out 0).trans rfl, (blk_cell BK235.out 1).trans rfl, ((HB.out.cell (World.block_lt_of_cell? w _ hw237_0)).trans hw237_0), ((HB.out.cell (World.block_lt_of_cell? w _ hw238_0)).trans hw238_0), ((HB.out.cell (World.block_lt_of_cell? w _ hw239_0)).trans hw239_0), ((HB.out.cell (World.block_lt_of_cell? w _ hw240_0)).trans hw240_0)⟩ (fun hHeld => ?_); refine with_tabW spec_SlabOk.tab7 spec_SlabOk.bits7 (fun HT_ HW_ => ?_)
             generalize wr.drew = w24 at BK235 HB hx237_0 hx238_0 hx239_0 hx240_0 hHeld ⊢
             refine pure_s (i := 0) (N := some 30) (bs 34 1) (any_of HT_.out (by kernel_rfl)) (h := ?_)
             refine pure_s (i := 2) (N := some 32) #[oT,oF,oT,oF,oF,oF,oF,oF,oF,oF,oF,oF,oF,oF,oF,oF,oF,oF,oF,oF,oF,oF,oF,oF,oF,oF,oF,oF,oF,oF,oF,oF,oF,oF] (any_of HT_.out (by kernel_rfl)) (h := ?_)
             refine take_ (i := 1) (N := some 31) (v := ?_) (a' := ?_) (bs 34 3) rfl rfl (take_ofW HT_.out HW_.out (by kernel_rfl)) (fun _ _ _ h => h) (Or.inl ⟨by rfl, ?_⟩) hHeld ?_ ?_
             rotate_left
             ·rintro w' ⟨s0, s1, s2, s3, s4, s5⟩
              go_simp
              with_reducible rfl
             rotate_left
             ·simp only [Act.put, List.setIfInBounds_toArray, List.set_cons_zero, List.set_cons_succ, i64_w, i32_w]
              rfl
             refine pure_s (i := 3) (N := some 33) (bs 34 4) (any_of HT_.out (by kernel_rfl)) (h := ?_)
             refine take_ (i := 4) (N := some 34) (v := ?_) (a' := ?_) (bs 34 5) rfl rfl (take_ofW HT_.out HW_.out (by kernel_rfl)) (fun _ _ _ h => h) (Or.inl ⟨by rfl, ?_⟩) hHeld ?_ ?_
             rotate_left
             ·rintro w' ⟨s0, s1, s2, s3, s4, s5⟩
              go_simp
              with_reducible rfl
             rotate_left
             ·simp only [Act.put, List.setIfInBounds_toArray, List.set_cons_zero, List.set_cons_succ, i64_w, i32_w]
              rfl
             refine pure_s (i := 5) (N := some 35) (bs 34 6) (any_of HT_.out (by kernel_rfl)) (h := ?_)
             refine pure_s (i := 6) (N := some 36) (bs 34 7) (any_of HT_.out (by kernel_rfl)) (h := ?_)
             refine pure_s (i := 7) (N := some 37) (bs 34 8) (any_of HT_.out (by kernel_rfl)) (h := ?_)
             refine pure_s (i := 9) (N := some 39) #[oT,oT,oT,oT,oT,oT,oT,oT,oF,oT,oF,oF,oF,oF,oF,oF,oF,oF,oF,oF,oF,oF,oF,oF,oF,oF,oF,oF,oF,oF,oF,oF,oF,oF] (any_of HT_.out (by kernel_rfl)) (h := ?_)
             refine pure_s (i := 12) (N := some 42) #[oT,oT,oT,oT,oT,oT,oT,oT,oF,oT,oF,oF,oT,oF,oF,oF,oF,oF,oF,oF,oF,oF,oF,oF,oF,oF,oF,oF,oF,oF,oF,oF,oF,oF] (any_of HT_.out (by kernel_rfl)) (h := ?_)
             refine take_ (i := 8) (N := some 38) (v := ?_) (a' := ?_) #[oT,oT,oT,oT,oT,oT,oT,oT,oT,oT,oF,oF,oT,oF,oF,oF,oF,oF,oF,oF,oF,oF,oF,oF,oF,oF,oF,oF,oF,oF,oF,oF,oF,oF] rfl rfl (take_ofW HT_.out HW_.out (by kernel_rfl)) (fun _ _ _ h => h) (Or.inl ⟨by rfl, ?_⟩) hHeld ?_ ?_
             rotate_left
             ·rintro w' ⟨s0, s1, s2, s3, s4, s5⟩
              go_simp
              with_reducible rfl
             rotate_left
             ·simp only [Act.put, List.setIfInBounds_toArray, List.set_cons_zero, List.set_cons_succ, i64_w, i32_w]
              rfl
             refine pure_s (i := 10) (N := some 40) #[oT,oT,oT,oT,oT,oT,oT,oT,oT,oT,oT,oF,oT,oF,oF,oF,oF,oF,oF,oF,oF,oF,oF,oF,oF,oF,oF,oF,oF,oF,oF,oF,oF,oF] (any_of HT_.out (by kernel_rfl)) (h := ?_)
             refine take_ (i := 11) (N := some 41) (v := ?_) (a' := ?_) (bs 34 13) rfl rfl (take_ofW HT_.out HW_.out (by kernel_rfl)) (fun _ _ _ h => h) (Or.inl ⟨by rfl, ?_⟩) hHeld ?_ ?_
             rotate_left
             ·rintro w' ⟨s0, s1, s2, s3, s4, s5⟩
              go_simp
              with_reducible rfl
             rotate_left
             ·simp only [Act.put, List.setIfInBounds_toArray, List.set_cons_zero, List.set_cons_succ, i64_w, i32_w]
              rfl
             refine pure_s (i := 13) (N := some 43) (bs 34 14) (any_of HT_.out (by kernel_rfl)) (h := ?_)
             refine pure_s (i := 14) (N := some 44) (bs 34 15) (any_of HT_.out (by kernel_rfl)) (h := ?_)
             refine pure_s (i := 15) (N := some 45) (bs 34 16) (any_of HT_.out (by kernel_rfl)) (h := ?_)
             refine pure_s (i := 16) (N := some 46) (bs 34 17) (any_of HT_.out (by kernel_rfl)) (h := ?_)
             refine pure_s (i := 18) (N := some 48) #[oT,oT,oT,oT,oT,oT,oT,oT,oT,oT,oT,oT,oT,oT,oT,oT,oT,oF,oT,oF,oF,oF,oF,oF,oF,oF,oF,oF,oF,oF,oF,oF,oF,oF] (any_of HT_.out (by kernel_rfl)) (h := ?_)
             refine take_ (i := 17) (N := some 47) (v := ?_) (a' := ?_) (bs 34 19) rfl rfl (take_ofW HT_.out HW_.out (by kernel_rfl)) (fun _ _ _ h => h) (Or.inl ⟨by rfl, ?_⟩) hHeld ?_ ?_
             rotate_left
             ·rintro w' ⟨s0, s1, s2, s3, s4, s5⟩
              go_simp
              with_reducible rfl
             rotate_left
             ·simp only [Act.put, List.setIfInBounds_toArray, List.set_cons_zero, List.set_cons_succ, i64_w, i32_w]
              rfl
             refine pure_s (i := 19) (N := some 49) (bs 34 20) (any_of HT_.out (by kernel_rfl)) (h := ?_)
             refine take_ (i := 20) (N := some 50) (v := ?_) (a' := ?_) (bs 34 21) rfl rfl (take_ofW HT_.out HW_.out (by kernel_rfl)) (fun _ _ _ h => h) (Or.inl ⟨by rfl, ?_⟩) hHeld ?_ ?_
             rotate_left
             ·rintro w' ⟨s0, s1, s2, s3, s4, s5⟩
              go_simp
              with_reducible rfl
             rotate_left
             ·simp only [Act.put, List.setIfInBounds_toArray, List.set_cons_zero, List.set_cons_succ, i64_w, i32_w]
              rfl
             refine pure_s (i := 21) (N := some 51) (bs 34 22) (any_of HT_.out (by kernel_rfl)) (h := ?_)
             refine pure_s (i := 22) (N := some 52) (bs 34 23) (any_of HT_.out (by kernel_rfl)) (h := ?_)
             refine pure_s (i := 24) (N := some 54) #[oT,oT,oT,oT,oT,oT,oT,oT,oT,oT,oT,oT,oT,oT,oT,oT,oT,oT,oT,oT,oT,oT,oT,oF,oT,oF,oF,oF,oF,oF,oF,oF,oF,oF] (any_of HT_.out (by kernel_rfl)) (h := ?_)
             refine pure_s (i := 26) (N := some 56) #[oT,oT,oT,oT,oT,oT,oT,oT,oT,oT,oT,oT,oT,oT,oT,oT,oT,oT,oT,oT,oT,oT,oT,oF,oT,oF,oT,oF,oF,oF,oF,oF,oF,oF] (any_of HT_.out (by kernel_rfl)) (h := ?_)
             refine pure_s (i := 30) (N := some 60) #[oT,oT,oT,oT,oT,oT,oT,oT,oT,oT,oT,oT,oT,oT,oT,oT,oT,oT,oT,oT,oT,oT,oT,oF,oT,oF,oT,oF,oF,oF,oT,oF,oF,oF] (any_of HT_.out (by kernel_rfl)) (h := ?_)
             refine take_ (i := 23) (N := some 53) (v := ?_) (a' := ?_) #[oT,oT,oT,oT,oT,oT,oT,oT,oT,oT,oT,oT,oT,oT,oT,oT,oT,oT,oT,oT,oT,oT,oT,oT,oT,oF,oT,oF,oF,oF,oT,oF,oF,oF] rfl rfl (take_ofW HT_.out HW_.out (by kernel_rfl)) (fun _ _ _ h => h) (Or.inl ⟨by rfl, ?_⟩) hHeld ?_ ?_
             rotate_left
             ·rintro w' ⟨s0, s1, s2, s3, s4, s5⟩
              go_simp
              with_reducible rfl
             rotate_left
             ·simp only [Act.put, List.setIfInBounds_toArray, List.set_cons_zero, List.set_cons_succ, i64_w, i32_w]
              rfl
             refine take_ (i := 25) (N := some 55) (v := ?_) (a' := ?_) #[oT,oT,oT,oT,oT,oT,oT,oT,oT,oT,oT,oT,oT,oT,oT,oT,oT,oT,oT,oT,oT,oT,oT,oT,oT,oT,oT,oF,oF,oF,oT,oF,oF,oF] rfl rfl (take_ofW HT_.out HW_.out (by kernel_rfl)) (fun _ _ _ h => h) (Or.inl ⟨by rfl, ?_⟩) hHeld ?_ ?_
             rotate_left
             ·rintro w' ⟨s0, s1, s2, s3, s4, s5⟩
              go_simp
              with_reducible rfl
             rotate_left
             ·simp only [Act.put, List.setIfInBounds_toArray, List.set_cons_zero, List.set_cons_succ, i64_w, i32_w]
              rfl
             refine pure_s (i := 27) (N := some 57) #[oT,oT,oT,oT,oT,oT,oT,oT,oT,oT,oT,oT,oT,oT,oT,oT,oT,oT,oT,oT,oT,oT,oT,oT,oT,oT,oT,oT,oF,oF,oT,oF,oF,oF] (any_of HT_.out (by kernel_rfl)) (h := ?_)
             refine take_ (i := 28) (N := some 58) (v := ?_) (a' := ?_) #[oT,oT,oT,oT,oT,oT,oT,oT,oT,oT,oT,oT,oT,oT,oT,oT,oT,oT,oT,oT,oT,oT,oT,oT,oT,oT,oT,oT,oT,oF,oT,oF,oF,oF] rfl rfl (take_ofW HT_.out HW_.out (by kernel_rfl)) (fun _ _ _ h => h) (Or.inl ⟨by rfl, ?_⟩) hHeld ?_ ?_
             rotate_left
             ·rintro w' ⟨s0, s1, s2, s3, s4, s5⟩
              go_simp
              with_reducible rfl
             rotate_left
             ·simp only [Act.put, List.setIfInBounds_toArray, List.set_cons_zero, List.set_cons_succ, i64_w, i32_w]
              rfl
             refine one_ (i := 29) (N := some 59) (bs 34 31) rfl rfl (one_of HT_.out (by kernel_rfl)) (by decide) (fun K hK => ?_)
             refine goes_ Try.func66 (by kernel_rfl) rfl #[.agg #[.int .i64 a0_0, .slice (some ad237) l0_1.length c0_1], .int .i64 (rd l0_1 x4_2)] (by rfl) rfl rfl mt_ ?_
             with_reducible refine (spec_l16Ahead.calls k2 a0_0 _ _ l0_1 (rd l0_1 x4_2) t241 _ ?side1 ?side2 A20.out).mono ?_
             (case side1 => repeat (first | exact (Kd.C_below HR0_1.out HB.out) | (with_reducible refine Kd.C_alloc ?_ _) | (with_reducible refine Kd.C_drewN ?_ _) | (with_reducible refine Kd.C_drew ?_)))
             (case side2 => exact HC0_1.out)
             rintro e w25 ⟨rfl, hb⟩
             refine ⟨_, rfl, ?_⟩
             have n0_ := Aside0.mk (blk_below (g := gb235) (o := .cells #[.int .i64 a0_0, .slice (some ad237) l0_1.length c0_1] 24 (0, 0)) (bk_ BK235) hb)
             have n1_ := Aside0.mk (below_step (by repeat (first | (with_reducible first | exact HB.out | apply below_alloc | apply pw_below_drewN | apply below_drew1 | refine below_set ?_ GE235.out) | exact HB.out)) hb)
             clear BK235
             clear HB
             have BK235 := n0_
             have HB := n1_
             clear n0_ n1_
             (try clear hb)
             (try clear hb2)
             (try clear hk)
             (try clear hi)
             refine hK.out _ _ ⟨(blk_cell BK235.out 0).trans rfl, (blk_cell BK235.out 1).trans rfl, ((HB.out.cell (World.block_lt_of_cell? w _ hw237_0)).trans hw237_0), ((HB.out.cell (World.block_lt_of_cell? w _ hw238_0)).trans hw238_0), ((HB.out.cell (World.block_lt_of_cell? w _ hw239_0)).trans hw239_0), ((HB.out.cell (World.block_lt_of_cell? w _ hw240_0)).trans hw240_0)⟩ (fun hHeld => ?_)
             clear hK K
             refine norm_ (a' := ?_) ?_ ?_
             rotate_left
             ·show Act.put _ (some 59) _ = _
              simp only [Act.put, List.setIfInBounds_toArray, List.set_cons_zero, List.set_cons_succ, i64_w, i32_w]
              rfl
             refine pure_s (i := 31) (N := some 61) (bs 34 32) (any_of HT_.out (by kernel_rfl)) (h := ?_)
             refine pure_s (i := 32) (N := some 62) (bs 34 33) (any_of HT_.out (by kernel_rfl)) (h := ?_)
             refine pure_s (i := 33) (N := some 63) (bs 34 34) (any_of HT_.out (by kernel_rfl)) (h := ?_)
             refine done_ (done_of HT_.out (by kernel_rfl)) ?_
             try go_wp2
             go_ret
             exact ⟨by first | rfl | (simp [errW_none, errW_some] <;> rfl) | (simp [*, errW_none, errW_some] <;> rfl), by repeat (first | (with_reducible first | exact HB.out | apply below_alloc | apply pw_below_drewN | apply below_drew1 | refine below_set ?_ GE235.out) | exact HB.out)⟩
           ·rw [if_neg c19] at H
            have c19b0 : decide (0 ≤ (rd l0_1 x4_2)) = false := decide_eq_false c19
            clear c19
            have H' := Aside0.mk H
            clear H
            try go_wp2
            have n0_ := Aside0.mk (blk_drew BK235.out)
            have n1_ := Aside0.mk (below_drew1 HB.out)
            clear BK235
            clear HB
            have BK235 := n0_
            have HB := n1_
            clear n0_ n1_
            have p237 : 0 ≤ (x4_2 : Int) := of_decide_eq_true (by first | (with_reducible assumption) | assumption)
            have q237 : x4_2 < (l0_1.length : Int) := of_decide_eq_true (by first | (with_reducible assumption) | assumption)
            obtain ⟨ad237, e237, hx237_0⟩ := Kd.at_int HR0_1.out x4_2 p237 q237
            have hw237_0 := hx237_0
            cases e237
            replace hx237_0 := (HB.out.cell (World.block_lt_of_cell? w _ hx237_0)).trans hx237_0
            replace p237 := eq_true p237
            replace q237 := eq_true q237
            have p238 : 0 ≤ (x4_2 : Int) := of_decide_eq_true (by first | (with_reducible assumption) | assumption)
            have q238 : x4_2 < (l0_1.length : Int) := of_decide_eq_true (by first | (with_reducible assumption) | assumption)
            obtain ⟨ad238, e238, hx238_0⟩ := Kd.at_int HR0_1.out x4_2 p238 q238
            have hw238_0 := hx238_0
            obtain rfl : ad237 = ad238 := (by injection e238)
            replace hx238_0 := (HB.out.cell (World.block_lt_of_cell? w _ hx238_0)).trans hx238_0
            replace p238 := eq_true p238
            replace q238 := eq_true q238
            have p239 : 0 ≤ (x4_2 : Int) := of_decide_eq_true (by first | (with_reducible assumption) | assumption)
            have q239 : x4_2 < (l0_1.length : Int) := of_decide_eq_true (by first | (with_reducible assumption) | assumption)
            obtain ⟨ad239, e239, hx239_0⟩ := Kd.at_int HR0_1.out x4_2 p239 q239
            have hw239_0 := hx239_0
            obtain rfl : ad237 = ad239 := (by injection e239)
            replace hx239_0 := (HB.out.cell (World.block_lt_of_cell? w _ hx239_0)).trans hx239_0
            replace p239 := eq_true p239
            replace q239 := eq_true q239
            refine start_ (n := 34) (S := fun w' => w'.cell? ⟨gb235, 0, none⟩ = some (.int .i64 a0_0) ∧ w'.cell? ⟨gb235, 1, none⟩ = some (.slice (some ad237) l0_1.length c0_1) ∧ w'.cell? (ad237.add (x4_2).toNat) = some (.int .i64 (rd l0_1 x4_2)) ∧ w'.cell? (ad237.add (x4_2).toNat) = some (.int .i64 (rd l0_1 x4_2)) ∧ w'.cell? (ad237.add (x4_2).toNat) = some (.int .i64 (rd l0_1 x4_2))) (ds := []) (bs 34 0) (by kernel_rfl) rfl rfl ⟨(blk_cell BK235.out 0).trans rfl, (blk_cell BK235.out 1).trans rfl, ((HB.out.cell (World.block_lt_of_cell? w _ hw237_0)).trans hw237_0), ((HB.out.cell (World.block_lt_of_cell? w _ hw238_0)).trans hw238_0), ((HB.out.cell (World.block_lt_of_cell? w _ hw239_0)).trans hw239_0)⟩ (fun hHeld => ?_); refine with_tabW spec_SlabOk.tab7 spec_SlabOk.bits7 (fun HT_ HW_ => ?_)
            generalize wr.drew = w26 at BK235 HB hx237_0 hx238_0 hx239_0 hHeld ⊢
            refine pure_s (i := 0) (N := some 30) (bs 34 1) (any_of HT_.out (by kernel_rfl)) (h := ?_)
            refine pure_s (i := 2) (N := some 32) #[oT,oF,oT,oF,oF,oF,oF,oF,oF,oF,oF,oF,oF,oF,oF,oF,oF,oF,oF,oF,oF,oF,oF,oF,oF,oF,oF,oF,oF,oF,oF,oF,oF,oF] (any_of HT_.out (by kernel_rfl)) (h := ?_)
            refine take_ (i := 1) (N := some 31) (v := ?_) (a' := ?_) (bs 34 3) rfl rfl (take_ofW HT_.out HW_.out (by kernel_rfl)) (fun _ _ _ h => h) (Or.inl ⟨by rfl, ?_⟩) hHeld ?_ ?_
            rotate_left
            ·rintro w' ⟨s0, s1, s2, s3, s4⟩
             go_simp
             with_reducible rfl
            rotate_left
            ·simp only [Act.put, List.setIfInBounds_toArray, List.set_cons_zero, List.set_cons_succ, i64_w, i32_w]
             rfl
            refine pure_s (i := 3) (N := some 33) (bs 34 4) (any_of HT_.out (by kernel_rfl)) (h := ?_)
            refine take_ (i := 4) (N := some 34) (v := ?_) (a' := ?_) (bs 34 5) rfl rfl (take_ofW HT_.out HW_.out (by kernel_rfl)) (fun _ _ _ h => h) (Or.inl ⟨by rfl, ?_⟩) hHeld ?_ ?_
            rotate_left
            ·rintro w' ⟨s0, s1, s2, s3, s4⟩
             go_simp
             with_reducible rfl
            rotate_left
            ·simp only [Act.put, List.setIfInBounds_toArray, List.set_cons_zero, List.set_cons_succ, i64_w, i32_w]
             rfl
            refine pure_s (i := 5) (N := some 35) (bs 34 6) (any_of HT_.out (by kernel_rfl)) (h := ?_)
            refine pure_s (i := 6) (N := some 36) (bs 34 7) (any_of HT_.out (by kernel_rfl)) (h := ?_)
            refine pure_s (i := 7) (N := some 37) (bs 34 8) (any_of HT_.out (by kernel_rfl)) (h := ?_)
            refine pure_s (i := 9) (N := some 39) #[oT,oT,oT,oT,oT,oT,oT,oT,oF,oT,oF,oF,oF,oF,oF,oF,oF,oF,oF,oF,oF,oF,oF,oF,oF,oF,oF,oF,oF,oF,oF,oF,oF,oF] (any_of HT_.out (by kernel_rfl)) (h := ?_)
            refine pure_s (i := 12) (N := some 42) #[oT,oT,oT,oT,oT,oT,oT,oT,oF,oT,oF,oF,oT,oF,oF,oF,oF,oF,oF,oF,oF,oF,oF,oF,oF,oF,oF,oF,oF,oF,oF,oF,oF,oF] (any_of HT_.out (by kernel_rfl)) (h := ?_)
            refine take_ (i := 8) (N := some 38) (v := ?_) (a' := ?_) #[oT,oT,oT,oT,oT,oT,oT,oT,oT,oT,oF,oF,oT,oF,oF,oF,oF,oF,oF,oF,oF,oF,oF,oF,oF,oF,oF,oF,oF,oF,oF,oF,oF,oF] rfl rfl (take_ofW HT_.out HW_.out (by kernel_rfl)) (fun _ _ _ h => h) (Or.inl ⟨by rfl, ?_⟩) hHeld ?_ ?_
            rotate_left
            ·rintro w' ⟨s0, s1, s2, s3, s4⟩
             go_simp
             with_reducible rfl
            rotate_left
            ·simp only [Act.put, List.setIfInBounds_toArray, List.set_cons_zero, List.set_cons_succ, i64_w, i32_w]
             rfl
            refine pure_s (i := 10) (N := some 40) #[oT,oT,oT,oT,oT,oT,oT,oT,oT,oT,oT,oF,oT,oF,oF,oF,oF,oF,oF,oF,oF,oF,oF,oF,oF,oF,oF,oF,oF,oF,oF,oF,oF,oF] (any_of HT_.out (by kernel_rfl)) (h := ?_)
            refine take_ (i := 11) (N := some 41) (v := ?_) (a' := ?_) (bs 34 13) rfl rfl (take_ofW HT_.out HW_.out (by kernel_rfl)) (fun _ _ _ h => h) (Or.inl ⟨by rfl, ?_⟩) hHeld ?_ ?_
            rotate_left
            ·rintro w' ⟨s0, s1, s2, s3, s4⟩
             go_simp
             with_reducible rfl
            rotate_left
            ·simp only [Act.put, List.setIfInBounds_toArray, List.set_cons_zero, List.set_cons_succ, i64_w, i32_w]
             rfl
            refine pure_s (i := 13) (N := some 43) (bs 34 14) (any_of HT_.out (by kernel_rfl)) (h := ?_)
            refine pure_s (i := 14) (N := some 44) (bs 34 15) (any_of HT_.out (by kernel_rfl)) (h := ?_)
            refine pure_s (i := 15) (N := some 45) (bs 34 16) (any_of HT_.out (by kernel_rfl)) (h := ?_)
            refine pure_s (i := 16) (N := some 46) (bs 34 17) (any_of HT_.out (by kernel_rfl)) (h := ?_)
            refine pure_s (i := 18) (N := some 48) #[oT,oT,oT,oT,oT,oT,oT,oT,oT,oT,oT,oT,oT,oT,oT,oT,oT,oF,oT,oF,oF,oF,oF,oF,oF,oF,oF,oF,oF,oF,oF,oF,oF,oF] (any_of HT_.out (by kernel_rfl)) (h := ?_)
            refine take_ (i := 17) (N := some 47) (v := ?_) (a' := ?_) (bs 34 19) rfl rfl (take_ofW HT_.out HW_.out (by kernel_rfl)) (fun _ _ _ h => h) (Or.inl ⟨by rfl, ?_⟩) hHeld ?_ ?_
            rotate_left
            ·rintro w' ⟨s0, s1, s2, s3, s4⟩
             go_simp
             with_reducible rfl
            rotate_left
            ·simp only [Act.put, List.setIfInBounds_toArray, List.set_cons_zero, List.set_cons_succ, i64_w, i32_w]
             rfl
            refine pure_s (i := 19) (N := some 49) (bs 34 20) (any_of HT_.out (by kernel_rfl)) (h := ?_)
            refine take_ (i := 20) (N := some 50) (v := ?_) (a' := ?_) (bs 34 21) rfl rfl (take_ofW HT_.out HW_.out (by kernel_rfl)) (fun _ _ _ h => h) (Or.inl ⟨by rfl, ?_⟩) hHeld ?_ ?_
            rotate_left
            ·rintro w' ⟨s0, s1, s2, s3, s4⟩
             go_simp
             with_reducible rfl
            rotate_left
            ·simp only [Act.put, List.setIfInBounds_toArray, List.set_cons_zero, List.set_cons_succ, i64_w, i32_w]
             rfl
            refine pure_s (i := 21) (N := some 51) (bs 34 22) (any_of HT_.out (by kernel_rfl)) (h := ?_)
            refine pure_s (i := 22) (N := some 52) (bs 34 23) (any_of HT_.out (by kernel_rfl)) (h := ?_)
            refine pure_u (i := 23) (N := some 53) (bs 34 24) (any_of HT_.out (by kernel_rfl)) (h := ?_)
            refine pure_u (i := 24) (N := some 54) (bs 34 25) (any_of HT_.out (by kernel_rfl)) (h := ?_)
            refine pure_u (i := 25) (N := some 55) (bs 34 26) (any_of HT_.out (by kernel_rfl)) (h := ?_)
            refine pure_u (i := 26) (N := some 56) (bs 34 27) (any_of HT_.out (by kernel_rfl)) (h := ?_)
            refine pure_u (i := 27) (N := some 57) (bs 34 28) (any_of HT_.out (by kernel_rfl)) (h := ?_)
            refine pure_u (i := 28) (N := some 58) (bs 34 29) (any_of HT_.out (by kernel_rfl)) (h := ?_)
            refine pure_u (i := 29) (N := some 59) (bs 34 30) (any_of HT_.out (by kernel_rfl)) (h := ?_)
            refine pure_u (i := 30) (N := some 60) (bs 34 31) (any_of HT_.out (by kernel_rfl)) (h := ?_)
            refine pure_u (i := 31) (N := some 61) (bs 34 32) (any_of HT_.out (by kernel_rfl)) (h := ?_)
            refine pure_s (i := 32) (N := some 62) (bs 34 33) (any_of HT_.out (by kernel_rfl)) (h := ?_)
            refine pure_s (i := 33) (N := some 63) (bs 34 34) (any_of HT_.out (by kernel_rfl)) (h := ?_)
            refine done_ (done_of HT_.out (by kernel_rfl)) ?_
            try go_wp2
            go_roundg k2
            case measure => have := HJ1.out; have := HK2.out; omega
            case rel => exact ⟨(wrap64 (x4_2 + 1)), (by first | rfl | (simp; done) | (simp [*]; done)), H', ⟨by have := HJ1.out; have := HK2.out; omega⟩, ⟨bk_ BK235⟩, ⟨by repeat (first | (with_reducible first | exact HB.out | apply below_alloc | apply pw_below_drewN | apply below_drew1 | refine below_set ?_ GE235.out) | exact HB.out)⟩⟩
        ·rw [if_neg c14] at H
         exact absurd H (by simp)
       ·rw [if_neg c13] at H
        exact absurd H (by simp)
      ·rw [if_neg c12] at H
       have c12b0 : decide (x4_2 < (l0_1.length : Int)) = false := decide_eq_false c12
       clear c12
       have H' := Aside0.mk H
       clear H
       go_wp2
       go_loopg [5] k2 (fun kq v5 w' => ∃ (x5_3 : Int), v5 = .int .i64 x5_3 ∧ Aside0 (spec_SlabOk.l1 kq (l0_1.length : Int) x5_3 a0_0 l0_1 = some r) ∧ Aside0 (kq ≤ k2) ∧ Aside0 (w'.heap[gb235]? = some (.cells #[.int .i64 a0_0, (.slice A0_1 l0_1.length c0_1)] 24 (0, 0))) ∧ Aside0 (Below w.heap.size w w'))
       case atStart => exact ⟨(0), (by first | rfl | (simp; done) | (simp [*]; done)), H', ⟨Nat.le_refl _⟩, ⟨bk_ BK235⟩, ⟨by repeat (first | (with_reducible first | exact HB.out | apply below_alloc | apply pw_below_drewN | apply below_drew1 | refine below_set ?_ GE235.out) | exact HB.out)⟩⟩
       case round =>
        clear H'
        try clear c1
        try clear p2
        try clear q2
        try clear hx2
        try clear c6
        try clear p6
        try clear c12
        try clear c12b0
        try clear c13
        try clear c14
        try clear c19
        try clear c19b0
        try clear p23
        try clear q23
        try clear hx23
        try clear p24
        try clear q24
        try clear hx24
        try clear hx237_0
        try clear hx238_0
        try clear hx239_0
        try clear hx240_0
        try clear p237
        try clear p238
        try clear p239
        try clear p240
        try clear q237
        try clear q238
        try clear q239
        try clear q240
        obtain ⟨x5_3, rfl, HA, HK3, BK235, HB⟩ := hrel
        cases gk with
        | zero => exact absurd HA.out (by simp [spec_SlabOk.l1])
        | succ k3 =>
         have H := HA.out
         clear HA
         simp only [spec_SlabOk.l1] at H
         by_cases c27 : x5_3 < (l0_1.length : Int)
         ·rw [if_pos c27] at H
          have c27b0 : decide (x5_3 < (l0_1.length : Int)) = true := decide_eq_true c27
          clear c27
          have H' := Aside0.mk H
          clear H
          go_wp2
          go_loopg [6, 7] k3 (fun kq v6 v7 w' => ∃ (x6_4 : Int) (x7_4 : Int), v6 = .int .i64 x6_4 ∧ v7 = .int .i64 x7_4 ∧ Aside0 (spec_SlabOk.l2 kq (l0_1.length : Int) x5_3 x6_4 x7_4 a0_0 l0_1 = some r) ∧ Aside0 (kq ≤ k3) ∧ Aside0 (w'.heap[gb235]? = some (.cells #[.int .i64 a0_0, (.slice A0_1 l0_1.length c0_1)] 24 (0, 0))) ∧ Aside0 (Below w.heap.size w w'))
          case atStart => exact ⟨(x5_3), (0), (by first | rfl | (simp; done) | (simp [*]; done)), (by first | rfl | (simp; done) | (simp [*]; done)), H', ⟨Nat.le_refl _⟩, ⟨bk_ BK235⟩, ⟨by repeat (first | (with_reducible first | exact HB.out | apply below_alloc | apply pw_below_drewN | apply below_drew1 | refine below_set ?_ GE235.out) | exact HB.out)⟩⟩
          case round =>
           clear H'
           try clear c1
           try clear c2
           try clear p2
           try clear q2
           try clear hx2
           try clear c6
           try clear p6
           try clear c12
           try clear c12b0
           try clear c13
           try clear c14
           try clear c19
           try clear c19b0
           try clear p23
           try clear q23
           try clear hx23
           try clear p24
           try clear q24
           try clear hx24
           try clear c27
           try clear c27b0
           try clear hx237_0
           try clear hx238_0
           try clear hx239_0
           try clear hx240_0
           try clear p2
           try clear p23
           try clear p237
           try clear p238
           try clear p239
           try clear p24
           try clear p240
           try clear p6
           try clear q2
           try clear q23
           try clear q237
           try clear q238
           try clear q239
           try clear q24
           try clear q240
           obtain ⟨x6_4, x7_4, rfl, rfl, HA, HK4, BK235, HB⟩ := hrel
           cases gk with
           | zero => exact absurd HA.out (by simp [spec_SlabOk.l2])
           | succ k4 =>
            have H := HA.out
            clear HA
            simp only [spec_SlabOk.l2] at H
            by_cases c28 : x7_4 < (l0_1.length : Int)
            ·rw [if_pos c28] at H
             have c28b0 : decide (x7_4 < (l0_1.length : Int)) = true := decide_eq_true c28
             clear c28
             by_cases c29 : x6_4 ≥ 0
             ·rw [if_pos c29] at H
              have c29b0 : decide (0 ≤ x6_4) = true := decide_eq_true c29
              clear c29
              by_cases c30 : 0 ≤ x6_4
              ·rw [if_pos c30] at H
               have c30b0 : decide (0 ≤ x6_4) = true := decide_eq_true c30
               clear c30
               by_cases c31 : x6_4 < (l0_1.length : Int)
               ·rw [if_pos c31] at H
                have c31b0 : decide (x6_4 < (l0_1.length : Int)) = true := decide_eq_true c31
                clear c31
                have H' := Aside0.mk H
                clear H
                have hcz32_0 : wr.cell? ⟨gb235, 0, none⟩ = some (.int .i64 a0_0) := (blk_cell BK235.out 0).trans rfl
                have hcz32_1 : wr.cell? ⟨gb235, 1, none⟩ = some (.slice A0_1 l0_1.length c0_1) := (blk_cell BK235.out 1).trans rfl
                have hfz32_0 := blk_frozen BK235.out 0
                have hfz32_1 := blk_frozen BK235.out 1
                have p242 : 0 ≤ (x6_4 : Int) := of_decide_eq_true (by first | (with_reducible assumption) | assumption)
                have q242 : x6_4 < (l0_1.length : Int) := of_decide_eq_true (by first | (with_reducible assumption) | assumption)
                obtain ⟨ad242, e242, hx242_0⟩ := Kd.at_int HR0_1.out x6_4 p242 q242
                cases e242
                replace hx242_0 := (HB.out.cell (World.block_lt_of_cell? w _ hx242_0)).trans hx242_0
                replace p242 := eq_true p242
                replace q242 := eq_true q242
                go_wp2
                go_roundg k4
                case measure => have := HJ1.out; have := HK2.out; have := HK3.out; have := HK4.out; omega
                case rel => exact ⟨(rd l0_1 x6_4), (wrap64 (x7_4 + 1)), (by first | rfl | (simp; done) | (simp [*]; done)), (by first | rfl | (simp; done) | (simp [*]; done)), H', ⟨by have := HJ1.out; have := HK2.out; have := HK3.out; have := HK4.out; omega⟩, ⟨bk_ BK235⟩, ⟨by repeat (first | (with_reducible first | exact HB.out | apply below_alloc | apply pw_below_drewN | apply below_drew1 | refine below_set ?_ GE235.out) | exact HB.out)⟩⟩
               ·rw [if_neg c31] at H
                exact absurd H (by simp)
              ·rw [if_neg c30] at H
               exact absurd H (by simp)
             ·rw [if_neg c29] at H
              have c29b0 : decide (0 ≤ x6_4) = false := decide_eq_false c29
              clear c29
              have H' := Aside0.mk H
              clear H
              go_wp2
              go_roundg k4
              case measure => have := HJ1.out; have := HK2.out; have := HK3.out; have := HK4.out; omega
              case rel => exact ⟨(wrap64 (x5_3 + 1)), (by first | rfl | (simp; done) | (simp [*]; done)), H', ⟨by have := HJ1.out; have := HK2.out; have := HK3.out; have := HK4.out; omega⟩, ⟨bk_ BK235⟩, ⟨by repeat (first | (with_reducible first | exact HB.out | apply below_alloc | apply pw_below_drewN | apply below_drew1 | refine below_set ?_ GE235.out) | exact HB.out)⟩⟩
            ·rw [if_neg c28] at H
             have c28b0 : decide (x7_4 < (l0_1.length : Int)) = false := decide_eq_false c28
             clear c28
             by_cases c33 : x6_4 ≥ 0
             ·rw [if_pos c33] at H
              have c33b0 : decide (0 ≤ x6_4) = true := decide_eq_true c33
              clear c33
              obtain rfl := Option.some.inj H
              go_wp2
              go_ret
              exact ⟨by first | rfl | (simp [errW_none, errW_some] <;> rfl) | (simp [*, errW_none, errW_some] <;> rfl), by repeat (first | (with_reducible first | exact HB.out | apply below_alloc | apply pw_below_drewN | apply below_drew1 | refine below_set ?_ GE235.out) | exact HB.out)⟩
             ·rw [if_neg c33] at H
              have c33b0 : decide (0 ≤ x6_4) = false := decide_eq_false c33
              clear c33
              have H' := Aside0.mk H
              clear H
              go_wp2
              go_roundg k4
              case measure => have := HJ1.out; have := HK2.out; have := HK3.out; have := HK4.out; omega
              case rel => exact ⟨(wrap64 (x5_3 + 1)), (by first | rfl | (simp; done) | (simp [*]; done)), H', ⟨by have := HJ1.out; have := HK2.out; have := HK3.out; have := HK4.out; omega⟩, ⟨bk_ BK235⟩, ⟨by repeat (first | (with_reducible first | exact HB.out | apply below_alloc | apply pw_below_drewN | apply below_drew1 | refine below_set ?_ GE235.out) | exact HB.out)⟩⟩
         ·rw [if_neg c27] at H
          have c27b0 : decide (x5_3 < (l0_1.length : Int)) = false := decide_eq_false c27
          clear c27
          obtain rfl := Option.some.inj H
          go_wp2
          go_ret
          exact ⟨by first | rfl | (simp [errW_none, errW_some] <;> rfl) | (simp [*, errW_none, errW_some] <;> rfl), by repeat (first | (with_reducible first | exact HB.out | apply below_alloc | apply pw_below_drewN | apply below_drew1 | refine below_set ?_ GE235.out) | exact HB.out)⟩

end Go.Proofs.Ytaglpjlapfocfaa.PFnExactStoreGive
