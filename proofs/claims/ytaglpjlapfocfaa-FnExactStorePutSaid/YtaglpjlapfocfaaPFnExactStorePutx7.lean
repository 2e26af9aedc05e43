-- printed by a program of this session (wip/printx) out of the translation; Lean checks it
import Derived.Test.YtaglpjlapfocfaaXSq
import Derived.Test.YtaglpjlapfocfaaPFnExactStorePutx0
import Derived.Test.YtaglpjlapfocfaaPFnExactStorePutx6
namespace Go.Proofs.Ytaglpjlapfocfaa.PFnExactStorePut
open Go.RowKit Go.Proofs.YtaglpjlapfocfaaW.PrintWords Go.Proofs.YtaglpjlapfocfaaW.PrintLast Go.Proofs.YtaglpjlapfocfaaW.PrintMore
attribute [local go_sem] max2_int min2_int max_two min_two max_three min_three max_four min_four   -- for this text's walks alone
set_option linter.unusedVariables false
set_option linter.unusedSimpArgs false

/-! ### spec_StoreOk: function 39 -/
def spec_StoreOk.f (k : Nat) (a0_0 : Int) (l0_1 : List Int) (l0_2 : List Int) : Option (Bool) := (spec_SlabOk.f k a0_0 l0_1).bind fun t256 => (if t256 = true then (some ((l0_2.length : Int) == (wrap64 (16 * (l0_1.length : Int))))) else (some false))
theorem spec_StoreOk.mono : ∀ a0 a1 a2 k, LeO (spec_StoreOk.f k a0 a1 a2) (spec_StoreOk.f (k + 1) a0 a1 a2) := by
 intro a0 a1 a2 k
 unfold spec_StoreOk.f
 repeat' first
   | (with_reducible exact spec_SlabOk.mono _ _ _)
   | (with_reducible exact LeO.refl _)
   | (with_reducible exact LeO.none _)
   | (with_reducible refine LeO.ite ?_ ?_)
   | (with_reducible refine LeO.bind ?_ (fun _ => ?_))
   | exact spec_SlabOk.mono _ _ _
   | exact LeO.none _
   | refine LeO.ite ?_ ?_
   | refine LeO.bind ?_ (fun _ => ?_)
set_option maxHeartbeats 8000000 in
set_option maxRecDepth 100000 in
theorem spec_StoreOk.calls (k : Nat) (a0_0 : Int) (A0_1 : Option Addr) (c0_1 : Nat) (l0_1 : List Int) (A0_2 : Option Addr) (c0_2 : Nat) (l0_2 : List Int) (r : Bool) (w : World) (hr0_1 : Kd.C (Kd.int .i64) w A0_1 l0_1.length l0_1) (hc0_1 : l0_1.length ≤ c0_1) (hr0_2 : Kd.C (Kd.int .u8) w A0_2 l0_2.length l0_2) (hc0_2 : l0_2.length ≤ c0_2) (h : spec_StoreOk.f k a0_0 l0_1 l0_2 = some r) :
  Calls Try.prog 39 #[.agg #[.int .i64 a0_0, .slice A0_1 l0_1.length c0_1, .slice A0_2 l0_2.length c0_2]] w fun e w' => e = .returned (.bool r) ∧ Below w.heap.size w w' := by
 have hu36 := Try.underlying36; have hu24 := Try.underlying24
 have HR0_1 := Aside0.mk hr0_1
 have HC0_1 := Aside0.mk hc0_1
 clear hr0_1 hc0_1
 have HR0_2 := Aside0.mk hr0_2
 have HC0_2 := Aside0.mk hc0_2
 clear hr0_2 hc0_2; have HB := Aside0.mk (Below.refl w.heap.size w)
 have H : ((spec_SlabOk.f k a0_0 l0_1).bind fun t256 => (if t256 = true then (some ((l0_2.length : Int) == (wrap64 (16 * (l0_1.length : Int))))) else (some false))) = some r := h
 clear h
 replace H := Option.bind_eq_some_iff.mp H
 obtain ⟨t256, A20, H⟩ := H
 replace H : (if t256 = true then (some ((l0_2.length : Int) == (wrap64 (16 * (l0_1.length : Int))))) else (some false)) = some r := H
 have A2 := Aside0.mk A20
 clear A20
 by_cases c3 : t256 = true
 ·subst c3
  have H1 : (some ((l0_2.length : Int) == (wrap64 (16 * (l0_1.length : Int))))) = some r := by rw [if_pos rfl] at H; exact H
  clear H
  have H := H1
  clear H1
  obtain rfl := Option.some.inj H
  go_enter Try.func39, Try.ntmps39
  go_wp2_with (first | ((with_reducible refine gd_ 1 rfl ?_); (try (refine gate_guard (by rfl) ?_; dsimp only)); refine bv_ 1 #[.int .i64 a0_0, .slice A0_1 l0_1.length c0_1, .slice A0_2 l0_2.length c0_2] 36 ?_; intro gb255 hg w4 hbox hb; have BK255 := Aside0.mk (hbox); have GW255 := gw_ HB hg; have GE255 := gw_ HB hg; replace HB := Aside0.mk (below_step (be_ HB) hb); clear hb hbox hg; obtain ⟨hcz5_0, hcz5_1, hcz5_2, hfz5_0, hfz5_1, hfz5_2⟩ := bz3_ BK255) | ((with_reducible refine gc_ 23 rfl ?_); refine gl_ 5 Try.func23 #[.agg #[.int .i64 a0_0, .slice A0_1 l0_1.length c0_1]] ?_; (with_reducible refine (spec_SlabOk.calls k a0_0 _ _ l0_1 true _ ?side1 ?side2 A2.out).mono ?_); (case side1 => repeat (first | exact (Kd.C_below HR0_1.out HB.out) | (with_reducible refine Kd.C_alloc ?_ _) | (with_reducible refine Kd.C_drewN ?_ _) | (with_reducible refine Kd.C_drew ?_))); (case side2 => exact HC0_1.out); rintro e w6 ⟨rfl, hb⟩; refine ⟨_, rfl, ?_⟩; replace BK255 := bb_ BK255 hb; replace HB := Aside0.mk (below_step (bf_ HB) hb); (try clear hb); (try clear hb2); (try clear hk); (try clear hi); obtain ⟨hcz7_0, hcz7_1, hcz7_2, hfz7_0, hfz7_1, hfz7_2⟩ := bz3_ BK255))
  go_ret
  exact ⟨by first | rfl | (simp [errW_none, errW_some] <;> rfl) | (simp [*, errW_none, errW_some] <;> rfl), bf_ HB⟩
 ·replace c3 := Bool.eq_false_iff.mpr c3
  subst c3
  have H1 : (some false) = some r := by rw [if_neg (show ¬ (false = true) by decide)] at H; exact H
  clear H
  have H := H1
  clear H1
  obtain rfl := Option.some.inj H
  go_enter Try.func39, Try.ntmps39
  go_wp2_with (first | ((with_reducible refine gd_ 1 rfl ?_); (try (refine gate_guard (by rfl) ?_; dsimp only)); refine bv_ 1 #[.int .i64 a0_0, .slice A0_1 l0_1.length c0_1, .slice A0_2 l0_2.length c0_2] 36 ?_; intro gb255 hg w8 hbox hb; have BK255 := Aside0.mk (hbox); have GW255 := gw_ HB hg; have GE255 := gw_ HB hg; replace HB := Aside0.mk (below_step (be_ HB) hb); clear hb hbox hg; obtain ⟨hcz9_0, hcz9_1, hcz9_2, hfz9_0, hfz9_1, hfz9_2⟩ := bz3_ BK255) | ((with_reducible refine gc_ 23 rfl ?_); refine gl_ 5 Try.func23 #[.agg #[.int .i64 a0_0, .slice A0_1 l0_1.length c0_1]] ?_; (with_reducible refine (spec_SlabOk.calls k a0_0 _ _ l0_1 false _ ?side1 ?side2 A2.out).mono ?_); (case side1 => repeat (first | exact (Kd.C_below HR0_1.out HB.out) | (with_reducible refine Kd.C_alloc ?_ _) | (with_reducible refine Kd.C_drewN ?_ _) | (with_reducible refine Kd.C_drew ?_))); (case side2 => exact HC0_1.out); rintro e w10 ⟨rfl, hb⟩; refine ⟨_, rfl, ?_⟩; replace BK255 := bb_ BK255 hb; replace HB := Aside0.mk (below_step (bf_ HB) hb); (try clear hb); (try clear hb2); (try clear hk); (try clear hi)))
  go_ret
  exact ⟨by first | rfl | (simp [errW_none, errW_some] <;> rfl) | (simp [*, errW_none, errW_some] <;> rfl), bf_ HB⟩

/-! ### spec_l16Walk: function 70 -/
def spec_l16Walk.l0 : Nat → List Int → Int → Int → List Int → Option (List Int)
  | 0, _, _, _, _ => none
  | k + 1, x5, x6, x258000, x258001 => if x6 ≥ 0 then (if (x5.length : Int) < (x258001.length : Int) then (if x5.length < 17592186044416 then (if 0 ≤ x6 then (if x6 < (x258001.length : Int) then (spec_l16Walk.l0 k (x5 ++ [x6]) (rd x258001 x6) x258000 x258001) else (none)) else (none)) else (none)) else (some x5)) else (some x5)
def spec_l16Walk.f (k : Nat) (a0_0 : Int) (l0_1 : List Int) (a1 : Int) : Option (List Int) := spec_l16Walk.l0 k (([] : List Int)) a1 a0_0 l0_1
theorem spec_l16Walk.mono_l : ∀ k, (∀ y0 y1 y2 y3, LeO (spec_l16Walk.l0 k y0 y1 y2 y3) (spec_l16Walk.l0 (k + 1) y0 y1 y2 y3))
 | 0 => fun _ _ _ _ r h => by simp [spec_l16Walk.l0] at h
 | k + 1 => by
  have ih0 := spec_l16Walk.mono_l k
  ·intro y0 y1 y2 y3
   unfold spec_l16Walk.l0
   repeat' first
   | (with_reducible exact ih0 _ _ _ _)
   | (with_reducible exact LeO.refl _)
   | (with_reducible exact LeO.none _)
   | (with_reducible refine LeO.ite ?_ ?_)
   | (with_reducible refine LeO.bind ?_ (fun _ => ?_))
   | exact ih0 _ _ _ _
   | exact LeO.none _
   | refine LeO.ite ?_ ?_
   | refine LeO.bind ?_ (fun _ => ?_)
theorem spec_l16Walk.mono : ∀ a0 a1 a2 k, LeO (spec_l16Walk.f k a0 a1 a2) (spec_l16Walk.f (k + 1) a0 a1 a2) := by
 intro a0 a1 a2 k
 have ih0 := spec_l16Walk.mono_l k
 unfold spec_l16Walk.f
 repeat' first
   | (with_reducible exact ih0 _ _ _ _)
   | (with_reducible exact LeO.refl _)
   | (with_reducible exact LeO.none _)
   | (with_reducible refine LeO.ite ?_ ?_)
   | (with_reducible refine LeO.bind ?_ (fun _ => ?_))
   | exact ih0 _ _ _ _
   | exact LeO.none _
   | refine LeO.ite ?_ ?_
   | refine LeO.bind ?_ (fun _ => ?_)
set_option maxHeartbeats 8000000 in
set_option maxRecDepth 100000 in
theorem spec_l16Walk.calls (k : Nat) (a0_0 : Int) (A0_1 : Option Addr) (c0_1 : Nat) (l0_1 : List Int) (a1 : Int) (r : List Int) (w : World) (hr0_1 : Kd.C (Kd.int .i64) w A0_1 l0_1.length l0_1) (hc0_1 : l0_1.length ≤ c0_1) (h : spec_l16Walk.f k a0_0 l0_1 a1 = some r) :
  Calls Try.prog 70 #[.agg #[.int .i64 a0_0, .slice A0_1 l0_1.length c0_1], .int .i64 a1] w fun e w' => ∃ v0_ : Value, e = .returned (v0_) ∧ Kd.R (Kd.int .i64) 3 w' w.heap.size (fun _ => True) v0_ r ∧ Below w.heap.size w w' := by
 have hu24 := Try.underlying24
 have HR0_1 := Aside0.mk hr0_1
 have HC0_1 := Aside0.mk hc0_1
 clear hr0_1 hc0_1; have HB := Aside0.mk (Below.refl w.heap.size w)
 have H : (spec_l16Walk.l0 k (([] : List Int)) a1 a0_0 l0_1) = some r := h
 clear h
 obtain ⟨y258, hy258⟩ : ∃ y_ : List Int, y_ = (([] : List Int)) := ⟨_, rfl⟩
 replace H : (spec_l16Walk.l0 k y258 a1 a0_0 l0_1) = some r := by first | (rw [hy258]; with_reducible exact H) | (have H2_ := (Option.bind_some _ _).symm.trans H; rw [hy258]; with_reducible exact H2_) | (have H2_ := (Option.bind_some _ _).symm.trans H; with_reducible exact H2_) | with_reducible exact H | (rw [hy258]; exact H) | exact H
 have Ny258 := Aside0.mk hy258
 clear hy258
 have H' := Aside0.mk H
 clear H
 go_enter Try.func70, Try.ntmps70
 go_wp2_with (first | ((with_reducible refine gd_ 2 rfl ?_); (try (refine gate_guard (by rfl) ?_; dsimp only)); refine bv_ 2 #[.int .i64 a0_0, .slice A0_1 l0_1.length c0_1] 24 ?_; intro gb257 hg w3 hbox hb; have BK257 := Aside0.mk (hbox); have GW257 := gw_ HB hg; have GE257 := gw_ HB hg; replace HB := Aside0.mk (below_step (be_ HB) hb); clear hb hbox hg) | ((with_reducible refine gd_ 7 rfl ?_); (try (refine gate_guard (by rfl) ?_; dsimp only)); refine Kd.R_lit (Kd.int .i64) _ 3 ?hg (N := 7) ?hd (xs := ([] : List Int)) (inner := []) (ok := fun _ => True) (okp := fun _ => True) ?hr ?hp (fun _ hk => by first | exact hk | grind) trivial (Below.refl _ _) (Nat.le_refl _) (by simp) ?_; (case hd => rfl); (case hg => rfl); (case hr => first | (go_simp; done) | (go_simp; rfl)); (case hp => exact (Reps.none _ _)); intro v259 w4 ho5 hb hg_ hnew_; clear hg_ hnew_; (first | rw [← Ny258.out] at ho5 | (simp only [Int.reduceToNat] at ho5; rw [← Ny258.out] at ho5)); have HO260 := Aside0.mk (Kd.R_lower ho5 (below_size (bf_ HB))); replace BK257 := bb_ BK257 hb; replace HB := Aside0.mk (below_step (bf_ HB) hb); clear hb ho5))
 go_loopg [5, 6] k (fun kq v5 v6 w' => ∃ (x5_1 : List Int) (x6_1 : Int), v6 = .int .i64 x6_1 ∧ Aside0 (spec_l16Walk.l0 kq x5_1 x6_1 a0_0 l0_1 = some r) ∧ Aside0 (kq ≤ k) ∧ Aside0 (Kd.R (Kd.int .i64) 3 w' w.heap.size (fun _ => True) v5 x5_1) ∧ Aside0 (w'.heap[gb257]? = some (.cells #[.int .i64 a0_0, (.slice A0_1 l0_1.length c0_1)] 24 (0, 0))) ∧ Aside0 (Below w.heap.size w w'))
 case atStart => exact ⟨(y258), (a1), (by first | rfl | (simp; done) | (simp [*]; done)), H', ⟨Nat.le_refl _⟩, ⟨kr_ HO260⟩, ⟨bk_ BK257⟩, ⟨bf_ HB⟩⟩
 case round =>
  clear H'
  (try clear p2)
  obtain ⟨x5_1, x6_1, rfl, HA, HK1, HO_5, BK257, HB⟩ := hrel
  cases gk with
  | zero => exact absurd HA.out (by simp [spec_l16Walk.l0])
  | succ k1 =>
   have H := HA.out
   clear HA
   simp only [spec_l16Walk.l0] at H
   by_cases c6 : x6_1 ≥ 0
   ·rw [if_pos c6] at H
    have c6b0 : decide (0 ≤ x6_1) = true := decide_eq_true c6
    clear c6
    by_cases c7 : (x5_1.length : Int) < (l0_1.length : Int)
    ·rw [if_pos c7] at H
     have c7b0 : decide ((x5_1.length : Int) < (l0_1.length : Int)) = true := decide_eq_true c7
     have c7b1 : decide (x5_1.length < l0_1.length) = true := decide_eq_true (Int.ofNat_lt.mp c7)
     clear c7
     by_cases c8 : x5_1.length < 17592186044416
     ·rw [if_pos c8] at H
      have LMc8 := Aside0.mk c8
      clear c8
      obtain ⟨y261, hy261⟩ : ∃ y_ : List Int, y_ = (x5_1 ++ [x6_1]) := ⟨_, rfl⟩
      replace H : (if 0 ≤ x6_1 then (if x6_1 < (l0_1.length : Int) then (spec_l16Walk.l0 k1 y261 (rd l0_1 x6_1) a0_0 l0_1) else (none)) else (none)) = some r := by first | (rw [hy261]; with_reducible exact H) | (have H2_ := (Option.bind_some _ _).symm.trans H; rw [hy261]; with_reducible exact H2_) | (have H2_ := (Option.bind_some _ _).symm.trans H; with_reducible exact H2_) | with_reducible exact H | (rw [hy261]; exact H) | exact H
      have Ny261 := Aside0.mk hy261
      clear hy261
      by_cases c9 : 0 ≤ x6_1
      ·rw [if_pos c9] at H
       have c9b0 : decide (0 ≤ x6_1) = true := decide_eq_true c9
       clear c9
       by_cases c10 : x6_1 < (l0_1.length : Int)
       ·rw [if_pos c10] at H
        have c10b0 : decide (x6_1 < (l0_1.length : Int)) = true := decide_eq_true c10
        clear c10
        have H' := Aside0.mk H
        clear H
        obtain ⟨Ao11, co11, eo11⟩ := Kd.R_slice HO_5.out
        subst eo11
        obtain ⟨hcz12_0, hcz12_1, hfz12_0, hfz12_1⟩ := bz2_ BK257
        go_wp2_with (first | ((with_reducible refine gate_builtin (b := .append) (xs := #[.tmp 24, .tmp 26]) rfl ?_); (try (refine gate_guard (by rfl) ?_; dsimp only)); at_builtin; refine Kd.R_append (Kd.int .i64) (w0 := w) w.heap.size rfl (.tmp 24) (.tmp 26) 22 3 (.int .i64 0) 8 rfl Try.underlying22 info3 rfl (by decide) (by omega) (.slice Ao11 x5_1.length co11) x5_1 x6_1 [.int .i64 x6_1] (fun _ => True) (fun _ => False) rfl rfl ?aP (fun _ hk => by first | exact hk.elim | grind) ?aF ?aO ?aB ?aS ?aL ?_; (case aP => exact rfl); (case aB => exact (bf_ HB)); (case aF => exact (fun _ _ => trivial)); (case aO => exact (kr_ HO_5)); (case aS => exact (below_size (bf_ HB))); (case aL => have := LMc8.out; omega); intro v262 w13 ho hb hg hat; rw [← Ny261.out] at ho; replace BK257 := Aside0.mk (blk_grown (g := gb257) (o := .cells #[.int .i64 a0_0, .slice A0_1 l0_1.length c0_1] 24 (0, 0)) (bk_ BK257) hg (Kd.R_ne HO_5.out BK257.out (by decide))); replace HB := Aside0.mk (hb); have HO263 := Aside0.mk (ho); clear HO_5 ho hb hg hat; obtain ⟨hcz14_0, hcz14_1, hfz14_0, hfz14_1⟩ := bz2_ BK257; have p264 : 0 ≤ (x6_1 : Int) := od_; have q264 : x6_1 < (l0_1.length : Int) := od_; obtain ⟨ad264, e264, hx264_0⟩ := Kd.at_int HR0_1.out x6_1 p264 q264; cases e264; replace hx264_0 := hb_ HB hx264_0; replace p264 := eq_true p264; replace q264 := eq_true q264))
        go_roundg k1
        case measure => have := HK1.out; omega
        case rel => exact ⟨(y261), (rd l0_1 x6_1), (by first | rfl | (simp; done) | (simp [*]; done)), H', ⟨by have := HK1.out; omega⟩, ⟨kr_ HO263⟩, ⟨bk_ BK257⟩, ⟨bf_ HB⟩⟩
       ·rw [if_neg c10] at H
        exact absurd H (by simp)
      ·rw [if_neg c9] at H
       exact absurd H (by simp)
     ·rw [if_neg c8] at H
      exact absurd H (by simp)
    ·rw [if_neg c7] at H
     have c7b0 : decide ((x5_1.length : Int) < (l0_1.length : Int)) = false := decide_eq_false c7
     have c7b1 : decide (x5_1.length < l0_1.length) = false := decide_eq_false (fun h => c7 (Int.ofNat_lt.mpr h))
     clear c7
     obtain rfl := Option.some.inj H
     obtain ⟨Ao15, co15, eo15⟩ := Kd.R_slice HO_5.out
     subst eo15
     obtain ⟨hcz16_0, hcz16_1, hfz16_0, hfz16_1⟩ := bz2_ BK257
     go_wp2
     go_ret
     exact ⟨_, by first | rfl | (simp [errW_none, errW_some] <;> rfl) | (simp [*, errW_none, errW_some] <;> rfl), by (with_reducible repeat (first | apply Kd.R_alloc | apply Kd.R_drewN | apply Kd.R_drew)); exact HO_5.out, bf_ HB⟩
   ·rw [if_neg c6] at H
    have c6b0 : decide (0 ≤ x6_1) = false := decide_eq_false c6
    clear c6
    obtain rfl := Option.some.inj H
    go_wp2
    go_ret
    exact ⟨_, by first | rfl | (simp [errW_none, errW_some] <;> rfl) | (simp [*, errW_none, errW_some] <;> rfl), by (with_reducible repeat (first | apply Kd.R_alloc | apply Kd.R_drewN | apply Kd.R_drew)); exact HO_5.out, bf_ HB⟩

/-! ### spec_l16Copy: function 72 -/
def spec_l16Copy.f (a0_0 : Int) (l0_1 : List Int) : Option (Int × List Int) := (some (([] : List Int) : List Int)).bind fun y267 => (if y267.length + l0_1.length < 17592186044416 then (some (a0_0, (y267 ++ l0_1))) else (none))
def spec_l16Copy.T1 : Bool × List (List Nat × List Nat) := (true, [([], []), ([0], [0]), ([], []), ([], []), ([3], [3]), ([2, 4], [2, 4]), ([1, 5], [1, 5]), ([6, 5, 0, 1, 2, 3, 4, 5, 6], [6])])
def spec_l16Copy.B1 : List Nat := [0, 1, 0, 0, 8, 28, 63, 127]
theorem spec_l16Copy.tab1 : rtab .any (opsOf Try.f72 1) = spec_l16Copy.T1 := by kernel_rfl
theorem spec_l16Copy.bits1 : waitsOk spec_l16Copy.T1.2 spec_l16Copy.B1 = true := by kernel_rfl
set_option maxHeartbeats 8000000 in
set_option maxRecDepth 100000 in
theorem spec_l16Copy.calls (a0_0 : Int) (A0_1 : Option Addr) (c0_1 : Nat) (l0_1 : List Int) (r1 : Int) (r2 : List Int) (w : World) (hr0_1 : Kd.C (Kd.int .i64) w A0_1 l0_1.length l0_1) (hc0_1 : l0_1.length ≤ c0_1) (h : spec_l16Copy.f a0_0 l0_1 = some (r1, r2)) :
  Calls Try.prog 72 #[.agg #[.int .i64 a0_0, .slice A0_1 l0_1.length c0_1]] w fun e w' => ∃ v1_ : Value, e = .returned (.agg #[.int .i64 r1, v1_]) ∧ Kd.R (Kd.int .i64) 3 w' w.heap.size (fun _ => True) v1_ r2 ∧ Below w.heap.size w w' := by
 have hu24 := Try.underlying24
 have HR0_1 := Aside0.mk hr0_1
 have HC0_1 := Aside0.mk hc0_1
 clear hr0_1 hc0_1; have HB := Aside0.mk (Below.refl w.heap.size w)
 have H : ((some (([] : List Int) : List Int)).bind fun y267 => (if y267.length + l0_1.length < 17592186044416 then (some (a0_0, (y267 ++ l0_1))) else (none))) = some (r1, r2) := h
 clear h
 obtain ⟨y267, hy267⟩ : ∃ y_ : List Int, y_ = (([] : List Int)) := ⟨_, rfl⟩
 replace H : (if y267.length + l0_1.length < 17592186044416 then (some (a0_0, (y267 ++ l0_1))) else (none)) = some (r1, r2) := by first | (rw [hy267]; with_reducible exact H) | (have H2_ := (Option.bind_some _ _).symm.trans H; rw [hy267]; with_reducible exact H2_) | (have H2_ := (Option.bind_some _ _).symm.trans H; with_reducible exact H2_) | with_reducible exact H | (rw [hy267]; exact H) | exact H
 have Ny267 := Aside0.mk hy267
 clear hy267
 by_cases c2 : y267.length + l0_1.length < 17592186044416
 ·rw [if_pos c2] at H
  have LMc2 := Aside0.mk c2
  clear c2
  obtain ⟨y270, hy270⟩ : ∃ y_ : List Int, y_ = (y267 ++ l0_1) := ⟨_, rfl⟩
  replace H : (some (a0_0, y270)) = some (r1, r2) := by first | (rw [hy270]; with_reducible exact H) | (have H2_ := (Option.bind_some _ _).symm.trans H; rw [hy270]; with_reducible exact H2_) | (have H2_ := (Option.bind_some _ _).symm.trans H; with_reducible exact H2_) | with_reducible exact H | (rw [hy270]; exact H) | exact H
  have Ny270 := Aside0.mk hy270
  clear hy270
  simp only [Option.some.injEq, Prod.mk.injEq] at H
  obtain ⟨rfl, rfl⟩ := H
  go_enter Try.func72, Try.ntmps72
  try go_wp2_with (first | ((with_reducible refine gd_ 1 rfl ?_); refine bv_ 1 #[.int .i64 a0_0, .slice A0_1 l0_1.length c0_1] 24 ?_; intro gb265 hg w3 hbox hb; have BK265 := Aside0.mk (hbox); have GW265 := gw_ HB hg; have GE265 := gw_ HB hg; replace HB := Aside0.mk (below_step (be_ HB) hb); clear hb hbox hg) | ((with_reducible refine gd_ 2 rfl ?_); refine bv_ 2 #[.int .i64 0, .slice none 0 0] 24 ?_; intro gb266 hg w4 hbox hb; have BK266 := Aside0.mk (hbox); have GW266 := gw_ HB hg; have GE266 := gw_ HB hg; replace HB := Aside0.mk (below_step (bf_ HB) hb); have NB265_266 := nl_ BK265 hg; have NB266_265 := ng_ BK265 hg; replace BK265 := bb_ BK265 hb; clear hb hbox hg))
  replace BK265 := Aside0.mk (blk_drew BK265.out); replace BK266 := Aside0.mk (blk_drew BK266.out); replace HB := Aside0.mk (below_drew1 HB.out)
  refine start_ (n := 8) (S := fun w' => cw_ w' gb265 0 (.int .i64 a0_0) ∧ cw_ w' gb265 1 (.slice A0_1 l0_1.length c0_1)) (ds := []) (bs 8 0) (by kernel_rfl) rfl rfl ⟨bt_ BK265 0, bt_ BK265 1⟩ (fun hHeld => ?_); refine with_tabW spec_l16Copy.tab1 spec_l16Copy.bits1 (fun HT_ HW_ => ?_)
  generalize w4.drew = w5 at BK265 BK266 HB hHeld ⊢
  refine ps_ 0 3 (bs 8 1) HT_ ?_
  refine ps_ 3 6 (bm 8 9) HT_ ?_
  refine tk_ 1 4 (bm 8 11) HT_ HW_ hHeld ?_
  refine tk_ 4 7 (bm 8 27) HT_ HW_ hHeld ?_
  refine on_ 2 (some 5) (bs 8 5) HT_ (fun K hK => ?_)
  refine Kd.R_lit_step (Kd.int .i64) _ 3 ?hg (N := 5) ?hd (xs := ([] : List Int)) (inner := []) (ok := fun _ => True) (okp := fun _ => True) ?hr ?hp (fun _ hk => by first | exact hk | grind) trivial (Below.refl _ _) (Nat.le_refl _) (by simp) ?_; (case hd => rfl); (case hg => rfl); (case hr => first | (go_simp; done) | (go_simp; rfl)); (case hp => exact (Reps.none _ _))
  intro v268 w6 ho7 hb hg_ hnew_
  clear hg_ hnew_
  (first | rw [← Ny267.out] at ho7 | (simp only [Int.reduceToNat] at ho7; rw [← Ny267.out] at ho7))
  have HO269 := Aside0.mk (Kd.R_lower ho7 (below_size (bf_ HB))); replace BK265 := bb_ BK265 hb; replace BK266 := bb_ BK266 hb; replace HB := Aside0.mk (below_step (bf_ HB) hb); clear hb ho7
  refine hK.out _ _ ⟨bt_ BK265 0, bt_ BK265 1⟩ (fun hHeld => ?_)
  clear hK K
  refine norm_ (a' := ?_) ?_ ?_
  rotate_left
  ·show Act.put _ (some 5) _ = _
   simp only [Act.put, ls0_, ls1_, ls2_, i64_w, i32_w]
   rfl
  refine on_ 5 (some 8) (bs 8 6) HT_ (fun K hK => ?_)
  refine Kd.R_append_rows_step (Kd.int .i64) (w0 := w) w.heap.size (by rfl) (.tmp 5) (.tmp 7) 22 3 (.int .i64 0) 8 rfl Try.underlying22 info3 rfl (by decide) (by omega) v268 y267 l0_1 _ _ _ (fun _ => True) (fun _ => False) rfl rfl ?aO ?aR (fun _ _ h => h) (fun _ h => h.elim) ?aF ?aB ?aS ?aL ?_
  (case aR => repeat (first | exact (Kd.C_below HR0_1.out HB.out) | (with_reducible refine Kd.C_alloc ?_ _) | (with_reducible refine Kd.C_drewN ?_ _) | (with_reducible refine Kd.C_drew ?_)))
  (case aB => exact (bf_ HB))
  (case aF => exact (fun _ _ => trivial))
  (case aO => exact (kr_ HO269))
  (case aS => exact (below_size (bf_ HB)))
  (case aL => have := LMc2.out; omega)
  intro v271 w8 ho hb hg hat
  rw [← Ny270.out] at ho
  have n0_ := Aside0.mk (blk_grown (g := gb265) (o := .cells #[.int .i64 a0_0, .slice A0_1 l0_1.length c0_1] 24 (0, 0)) (bk_ BK265) hg (Kd.R_ne HO269.out BK265.out (by decide)))
  have n1_ := Aside0.mk (blk_grown (g := gb266) (o := .cells #[.int .i64 0, .slice none 0 0] 24 (0, 0)) (bk_ BK266) hg (Kd.R_ne HO269.out BK266.out (by decide)))
  have n2_ := Aside0.mk (hb); have n3_ := Aside0.mk (ho); clear BK265 BK266 HB HO269; have BK265 := n0_; have BK266 := n1_; have HB := n2_; have HO272 := n3_; clear n0_ n1_ n2_ n3_ ho hb hg hat
  obtain ⟨Ao9, co9, eo9⟩ := Kd.R_slice HO272.out
  (first | subst eo9 | (injection eo9 with f1_ f2_ f3_; have f4_ := f1_.symm; have f5_ := f3_.symm; clear f1_ f2_ f3_; subst f4_; subst f5_))
  refine hK.out _ _ ⟨bt_ BK265 0, bt_ BK265 1⟩ (fun hHeld => ?_)
  clear hK K
  refine norm_ (a' := ?_) ?_ ?_
  rotate_left
  ·show Act.put _ (some 8) _ = _
   simp only [Act.put, ls0_, ls1_, ls2_, i64_w, i32_w]
   rfl
  refine ps_ 6 9 (bs 8 7) HT_ ?_
  refine on_ 7 none (bs 8 8) HT_ (fun K hK => ?_)
  have hs10 := bc_ BK266 0 (.int .i64 0) rfl; have hfs10 := blk_frozen BK266.out 0; have hns10_0 := NB265_266.out; have hms10_0 := NB266_265.out; have hs11 := bc_ BK266 1 (.slice none 0 0) rfl; have hfs11 := blk_frozen BK266.out 1; have hns11_0 := NB265_266.out; have hms11_0 := NB266_265.out
  refine skip_ (w1 := ?_) (by rfl) rfl ?_ ?_
  rotate_left
  ·go_simp
   rfl
  refine hK.out _ _ ⟨(cf2_ NB265_266.out hHeld.1), (cf2_ NB265_266.out hHeld.2)⟩ (fun hHeld => ?_)
  clear hK K
  refine done_ (done_of HT_.out (by kernel_rfl)) ?_
  try go_wp2
  refine bodyPost_ret (results_cell_row rfl _ _ gb266 24 #[.int .i64 a0_0, .slice Ao9 y270.length co9] (0, 0) _ rfl (by (with_reducible repeat (first | refine blk_drewN ?_ _ | refine blk_drew ?_ | refine blk_alloc ?_ _)); refine blk_put (cs := #[.int .i64 a0_0, .slice none 0 0]) ?_ 1 _ rfl; (with_reducible repeat (first | refine blk_drewN ?_ _ | refine blk_drew ?_ | refine blk_alloc ?_ _)); refine blk_put (cs := #[.int .i64 0, .slice none 0 0]) ?_ 0 _ rfl; exact bk_ BK266) Try.underlying24 rfl (by kernel_rfl)) rfl ?_
  exact ⟨_, by first | rfl | (simp [errW_none, errW_some] <;> rfl) | (simp [*, errW_none, errW_some] <;> rfl), by (with_reducible repeat (first | apply Kd.R_alloc | apply Kd.R_drewN | apply Kd.R_drew)); exact Kd.R_mono (Kd.R_far (p := ⟨gb266, 1, none⟩) (Kd.R_far (p := ⟨gb266, 0, none⟩) (Kd.R_types HO272.out BK266.out (by decide)) (fun _ hk => by first | exact hk.2 | grind) (.int .i64 a0_0)) (fun _ hk => by first | exact hk.2 | grind) (.slice Ao9 y270.length co9)) (fun _ hk => by first | exact trivial | grind), bf_ HB⟩
 ·rw [if_neg c2] at H
  exact absurd H (by simp)

/-! ### spec_SlabTake: function 44 -/
def spec_SlabTake.j0 : Nat → Int → Bool → Int → List Int → Option (Int × List Int × Int × Int)
  | 0, _, _, _, _ => none
  | k + 1, x1, x15, x274000, x274001 => if x15 = true then (some (0, ([] : List Int), (-1), 1)) else ((spec_l16Walk.f k x274000 x274001 x274000).bind fun t276 => (if (t276.length : Int) < x1 then (some (0, ([] : List Int), (-1), 2)) else ((spec_l16Copy.f x274000 x274001).bind fun bt279 => (if 0 ≤ (wrap64 (x1 - 1)) then (if (wrap64 (x1 - 1)) < (t276.length : Int) then (if 0 ≤ (rd t276 (wrap64 (x1 - 1))) then (if (rd t276 (wrap64 (x1 - 1))) < (bt279.2.length : Int) then ((some (bt279.2.set ((rd t276 (wrap64 (x1 - 1))) : Int).toNat (-1) : List Int)).bind fun y285 => (if (t276.length : Int) > x1 then (if 0 ≤ x1 then (if x1 < (t276.length : Int) then (if 0 < (t276.length : Int) then (some (rd t276 x1, y285, rd t276 0, 0)) else (none)) else (none)) else (none)) else (if 0 < (t276.length : Int) then (some ((-1), y285, rd t276 0, 0)) else (none)))) else (none)) else (none)) else (none)) else (none)))))
def spec_SlabTake.f (k : Nat) (a0_0 : Int) (l0_1 : List Int) (a1 : Int) : Option (Int × List Int × Int × Int) := (spec_SlabOk.f k a0_0 l0_1).bind fun t275 => (if t275 = true then (spec_SlabTake.j0 k a1 (decide (a1 < 1)) a0_0 l0_1) else (spec_SlabTake.j0 k a1 true a0_0 l0_1))
theorem spec_SlabTake.mono_l : ∀ k, (∀ y0 y1 y2 y3, LeO (spec_SlabTake.j0 k y0 y1 y2 y3) (spec_SlabTake.j0 (k + 1) y0 y1 y2 y3))
 | 0 => fun _ _ _ _ r h => by simp [spec_SlabTake.j0] at h
 | k + 1 => by
  have ih0 := spec_SlabTake.mono_l k
  ·intro y0 y1 y2 y3
   unfold spec_SlabTake.j0
   repeat' first
   | (with_reducible exact ih0 _ _ _ _)
   | (with_reducible exact spec_SlabOk.mono _ _ _)
   | (with_reducible exact spec_l16Walk.mono _ _ _ _)
   | (with_reducible exact LeO.refl _)
   | (with_reducible exact LeO.none _)
   | (with_reducible refine LeO.ite ?_ ?_)
   | (with_reducible refine LeO.bind ?_ (fun _ => ?_))
   | exact ih0 _ _ _ _
   | exact spec_SlabOk.mono _ _ _
   | exact spec_l16Walk.mono _ _ _ _
   | exact LeO.none _
   | refine LeO.ite ?_ ?_
   | refine LeO.bind ?_ (fun _ => ?_)
theorem spec_SlabTake.mono : ∀ a0 a1 a2 k, LeO (spec_SlabTake.f k a0 a1 a2) (spec_SlabTake.f (k + 1) a0 a1 a2) := by
 intro a0 a1 a2 k
 have ih0 := spec_SlabTake.mono_l k
 unfold spec_SlabTake.f
 repeat' first
   | (with_reducible exact ih0 _ _ _ _)
   | (with_reducible exact spec_SlabOk.mono _ _ _)
   | (with_reducible exact spec_l16Walk.mono _ _ _ _)
   | (with_reducible exact LeO.refl _)
   | (with_reducible exact LeO.none _)
   | (with_reducible refine LeO.ite ?_ ?_)
   | (with_reducible refine LeO.bind ?_ (fun _ => ?_))
   | exact ih0 _ _ _ _
   | exact spec_SlabOk.mono _ _ _
   | exact spec_l16Walk.mono _ _ _ _
   | exact LeO.none _
   | refine LeO.ite ?_ ?_
   | refine LeO.bind ?_ (fun _ => ?_)
def spec_SlabTake.T7 : Bool × List (List Nat × List Nat) := (true, [([], []), ([0], [0]), ([], []), ([], []), ([3], [3]), ([2, 4], [2, 4]), ([5], [5]), ([1, 6, 0, 1, 2, 3, 4, 5, 6], [1, 6]), ([7, 0, 1, 2, 3, 4, 5, 6], [7])])
def spec_SlabTake.B7 : List Nat := [0, 1, 0, 0, 8, 28, 60, 127, 255]
theorem spec_SlabTake.tab7 : rtab .any (opsOf Try.f44 7) = spec_SlabTake.T7 := by kernel_rfl
theorem spec_SlabTake.bits7 : waitsOk spec_SlabTake.T7.2 spec_SlabTake.B7 = true := by kernel_rfl
set_option maxHeartbeats 8000000 in
set_option maxRecDepth 100000 in
theorem spec_SlabTake.calls (k : Nat) (a0_0 : Int) (A0_1 : Option Addr) (c0_1 : Nat) (l0_1 : List Int) (a1 : Int) (r1 : Int) (r2 : List Int) (r3 : Int) (r4 : Int) (w : World) (hr0_1 : Kd.C (Kd.int .i64) w A0_1 l0_1.length l0_1) (hc0_1 : l0_1.length ≤ c0_1) (h : spec_SlabTake.f k a0_0 l0_1 a1 = some (r1, r2, r3, r4)) :
  Calls Try.prog 44 #[.agg #[.int .i64 a0_0, .slice A0_1 l0_1.length c0_1], .int .i64 a1] w fun e w' => ∃ v1_ : Value, e = .returned (.tuple #[.agg #[.int .i64 r1, v1_], .int .i64 r3, .int .i64 r4]) ∧ Kd.R (Kd.int .i64) 3 w' w.heap.size (fun _ => True) v1_ r2 ∧ Below w.heap.size w w' := by
 have hu24 := Try.underlying24
 have HR0_1 := Aside0.mk hr0_1
 have HC0_1 := Aside0.mk hc0_1
 clear hr0_1 hc0_1; have HB := Aside0.mk (Below.refl w.heap.size w)
 have H : ((spec_SlabOk.f k a0_0 l0_1).bind fun t275 => (if t275 = true then (spec_SlabTake.j0 k a1 (decide (a1 < 1)) a0_0 l0_1) else (spec_SlabTake.j0 k a1 true a0_0 l0_1))) = some (r1, r2, r3, r4) := h
 clear h
 have HC3 := Aside0.mk H
 clear H
 go_enter Try.func44, Try.ntmps44
 go_upto_region 1 with (first | ((with_reducible refine gd_ 2 rfl ?_); refine bv_ 2 #[.int .i64 a0_0, .slice A0_1 l0_1.length c0_1] 24 ?_; intro gb273 hg w4 hbox hb; have BK273 := Aside0.mk (hbox); have GW273 := gw_ HB hg; have GE273 := gw_ HB hg; replace HB := Aside0.mk (below_step (be_ HB) hb); clear hb hbox hg) | ((with_reducible refine gd_ 4 rfl ?_); refine bv_ 4 #[.int .i64 0, .slice none 0 0] 24 ?_; intro gb274 hg w5 hbox hb; have BK274 := Aside0.mk (hbox); have GW274 := gw_ HB hg; have GE274 := gw_ HB hg; replace HB := Aside0.mk (below_step (bf_ HB) hb); have NB273_274 := nl_ BK273 hg; have NB274_273 := ng_ BK273 hg; replace BK273 := bb_ BK273 hb; clear hb hbox hg))
 (try simp only [Act.put, ls0_, ls1_, ls2_])
 go_cut [15] (fun v15 wc => ∃ (kq : Nat) (x15_2 : Bool), v15 = .bool x15_2 ∧ Aside0 (spec_SlabTake.j0 kq a1 x15_2 a0_0 l0_1 = some (r1, r2, r3, r4)) ∧ Aside0 (kq ≤ k) ∧ Aside0 (wc.heap[gb273]? = some (.cells #[.int .i64 a0_0, (.slice A0_1 l0_1.length c0_1)] 24 (0, 0))) ∧ Aside0 (wc.heap[gb274]? = some (.cells #[.int .i64 0, (.slice none 0 0)] 24 (0, 0))) ∧ Aside0 (Below w.heap.size w wc))
 case first =>
  have H := HC3.out
  clear HC3
  replace H := Option.bind_eq_some_iff.mp H
  obtain ⟨t275, A60, H⟩ := H
  replace H : (if t275 = true then (spec_SlabTake.j0 k a1 (decide (a1 < 1)) a0_0 l0_1) else (spec_SlabTake.j0 k a1 true a0_0 l0_1)) = some (r1, r2, r3, r4) := H
  have A6 := Aside0.mk A60
  clear A60
  by_cases c7 : t275 = true
  ·subst c7
   have H1 : (spec_SlabTake.j0 k a1 (decide (a1 < 1)) a0_0 l0_1) = some (r1, r2, r3, r4) := by rw [if_pos rfl] at H; exact H
   clear H
   have H := H1
   clear H1
   have H' := Aside0.mk H
   clear H; have hnb8 := NB273_274.out; have hnc8 := NB274_273.out; obtain ⟨hcz9_0, hcz9_1, hfz9_0, hfz9_1⟩ := bz2_ BK273
   go_wp2_with (first | ((with_reducible refine gc_ 23 rfl ?_); refine gl_ 10 Try.func23 #[.agg #[.int .i64 a0_0, .slice A0_1 l0_1.length c0_1]] ?_; (with_reducible refine (spec_SlabOk.calls k a0_0 _ _ l0_1 true _ ?side1 ?side2 A6.out).mono ?_); (case side1 => repeat (first | exact (Kd.C_below HR0_1.out HB.out) | (with_reducible refine Kd.C_alloc ?_ _) | (with_reducible refine Kd.C_drewN ?_ _) | (with_reducible refine Kd.C_drew ?_))); (case side2 => exact HC0_1.out); rintro e w10 ⟨rfl, hb⟩; refine ⟨_, rfl, ?_⟩; replace BK273 := bb_ BK273 hb; replace BK274 := bb_ BK274 hb; replace HB := Aside0.mk (below_step (bf_ HB) hb); (try clear hb); (try clear hb2); (try clear hk); (try clear hi)))
   go_meet
   case rel => exact ⟨_, (decide (a1 < 1)), (by first | rfl | (simp; done) | (simp [*]; done)), H', ⟨by first | omega | exact Nat.le_refl _⟩, ⟨bk_ BK273⟩, ⟨bk_ BK274⟩, ⟨bf_ HB⟩⟩
  ·replace c7 := Bool.eq_false_iff.mpr c7
   subst c7
   have H1 : (spec_SlabTake.j0 k a1 true a0_0 l0_1) = some (r1, r2, r3, r4) := by rw [if_neg (show ¬ (false = true) by decide)] at H; exact H
   clear H
   have H := H1
   clear H1
   have H' := Aside0.mk H
   clear H; have hnb11 := NB273_274.out; have hnc11 := NB274_273.out; obtain ⟨hcz12_0, hcz12_1, hfz12_0, hfz12_1⟩ := bz2_ BK273
   go_wp2_with (first | ((with_reducible refine gc_ 23 rfl ?_); refine gl_ 10 Try.func23 #[.agg #[.int .i64 a0_0, .slice A0_1 l0_1.length c0_1]] ?_; (with_reducible refine (spec_SlabOk.calls k a0_0 _ _ l0_1 false _ ?side1 ?side2 A6.out).mono ?_); (case side1 => repeat (first | exact (Kd.C_below HR0_1.out HB.out) | (with_reducible refine Kd.C_alloc ?_ _) | (with_reducible refine Kd.C_drewN ?_ _) | (with_reducible refine Kd.C_drew ?_))); (case side2 => exact HC0_1.out); rintro e w13 ⟨rfl, hb⟩; refine ⟨_, rfl, ?_⟩; replace BK273 := bb_ BK273 hb; replace BK274 := bb_ BK274 hb; replace HB := Aside0.mk (below_step (bf_ HB) hb); (try clear hb); (try clear hb2); (try clear hk); (try clear hi)))
   go_meet
   case rel => exact ⟨_, (true), (by first | rfl | (simp; done) | (simp [*]; done)), H', ⟨by first | omega | exact Nat.le_refl _⟩, ⟨bk_ BK273⟩, ⟨bk_ BK274⟩, ⟨bf_ HB⟩⟩
 case rest =>
  clear HC3; (try clear c1); (try clear c2); (try clear p2); (try clear c4); (try clear c7); (try clear c8); (try clear c11); (try clear hcz12_0 hcz12_1 hfz12_0 hfz12_1); (try clear hcz9_0 hcz9_1 hfz9_0 hfz9_1)
  obtain ⟨kq, x15_2, rfl, HA, HJ2, BK273, BK274, HB⟩ := hcut
  cases kq with
  | zero => exact absurd HA.out (by simp [spec_SlabTake.j0])
  | succ kj2 =>
   have H := HA.out
   clear HA
   simp only [spec_SlabTake.j0] at H
   by_cases c14 : x15_2 = true
   ·subst c14
    have H1 : (some (0, ([] : List Int), (-1), 1)) = some (r1, r2, r3, r4) := by rw [if_pos rfl] at H; exact H
    clear H
    have H := H1
    clear H1
    simp only [Option.some.injEq, Prod.mk.injEq] at H
    obtain ⟨rfl, rfl, rfl, rfl⟩ := H
    have hnb15 := NB274_273.out; have hnc15 := NB273_274.out; obtain ⟨hcz16_0, hcz16_1, hfz16_0, hfz16_1⟩ := bz2_ BK274
    go_wp2
    refine bodyPost_ret (results_ctt rfl _ _ gb274 24 #[.int .i64 0, .slice none 0 0] (0, 0) _ rfl (by (with_reducible repeat (first | refine blk_drewN ?_ _ | refine blk_drew ?_ | refine blk_alloc ?_ _)); refine blk_put (cs := #[.int .i64 0, .slice none 0 0]) ?_ 1 _ rfl; (with_reducible repeat (first | refine blk_drewN ?_ _ | refine blk_drew ?_ | refine blk_alloc ?_ _)); refine blk_put (cs := #[.int .i64 0, .slice none 0 0]) ?_ 0 _ rfl; exact bk_ BK274) Try.underlying24 rfl (by kernel_rfl)) rfl ?_
    exact ⟨_, by first | rfl | (simp [errW_none, errW_some] <;> rfl) | (simp [*, errW_none, errW_some] <;> rfl), by first | exact Kd.R_nil _ _ _ _ _ | exact Kd.N_nil _ _ _ _ _ | exact Kd.V_nil _ _ _ _ _ | exact Kd.Q_nil _ _ _ _ _ | exact Kd.S_nil _ _ _ _ _, bf_ HB⟩
   ·replace c14 := Bool.eq_false_iff.mpr c14
    subst c14
    have H1 : ((spec_l16Walk.f kj2 a0_0 l0_1 a0_0).bind fun t276 => (if (t276.length : Int) < a1 then (some (0, ([] : List Int), (-1), 2)) else ((spec_l16Copy.f a0_0 l0_1).bind fun bt279 => (if 0 ≤ (wrap64 (a1 - 1)) then (if (wrap64 (a1 - 1)) < (t276.length : Int) then (if 0 ≤ (rd t276 (wrap64 (a1 - 1))) then (if (rd t276 (wrap64 (a1 - 1))) < (bt279.2.length : Int) then ((some (bt279.2.set ((rd t276 (wrap64 (a1 - 1))) : Int).toNat (-1) : List Int)).bind fun y285 => (if (t276.length : Int) > a1 then (if 0 ≤ a1 then (if a1 < (t276.length : Int) then (if 0 < (t276.length : Int) then (some (rd t276 a1, y285, rd t276 0, 0)) else (none)) else (none)) else (none)) else (if 0 < (t276.length : Int) then (some ((-1), y285, rd t276 0, 0)) else (none)))) else (none)) else (none)) else (none)) else (none))))) = some (r1, r2, r3, r4) := by rw [if_neg (show ¬ (false = true) by decide)] at H; exact H
    clear H
    have H := H1
    clear H1
    replace H := Option.bind_eq_some_iff.mp H
    obtain ⟨t276, A170, H⟩ := H
    replace H : (if (t276.length : Int) < a1 then (some (0, ([] : List Int), (-1), 2)) else ((spec_l16Copy.f a0_0 l0_1).bind fun bt279 => (if 0 ≤ (wrap64 (a1 - 1)) then (if (wrap64 (a1 - 1)) < (t276.length : Int) then (if 0 ≤ (rd t276 (wrap64 (a1 - 1))) then (if (rd t276 (wrap64 (a1 - 1))) < (bt279.2.length : Int) then ((some (bt279.2.set ((rd t276 (wrap64 (a1 - 1))) : Int).toNat (-1) : List Int)).bind fun y285 => (if (t276.length : Int) > a1 then (if 0 ≤ a1 then (if a1 < (t276.length : Int) then (if 0 < (t276.length : Int) then (some (rd t276 a1, y285, rd t276 0, 0)) else (none)) else (none)) else (none)) else (if 0 < (t276.length : Int) then (some ((-1), y285, rd t276 0, 0)) else (none)))) else (none)) else (none)) else (none)) else (none)))) = some (r1, r2, r3, r4) := H
    have A17 := Aside0.mk A170
    clear A170
    by_cases c18 : (t276.length : Int) < a1
    ·rw [if_pos c18] at H
     have c18b0 : decide ((t276.length : Int) < a1) = true := decide_eq_true c18
     clear c18
     simp only [Option.some.injEq, Prod.mk.injEq] at H
     obtain ⟨rfl, rfl, rfl, rfl⟩ := H
     have hnb19 := NB273_274.out; have hnc19 := NB274_273.out; obtain ⟨hcz20_0, hcz20_1, hfz20_0, hfz20_1⟩ := bz2_ BK273
     go_wp2_with (first | ((with_reducible refine gc_ 70 rfl ?_); refine gl_ 20 Try.func70 #[.agg #[.int .i64 a0_0, .slice A0_1 l0_1.length c0_1], .int .i64 a0_0] ?_; (with_reducible refine (spec_l16Walk.calls kj2 a0_0 _ _ l0_1 a0_0 t276 _ ?side1 ?side2 A17.out).mono ?_); (case side1 => repeat (first | exact (Kd.C_below HR0_1.out HB.out) | (with_reducible refine Kd.C_alloc ?_ _) | (with_reducible refine Kd.C_drewN ?_ _) | (with_reducible refine Kd.C_drew ?_))); (case side2 => exact HC0_1.out); rintro e w21 ⟨v277, rfl, ho0, hb⟩; refine ⟨_, rfl, ?_⟩; have HO278 := Aside0.mk (Kd.R_lower ho0 (below_size (bf_ HB))); replace BK273 := bb_ BK273 hb; replace BK274 := bb_ BK274 hb; replace HB := Aside0.mk (below_step (bf_ HB) hb); (try clear hb); (try clear hb2); (try clear hk); (try clear hi); (try clear ho0); obtain ⟨Ao22, co22, eo22⟩ := Kd.R_slice HO278.out; subst eo22; obtain ⟨hcz23_0, hcz23_1, hfz23_0, hfz23_1⟩ := bz2_ BK274))
     refine bodyPost_ret (results_ctt rfl _ _ gb274 24 #[.int .i64 0, .slice none 0 0] (0, 0) _ rfl (by (with_reducible repeat (first | refine blk_drewN ?_ _ | refine blk_drew ?_ | refine blk_alloc ?_ _)); refine blk_put (cs := #[.int .i64 0, .slice none 0 0]) ?_ 1 _ rfl; (with_reducible repeat (first | refine blk_drewN ?_ _ | refine blk_drew ?_ | refine blk_alloc ?_ _)); refine blk_put (cs := #[.int .i64 0, .slice none 0 0]) ?_ 0 _ rfl; exact bk_ BK274) Try.underlying24 rfl (by kernel_rfl)) rfl ?_
     exact ⟨_, by first | rfl | (simp [errW_none, errW_some] <;> rfl) | (simp [*, errW_none, errW_some] <;> rfl), by first | exact Kd.R_nil _ _ _ _ _ | exact Kd.N_nil _ _ _ _ _ | exact Kd.V_nil _ _ _ _ _ | exact Kd.Q_nil _ _ _ _ _ | exact Kd.S_nil _ _ _ _ _, bf_ HB⟩
    ·rw [if_neg c18] at H
     have c18b0 : decide ((t276.length : Int) < a1) = false := decide_eq_false c18
     clear c18
     replace H := Option.bind_eq_some_iff.mp H
     obtain ⟨⟨t279, t280⟩, A240, H⟩ := H
     replace H : (if 0 ≤ (wrap64 (a1 - 1)) then (if (wrap64 (a1 - 1)) < (t276.length : Int) then (if 0 ≤ (rd t276 (wrap64 (a1 - 1))) then (if (rd t276 (wrap64 (a1 - 1))) < (t280.length : Int) then ((some (t280.set ((rd t276 (wrap64 (a1 - 1))) : Int).toNat (-1) : List Int)).bind fun y285 => (if (t276.length : Int) > a1 then (if 0 ≤ a1 then (if a1 < (t276.length : Int) then (if 0 < (t276.length : Int) then (some (rd t276 a1, y285, rd t276 0, 0)) else (none)) else (none)) else (none)) else (if 0 < (t276.length : Int) then (some ((-1), y285, rd t276 0, 0)) else (none)))) else (none)) else (none)) else (none)) else (none)) = some (r1, r2, r3, r4) := H
     have A24 := Aside0.mk A240
     clear A240
     obtain ⟨ji25, hji25⟩ : ∃ j_ : Int, (wrap64 (a1 - 1)) = j_ := ⟨_, rfl⟩
     replace H : (if 0 ≤ (ji25) then (if (ji25) < (t276.length : Int) then (if 0 ≤ (rd t276 (ji25)) then (if (rd t276 (ji25)) < (t280.length : Int) then ((some (t280.set ((rd t276 (ji25)) : Int).toNat (-1) : List Int)).bind fun y285 => (if (t276.length : Int) > a1 then (if 0 ≤ a1 then (if a1 < (t276.length : Int) then (if 0 < (t276.length : Int) then (some (rd t276 a1, y285, rd t276 0, 0)) else (none)) else (none)) else (none)) else (if 0 < (t276.length : Int) then (some ((-1), y285, rd t276 0, 0)) else (none)))) else (none)) else (none)) else (none)) else (none)) = some (r1, r2, r3, r4) := by first | (rw [hji25] at H; exact H) | (simp only [hji25] at H ⊢; exact H)
     (try rw [hji25] at A17)
     (try rw [hji25] at A24)
     have hji25w : (IntKind.i64.wrap (a1 - 1)) = ji25 := (i64_w _).trans hji25
     by_cases c26 : 0 ≤ (ji25)
     ·rw [if_pos c26] at H
      have c26b0 : decide (0 ≤ (ji25)) = true := decide_eq_true c26
      clear c26
      by_cases c27 : (ji25) < (t276.length : Int)
      ·rw [if_pos c27] at H
       have c27b0 : decide ((ji25) < (t276.length : Int)) = true := decide_eq_true c27
       clear c27
       by_cases c28 : 0 ≤ (rd t276 (ji25))
       ·rw [if_pos c28] at H
        have c28b0 : decide (0 ≤ (rd t276 (ji25))) = true := decide_eq_true c28
        clear c28
        by_cases c29 : (rd t276 (ji25)) < (t280.length : Int)
        ·rw [if_pos c29] at H
         have c29b0 : decide ((rd t276 (ji25)) < (t280.length : Int)) = true := decide_eq_true c29
         clear c29
         obtain ⟨y285, hy285⟩ : ∃ y_ : List Int, y_ = (t280.set ((rd t276 (ji25)) : Int).toNat (-1)) := ⟨_, rfl⟩
         replace H : (if (t276.length : Int) > a1 then (if 0 ≤ a1 then (if a1 < (t276.length : Int) then (if 0 < (t276.length : Int) then (some (rd t276 a1, y285, rd t276 0, 0)) else (none)) else (none)) else (none)) else (if 0 < (t276.length : Int) then (some ((-1), y285, rd t276 0, 0)) else (none))) = some (r1, r2, r3, r4) := by first | (rw [hy285]; with_reducible exact H) | (have H2_ := (Option.bind_some _ _).symm.trans H; rw [hy285]; with_reducible exact H2_) | (have H2_ := (Option.bind_some _ _).symm.trans H; with_reducible exact H2_) | with_reducible exact H | (rw [hy285]; exact H) | exact H
         have Ny285 := Aside0.mk hy285
         clear hy285
         by_cases c31 : (t276.length : Int) > a1
         ·rw [if_pos c31] at H
          have c31b0 : decide (a1 < (t276.length : Int)) = true := decide_eq_true c31
          clear c31
          by_cases c32 : 0 ≤ a1
          ·rw [if_pos c32] at H
           have c32b0 : decide (0 ≤ a1) = true := decide_eq_true c32
           clear c32
           by_cases c33 : a1 < (t276.length : Int)
           ·rw [if_pos c33] at H
            have c33b0 : decide (a1 < (t276.length : Int)) = true := decide_eq_true c33
            clear c33
            by_cases c34 : 0 < (t276.length : Int)
            ·rw [if_pos c34] at H
             have c34b0 : decide (0 < (t276.length : Int)) = true := decide_eq_true c34
             have c34b1 : decide (0 < t276.length) = true := decide_eq_true (by omega)
             clear c34
             simp only [Option.some.injEq, Prod.mk.injEq] at H
             obtain ⟨rfl, rfl, rfl, rfl⟩ := H
             have hnb35 := NB273_274.out; have hnc35 := NB274_273.out; obtain ⟨hcz36_0, hcz36_1, hfz36_0, hfz36_1⟩ := bz2_ BK273
             try go_wp2_with (first | ((with_reducible refine gc_ 70 rfl ?_); refine gl_ 20 Try.func70 #[.agg #[.int .i64 a0_0, .slice A0_1 l0_1.length c0_1], .int .i64 a0_0] ?_; (with_reducible refine (spec_l16Walk.calls kj2 a0_0 _ _ l0_1 a0_0 t276 _ ?side1 ?side2 A17.out).mono ?_); (case side1 => repeat (first | exact (Kd.C_below HR0_1.out HB.out) | (with_reducible refine Kd.C_alloc ?_ _) | (with_reducible refine Kd.C_drewN ?_ _) | (with_reducible refine Kd.C_drew ?_))); (case side2 => exact HC0_1.out); rintro e w37 ⟨v277, rfl, ho0, hb⟩; refine ⟨_, rfl, ?_⟩; have HO278 := Aside0.mk (Kd.R_lower ho0 (below_size (bf_ HB))); replace BK273 := bb_ BK273 hb; replace BK274 := bb_ BK274 hb; replace HB := Aside0.mk (below_step (bf_ HB) hb); (try clear hb); (try clear hb2); (try clear hk); (try clear hi); (try clear ho0); obtain ⟨Ao38, co38, eo38⟩ := Kd.R_slice HO278.out; subst eo38; obtain ⟨hcz39_0, hcz39_1, hfz39_0, hfz39_1⟩ := bz2_ BK273) | ((with_reducible refine gc_ 72 rfl ?_); refine gl_ 27 Try.func72 #[.agg #[.int .i64 a0_0, .slice A0_1 l0_1.length c0_1]] ?_; (with_reducible refine (spec_l16Copy.calls a0_0 _ _ l0_1 t279 t280 _ ?side1 ?side2 A24.out).mono ?_); (case side1 => repeat (first | exact (Kd.C_below HR0_1.out HB.out) | (with_reducible refine Kd.C_alloc ?_ _) | (with_reducible refine Kd.C_drewN ?_ _) | (with_reducible refine Kd.C_drew ?_))); (case side2 => exact HC0_1.out); rintro e w40 ⟨v281, rfl, ho0, hb⟩; refine ⟨_, rfl, ?_⟩; have HO282 := Aside0.mk (Kd.R_lower (Kd.R_new' ho0 (Kd.R_lt (kr_ HO278))) (below_size (bf_ HB))); replace HO278 := Aside0.mk (Kd.R_elder' (kr_ HO278) (Kd.R_base ho0) hb); replace BK273 := bb_ BK273 hb; replace BK274 := bb_ BK274 hb; replace HB := Aside0.mk (below_step (bf_ HB) hb); (try clear hb); (try clear hb2); (try clear hk); (try clear hi); (try clear ho0)) | ((with_reducible refine gd_ 8 rfl ?_); refine bv_ 8 #[.int .i64 0, .slice none 0 0] 24 ?_; intro gb283 hg w41 hbox hb; replace HO278 := Aside0.mk (Kd.R_below (kr_ HO278) hb); replace HO282 := Aside0.mk (Kd.R_below (kr_ HO282) hb); have BK283 := Aside0.mk (hbox); have GW283 := gw_ HB hg; have GE283 := gw_ HB hg; replace HB := Aside0.mk (below_step (bf_ HB) hb); have NB273_283 := nl_ BK273 hg; have NB283_273 := ng_ BK273 hg; replace BK273 := bb_ BK273 hb; have NB274_283 := nl_ BK274 hg; have NB283_274 := ng_ BK274 hg; replace BK274 := bb_ BK274 hb; clear hb hbox hg; have hnb42 := NB283_273.out; have hnc42 := NB273_283.out; have hnb43 := NB283_274.out; have hnc43 := NB274_283.out; obtain ⟨hcz44_0, hcz44_1, hfz44_0, hfz44_1⟩ := bz2_ BK283; obtain ⟨Ao45, co45, eo45⟩ := Kd.R_slice HO282.out; subst eo45))
             generalize hW_ : ((w41.setCell ⟨gb283, 0, none⟩ (.int .i64 t279)).setCell ⟨gb283, 1, none⟩ (.slice Ao45 t280.length co45)) = w46
             replace HO278 : Aside0 (Kd.R (Kd.int .i64) 3 w46 w.heap.size (fun k_ => some k_ ≠ (.slice Ao45 t280.length co45 : Value).ownBlock) (.slice Ao38 t276.length co38) t276) := ⟨by cases hW_; (with_reducible repeat (first | apply Kd.R_alloc | apply Kd.R_drewN | apply Kd.R_drew)); exact Kd.R_mono (Kd.R_far (p := ⟨gb283, 1, none⟩) (Kd.R_far (p := ⟨gb283, 0, none⟩) (Kd.R_types HO278.out BK283.out (by decide)) (fun _ hk => by first | exact hk.2 | grind) (.int .i64 t279)) (fun _ hk => by first | exact hk.2 | grind) (.slice Ao45 t280.length co45)) (fun _ hk => by first | exact hk.1.2 | grind)⟩
             replace HO282 : Aside0 (Kd.R (Kd.int .i64) 3 w46 w.heap.size (fun k_ => some k_ ≠ (.slice Ao38 t276.length co38 : Value).ownBlock) (.slice Ao45 t280.length co45) t280) := ⟨by cases hW_; (with_reducible repeat (first | apply Kd.R_alloc | apply Kd.R_drewN | apply Kd.R_drew)); exact Kd.R_mono (Kd.R_far (p := ⟨gb283, 1, none⟩) (Kd.R_far (p := ⟨gb283, 0, none⟩) (Kd.R_types HO282.out BK283.out (by decide)) (fun _ hk => by first | exact hk.2 | grind) (.int .i64 t279)) (fun _ hk => by first | exact hk.2 | grind) (.slice Ao45 t280.length co45)) (fun _ hk => by first | exact hk.1.2 | grind)⟩
             replace BK273 := fc2_ hW_ BK273 NB273_283
             replace BK274 := fc2_ hW_ BK274 NB274_283
             replace BK283 : Aside0 (w46.heap[gb283]? = some (.cells #[.int .i64 t279, .slice Ao45 t280.length co45] 24 (0, 0))) := pc2_ hW_ BK283
             replace HB : Aside0 (Below w.heap.size w w46) := ⟨by cases hW_; exact bf_ HB⟩
             clear hW_; replace HO278 := Aside0.mk (Kd.R_drew HO278.out); replace HO282 := Aside0.mk (Kd.R_drew HO282.out); replace BK273 := Aside0.mk (blk_drew BK273.out); replace BK274 := Aside0.mk (blk_drew BK274.out); replace BK283 := Aside0.mk (blk_drew BK283.out); replace HB := Aside0.mk (below_drew1 HB.out)
             have p284 : 0 ≤ ((ji25) : Int) := od_
             have q284 : (ji25) < (t276.length : Int) := od_
             obtain ⟨ad284, e284, hx284_0⟩ := Kd.at_int (Kd.R_reads' HO278.out).2.2 (ji25) p284 q284
             cases e284
             replace p284 := eq_true p284
             replace q284 := eq_true q284
             have p30 : 0 ≤ ((rd t276 (ji25)) : Int) := od_
             have q30 : ((rd t276 (ji25)) : Int) < ((t280.length : Int) : Int) := od_
             obtain ⟨go30, co30, eo30, gb30, gl30, cl30, HG30⟩ := Kd.R_form HO282.out (by omega)
             (first | cases eo30 | (injection eo30 with ea_ en_ ec_; (first | subst ea_ | (injection ea_ with ea_; subst ea_)); subst ec_; clear en_))
             have GB30 := Aside0.mk gb30
             have GG30 := Aside0.mk HG30
             clear gb30 gl30 HG30
             obtain ⟨hx30_0, hf30_0⟩ := Kd.R_celln 0 HO282.out ((rd t276 (ji25)) : Int) p30 q30
             replace p30 := eq_true p30
             replace q30 := eq_true q30
             have HP48 := Kd.R_putn HO282.out ((rd t276 (ji25)) : Int) (-1)
             rw [← Ny285.out] at HP48
             have HQ48 := Aside0.mk HP48
             clear HP48
             refine start_ (n := 9) (S := fun w' => cw_ w' gb283 0 (.int .i64 t279) ∧ cw_ w' gb283 1 (.slice (some ⟨go30, 0, none⟩) t280.length co45) ∧ w'.cell? (ad284.add ((ji25)).toNat) = some (.int .i64 (rd t276 (ji25)))) (ds := [8]) (bs 9 0) (by kernel_rfl) rfl rfl ⟨bt_ BK283 0, bt_ BK283 1, hx284_0⟩ (fun hHeld => ?_); refine with_tabW spec_SlabTake.tab7 spec_SlabTake.bits7 (fun HT_ HW_ => ?_)
             generalize w46.drew = w47 at HO278 HO282 BK273 BK274 BK283 HB GG30 HQ48 hf30_0 hx284_0 hx30_0 hHeld ⊢
             refine ps_ 0 28 (bs 9 1) HT_ ?_
             refine ps_ 2 30 (bm 9 5) HT_ ?_
             refine ps_ 3 31 (bm 9 13) HT_ ?_
             refine ps_ 4 32 (bm 9 29) HT_ ?_
             refine ps_ 5 33 (bm 9 61) HT_ ?_
             refine tk_ 1 29 (bs 9 6) HT_ HW_ hHeld ?_
             refine tk_ 6 34 (bs 9 7) HT_ HW_ hHeld ?_
             refine ps_ 7 35 (bs 9 8) HT_ ?_
             refine last_ (i := 8) (N := none) (bs 9 9) rfl rfl (one_of HT_.out (by kernel_rfl)) (by decide) (fun K hK => ?_)
             refine skip_ (w1 := ?_) (by rfl) rfl ?_ ?_
             rotate_left
             ·go_simp
              rfl
             refine hK.out _ _ ?_
             clear hK K
             refine done_ (done_of HT_.out (by kernel_rfl)) ?_
             generalize hW_ : (w47.setCell ⟨go30, ((rd t276 (ji25)) : Int).toNat, none⟩ (.int .i64 (-1))) = w49
             replace HO278 : Aside0 (Kd.R (Kd.int .i64) 3 w49 w.heap.size (fun k_ => some k_ ≠ (.slice (some ⟨go30, 0, none⟩) t280.length co45 : Value).ownBlock) (.slice (some ad284) t276.length co38) t276) := ⟨by cases hW_; (with_reducible repeat (first | apply Kd.R_alloc | apply Kd.R_drewN | apply Kd.R_drew)); exact Kd.R_mono (Kd.R_far (p := ⟨go30, ((rd t276 (ji25)) : Int).toNat, none⟩) (Kd.R_mono HO278.out (fun k_ hk => by first | exact (⟨hk, fun e_ => hk (by rw [e_]; rfl)⟩ : _ ∧ k_ ≠ go30) | grind)) (fun _ hk => by first | exact hk.2 | grind) (.int .i64 (-1))) (fun _ hk => by first | exact hk.1 | grind)⟩
             replace BK273 : Aside0 (w49.heap[gb273]? = some (.cells #[.int .i64 a0_0, .slice A0_1 l0_1.length c0_1] 24 (0, 0))) := ⟨by cases hW_; (with_reducible repeat (first | refine blk_drewN ?_ _ | refine blk_drew ?_ | refine blk_alloc ?_ _)); refine blk_far ?_ (by have h_ := Kd.R_ne HO282.out BK273.out (by decide); intro e_; exact h_ (by rw [e_]; rfl)) _; exact bk_ BK273⟩
             replace BK274 : Aside0 (w49.heap[gb274]? = some (.cells #[.int .i64 0, .slice none 0 0] 24 (0, 0))) := ⟨by cases hW_; (with_reducible repeat (first | refine blk_drewN ?_ _ | refine blk_drew ?_ | refine blk_alloc ?_ _)); refine blk_far ?_ (by have h_ := Kd.R_ne HO282.out BK274.out (by decide); intro e_; exact h_ (by rw [e_]; rfl)) _; exact bk_ BK274⟩
             replace BK283 : Aside0 (w49.heap[gb283]? = some (.cells #[.int .i64 t279, .slice (some ⟨go30, 0, none⟩) t280.length co45] 24 (0, 0))) := ⟨by cases hW_; (with_reducible repeat (first | refine blk_drewN ?_ _ | refine blk_drew ?_ | refine blk_alloc ?_ _)); refine blk_far ?_ (by have h_ := Kd.R_ne HO282.out BK283.out (by decide); intro e_; exact h_ (by rw [e_]; rfl)) _; exact bk_ BK283⟩
             replace HO282 : Aside0 (Kd.R (Kd.int .i64) 3 w49 w.heap.size (fun k_ => some k_ ≠ (.slice (some ad284) t276.length co38 : Value).ownBlock) (.slice (some ⟨go30, 0, none⟩) t280.length co45) y285) := ⟨by cases hW_; exact kr_ HQ48⟩
             replace HB : Aside0 (Below w.heap.size w w49) := ⟨by cases hW_; repeat (first | (with_reducible first | exact HB.out | apply below_alloc | apply pw_below_drewN | apply below_drew1 | refine below_set ?_ GB30.out | refine below_set ?_ GE273.out | refine below_set ?_ GE274.out | refine below_set ?_ GE283.out) | exact HB.out)⟩
             clear hW_; have hcz50_0 := bc_ BK283 0 (.int .i64 t279) rfl
             have hcz50_1 := bc_ BK283 1 (.slice (some ⟨go30, 0, none⟩) t280.length co45) rfl
             have hfz50_0 := blk_frozen BK283.out 0; have hfz50_1 := blk_frozen BK283.out 1
             have p286 : 0 ≤ (a1 : Int) := od_
             have q286 : a1 < (t276.length : Int) := od_
             obtain ⟨ad286, e286, hx286_0⟩ := Kd.at_int (Kd.R_reads' HO278.out).2.2 a1 p286 q286
             obtain rfl : ad284 = ad286 := (by injection e286)
             have hn286_0 : ad284.block ≠ gb283 := Kd.own_blk (Kd.R_ne HO278.out BK283.out (by decide))
             replace hx286_0 := (cell_far (p := ⟨gb283, 0, none⟩) (by first | (rw [add_block]; exact hn286_0) | (show (Addr.add _ _).block ≠ _; rw [add_block]; exact hn286_0) | exact hn286_0) (.int .i64 (-1))).trans hx286_0
             clear hn286_0
             replace p286 := eq_true p286
             replace q286 := eq_true q286
             try go_wp2
             generalize hW_ : ((w49.setCell ⟨gb283, 0, none⟩ (.int .i64 (-1))).setCell ⟨gb283, 0, none⟩ (.int .i64 (rd t276 a1))) = w51
             replace HO278 : Aside0 (Kd.R (Kd.int .i64) 3 w51 w.heap.size (fun k_ => some k_ ≠ (.slice (some ⟨go30, 0, none⟩) t280.length co45 : Value).ownBlock) (.slice (some ad284) t276.length co38) t276) := ⟨by cases hW_; (with_reducible repeat (first | apply Kd.R_alloc | apply Kd.R_drewN | apply Kd.R_drew)); exact Kd.R_mono (Kd.R_far (p := ⟨gb283, 0, none⟩) (Kd.R_far (p := ⟨gb283, 0, none⟩) (Kd.R_types HO278.out BK283.out (by decide)) (fun _ hk => by first | exact hk.2 | grind) (.int .i64 (-1))) (fun _ hk => by first | exact hk.2 | grind) (.int .i64 (rd t276 a1))) (fun _ hk => by first | exact hk.1 | grind)⟩
             replace HO282 : Aside0 (Kd.R (Kd.int .i64) 3 w51 w.heap.size (fun k_ => some k_ ≠ (.slice (some ad284) t276.length co38 : Value).ownBlock) (.slice (some ⟨go30, 0, none⟩) t280.length co45) y285) := ⟨by cases hW_; (with_reducible repeat (first | apply Kd.R_alloc | apply Kd.R_drewN | apply Kd.R_drew)); exact Kd.R_mono (Kd.R_far (p := ⟨gb283, 0, none⟩) (Kd.R_far (p := ⟨gb283, 0, none⟩) (Kd.R_types HO282.out BK283.out (by decide)) (fun _ hk => by first | exact hk.2 | grind) (.int .i64 (-1))) (fun _ hk => by first | exact hk.2 | grind) (.int .i64 (rd t276 a1))) (fun _ hk => by first | exact hk.1 | grind)⟩
             replace BK273 := fc2_ hW_ BK273 NB273_283
             replace BK274 := fc2_ hW_ BK274 NB274_283
             replace BK283 : Aside0 (w51.heap[gb283]? = some (.cells #[.int .i64 (rd t276 a1), .slice (some ⟨go30, 0, none⟩) t280.length co45] 24 (0, 0))) := pc2_ hW_ BK283
             replace HB : Aside0 (Below w.heap.size w w51) := ⟨by cases hW_; exact bf_ HB⟩
             clear hW_; replace HO278 := Aside0.mk (Kd.R_drew HO278.out); replace HO282 := Aside0.mk (Kd.R_drew HO282.out); replace BK273 := Aside0.mk (blk_drew BK273.out); replace BK274 := Aside0.mk (blk_drew BK274.out); replace BK283 := Aside0.mk (blk_drew BK283.out); replace HB := Aside0.mk (below_drew1 HB.out)
             have p287 : 0 ≤ (0 : Int) := (by omega)
             have q287 : 0 < (t276.length : Int) := od_
             obtain ⟨ad287, e287, hx287_0⟩ := Kd.at_int (Kd.R_reads' HO278.out).2.2 0 p287 q287
             obtain rfl : ad284 = ad287 := (by injection e287)
             have qi287 : (0 < t276.length) = True := eq_true (by omega)
             (try rw [show ((0 : Int)).toNat = 0 from rfl] at hx287_0)
             (try rw [Addr.add_zero'] at hx287_0)
             replace p287 := eq_true p287
             replace q287 := eq_true q287
             refine start_ (n := 7) (S := fun w' => cw_ w' gb283 0 (.int .i64 (rd t276 a1)) ∧ cw_ w' gb283 1 (.slice (some ⟨go30, 0, none⟩) t280.length co45) ∧ w'.cell? ad284 = some (.int .i64 (rd t276 0))) (ds := []) (bs 7 0) (by kernel_rfl) rfl rfl ⟨bt_ BK283 0, bt_ BK283 1, hx287_0⟩ (fun hHeld => ?_)
             generalize w51.drew = w52 at HO278 HO282 BK273 BK274 BK283 HB hx287_0 hHeld ⊢
             refine ps0_ 1 47 #[oF,oT,oF,oF,oF,oF,oF] ?_
             refine ps0_ 2 48 #[oF,oT,oT,oF,oF,oF,oF] ?_
             refine tk0_ 0 46 (bs 7 3) hHeld ?_
             refine tk0_ 3 49 (bs 7 4) hHeld ?_
             refine on0_ 4 none (bs 7 5) (fun K hK => ?_)
             have hs53 := bc_ BK274 0 (.int .i64 0) rfl; have hfs53 := blk_frozen BK274.out 0; have hns53_0 := NB273_274.out; have hns53_2 := NB283_274.out; have hms53_0 := NB274_273.out; have hms53_2 := NB274_283.out; have hs54 := bc_ BK274 1 (.slice none 0 0) rfl; have hfs54 := blk_frozen BK274.out 1; have hns54_0 := NB273_274.out; have hns54_2 := NB283_274.out; have hms54_0 := NB274_273.out; have hms54_2 := NB274_283.out
             refine skip_ (w1 := ?_) (by rfl) rfl ?_ ?_
             rotate_left
             ·go_simp
              rfl
             refine hK.out _ _ ⟨(cf2_ NB283_274.out hHeld.1), (cf2_ NB283_274.out hHeld.2.1), (cf2_ (ab_ (Kd.own_blk (Kd.R_ne HO278.out BK274.out (by decide)))) hHeld.2.2)⟩ (fun hHeld => ?_)
             clear hK K
             refine ps0_ 5 5 (bs 7 6) ?_
             refine ps0_ 6 6 (bs 7 7) ?_
             refine done_ (by kernel_rfl) ?_
             try go_wp2
             refine bodyPost_ret (results_ctt rfl _ _ gb274 24 #[.int .i64 (rd t276 a1), .slice (some ⟨go30, 0, none⟩) t280.length co45] (0, 0) _ rfl (by (with_reducible repeat (first | refine blk_drewN ?_ _ | refine blk_drew ?_ | refine blk_alloc ?_ _)); refine blk_put (cs := #[.int .i64 (rd t276 a1), .slice none 0 0]) ?_ 1 _ rfl; (with_reducible repeat (first | refine blk_drewN ?_ _ | refine blk_drew ?_ | refine blk_alloc ?_ _)); refine blk_put (cs := #[.int .i64 0, .slice none 0 0]) ?_ 0 _ rfl; exact bk_ BK274) Try.underlying24 rfl (by kernel_rfl)) rfl ?_
             exact ⟨_, by first | rfl | (simp [errW_none, errW_some] <;> rfl) | (simp only [← hji25]; first | rfl | (simp [errW_none, errW_some] <;> rfl)) | (simp [*, errW_none, errW_some] <;> rfl), by (with_reducible repeat (first | apply Kd.R_alloc | apply Kd.R_drewN | apply Kd.R_drew)); exact Kd.R_mono (Kd.R_far (p := ⟨gb274, 1, none⟩) (Kd.R_far (p := ⟨gb274, 0, none⟩) (Kd.R_types HO282.out BK274.out (by decide)) (fun _ hk => by first | exact hk.2 | grind) (.int .i64 (rd t276 a1))) (fun _ hk => by first | exact hk.2 | grind) (.slice (some ⟨go30, 0, none⟩) t280.length co45)) (fun _ hk => by first | exact trivial | grind), bf_ HB⟩
            ·rw [if_neg c34] at H
             exact absurd H (by simp)
           ·rw [if_neg c33] at H
            exact absurd H (by simp)
          ·rw [if_neg c32] at H
           exact absurd H (by simp)
         ·rw [if_neg c31] at H
          have c31b0 : decide (a1 < (t276.length : Int)) = false := decide_eq_false c31
          clear c31
          by_cases c55 : 0 < (t276.length : Int)
          ·rw [if_pos c55] at H
           have c55b0 : decide (0 < (t276.length : Int)) = true := decide_eq_true c55
           have c55b1 : decide (0 < t276.length) = true := decide_eq_true (by omega)
           clear c55
           simp only [Option.some.injEq, Prod.mk.injEq] at H
           obtain ⟨rfl, rfl, rfl, rfl⟩ := H
           have hnb56 := NB273_274.out; have hnc56 := NB274_273.out; obtain ⟨hcz57_0, hcz57_1, hfz57_0, hfz57_1⟩ := bz2_ BK273
           try go_wp2_with (first | ((with_reducible refine gc_ 70 rfl ?_); refine gl_ 20 Try.func70 #[.agg #[.int .i64 a0_0, .slice A0_1 l0_1.length c0_1], .int .i64 a0_0] ?_; (with_reducible refine (spec_l16Walk.calls kj2 a0_0 _ _ l0_1 a0_0 t276 _ ?side1 ?side2 A17.out).mono ?_); (case side1 => repeat (first | exact (Kd.C_below HR0_1.out HB.out) | (with_reducible refine Kd.C_alloc ?_ _) | (with_reducible refine Kd.C_drewN ?_ _) | (with_reducible refine Kd.C_drew ?_))); (case side2 => exact HC0_1.out); rintro e w58 ⟨v277, rfl, ho0, hb⟩; refine ⟨_, rfl, ?_⟩; have HO278 := Aside0.mk (Kd.R_lower ho0 (below_size (bf_ HB))); replace BK273 := bb_ BK273 hb; replace BK274 := bb_ BK274 hb; replace HB := Aside0.mk (below_step (bf_ HB) hb); (try clear hb); (try clear hb2); (try clear hk); (try clear hi); (try clear ho0); obtain ⟨Ao59, co59, eo59⟩ := Kd.R_slice HO278.out; subst eo59; obtain ⟨hcz60_0, hcz60_1, hfz60_0, hfz60_1⟩ := bz2_ BK273) | ((with_reducible refine gc_ 72 rfl ?_); refine gl_ 27 Try.func72 #[.agg #[.int .i64 a0_0, .slice A0_1 l0_1.length c0_1]] ?_; (with_reducible refine (spec_l16Copy.calls a0_0 _ _ l0_1 t279 t280 _ ?side1 ?side2 A24.out).mono ?_); (case side1 => repeat (first | exact (Kd.C_below HR0_1.out HB.out) | (with_reducible refine Kd.C_alloc ?_ _) | (with_reducible refine Kd.C_drewN ?_ _) | (with_reducible refine Kd.C_drew ?_))); (case side2 => exact HC0_1.out); rintro e w61 ⟨v281, rfl, ho0, hb⟩; refine ⟨_, rfl, ?_⟩; have HO282 := Aside0.mk (Kd.R_lower (Kd.R_new' ho0 (Kd.R_lt (kr_ HO278))) (below_size (bf_ HB))); replace HO278 := Aside0.mk (Kd.R_elder' (kr_ HO278) (Kd.R_base ho0) hb); replace BK273 := bb_ BK273 hb; replace BK274 := bb_ BK274 hb; replace HB := Aside0.mk (below_step (bf_ HB) hb); (try clear hb); (try clear hb2); (try clear hk); (try clear hi); (try clear ho0)) | ((with_reducible refine gd_ 8 rfl ?_); refine bv_ 8 #[.int .i64 0, .slice none 0 0] 24 ?_; intro gb283 hg w62 hbox hb; replace HO278 := Aside0.mk (Kd.R_below (kr_ HO278) hb); replace HO282 := Aside0.mk (Kd.R_below (kr_ HO282) hb); have BK283 := Aside0.mk (hbox); have GW283 := gw_ HB hg; have GE283 := gw_ HB hg; replace HB := Aside0.mk (below_step (bf_ HB) hb); have NB273_283 := nl_ BK273 hg; have NB283_273 := ng_ BK273 hg; replace BK273 := bb_ BK273 hb; have NB274_283 := nl_ BK274 hg; have NB283_274 := ng_ BK274 hg; replace BK274 := bb_ BK274 hb; clear hb hbox hg; have hnb63 := NB283_273.out; have hnc63 := NB273_283.out; have hnb64 := NB283_274.out; have hnc64 := NB274_283.out; obtain ⟨hcz65_0, hcz65_1, hfz65_0, hfz65_1⟩ := bz2_ BK283; obtain ⟨Ao66, co66, eo66⟩ := Kd.R_slice HO282.out; subst eo66))
           generalize hW_ : ((w62.setCell ⟨gb283, 0, none⟩ (.int .i64 t279)).setCell ⟨gb283, 1, none⟩ (.slice Ao66 t280.length co66)) = w67
           replace HO278 : Aside0 (Kd.R (Kd.int .i64) 3 w67 w.heap.size (fun k_ => some k_ ≠ (.slice Ao66 t280.length co66 : Value).ownBlock) (.slice Ao59 t276.length co59) t276) := ⟨by cases hW_; (with_reducible repeat (first | apply Kd.R_alloc | apply Kd.R_drewN | apply Kd.R_drew)); exact Kd.R_mono (Kd.R_far (p := ⟨gb283, 1, none⟩) (Kd.R_far (p := ⟨gb283, 0, none⟩) (Kd.R_types HO278.out BK283.out (by decide)) (fun _ hk => by first | exact hk.2 | grind) (.int .i64 t279)) (fun _ hk => by first | exact hk.2 | grind) (.slice Ao66 t280.length co66)) (fun _ hk => by first | exact hk.1.2 | grind)⟩
           replace HO282 : Aside0 (Kd.R (Kd.int .i64) 3 w67 w.heap.size (fun k_ => some k_ ≠ (.slice Ao59 t276.length co59 : Value).ownBlock) (.slice Ao66 t280.length co66) t280) := ⟨by cases hW_; (with_reducible repeat (first | apply Kd.R_alloc | apply Kd.R_drewN | apply Kd.R_drew)); exact Kd.R_mono (Kd.R_far (p := ⟨gb283, 1, none⟩) (Kd.R_far (p := ⟨gb283, 0, none⟩) (Kd.R_types HO282.out BK283.out (by decide)) (fun _ hk => by first | exact hk.2 | grind) (.int .i64 t279)) (fun _ hk => by first | exact hk.2 | grind) (.slice Ao66 t280.length co66)) (fun _ hk => by first | exact hk.1.2 | grind)⟩
           replace BK273 := fc2_ hW_ BK273 NB273_283
           replace BK274 := fc2_ hW_ BK274 NB274_283
           replace BK283 : Aside0 (w67.heap[gb283]? = some (.cells #[.int .i64 t279, .slice Ao66 t280.length co66] 24 (0, 0))) := pc2_ hW_ BK283
           replace HB : Aside0 (Below w.heap.size w w67) := ⟨by cases hW_; exact bf_ HB⟩
           clear hW_; replace HO278 := Aside0.mk (Kd.R_drew HO278.out); replace HO282 := Aside0.mk (Kd.R_drew HO282.out); replace BK273 := Aside0.mk (blk_drew BK273.out); replace BK274 := Aside0.mk (blk_drew BK274.out); replace BK283 := Aside0.mk (blk_drew BK283.out); replace HB := Aside0.mk (below_drew1 HB.out)
           have p284 : 0 ≤ ((ji25) : Int) := od_
           have q284 : (ji25) < (t276.length : Int) := od_
           obtain ⟨ad284, e284, hx284_0⟩ := Kd.at_int (Kd.R_reads' HO278.out).2.2 (ji25) p284 q284
           cases e284
           replace p284 := eq_true p284
           replace q284 := eq_true q284
           have p30 : 0 ≤ ((rd t276 (ji25)) : Int) := od_
           have q30 : ((rd t276 (ji25)) : Int) < ((t280.length : Int) : Int) := od_
           obtain ⟨go30, co30, eo30, gb30, gl30, cl30, HG30⟩ := Kd.R_form HO282.out (by omega)
           (first | cases eo30 | (injection eo30 with ea_ en_ ec_; (first | subst ea_ | (injection ea_ with ea_; subst ea_)); subst ec_; clear en_))
           have GB30 := Aside0.mk gb30
           have GG30 := Aside0.mk HG30
           clear gb30 gl30 HG30
           obtain ⟨hx30_0, hf30_0⟩ := Kd.R_celln 0 HO282.out ((rd t276 (ji25)) : Int) p30 q30
           replace p30 := eq_true p30
           replace q30 := eq_true q30
           have HP69 := Kd.R_putn HO282.out ((rd t276 (ji25)) : Int) (-1)
           rw [← Ny285.out] at HP69
           have HQ69 := Aside0.mk HP69
           clear HP69
           refine start_ (n := 9) (S := fun w' => cw_ w' gb283 0 (.int .i64 t279) ∧ cw_ w' gb283 1 (.slice (some ⟨go30, 0, none⟩) t280.length co66) ∧ w'.cell? (ad284.add ((ji25)).toNat) = some (.int .i64 (rd t276 (ji25)))) (ds := [8]) (bs 9 0) (by kernel_rfl) rfl rfl ⟨bt_ BK283 0, bt_ BK283 1, hx284_0⟩ (fun hHeld => ?_); refine with_tabW spec_SlabTake.tab7 spec_SlabTake.bits7 (fun HT_ HW_ => ?_)
           generalize w67.drew = w68 at HO278 HO282 BK273 BK274 BK283 HB GG30 HQ69 hf30_0 hx284_0 hx30_0 hHeld ⊢
           refine ps_ 0 28 (bs 9 1) HT_ ?_
           refine ps_ 2 30 (bm 9 5) HT_ ?_
           refine ps_ 3 31 (bm 9 13) HT_ ?_
           refine ps_ 4 32 (bm 9 29) HT_ ?_
           refine ps_ 5 33 (bm 9 61) HT_ ?_
           refine tk_ 1 29 (bs 9 6) HT_ HW_ hHeld ?_
           refine tk_ 6 34 (bs 9 7) HT_ HW_ hHeld ?_
           refine ps_ 7 35 (bs 9 8) HT_ ?_
           refine last_ (i := 8) (N := none) (bs 9 9) rfl rfl (one_of HT_.out (by kernel_rfl)) (by decide) (fun K hK => ?_)
           refine skip_ (w1 := ?_) (by rfl) rfl ?_ ?_
           rotate_left
           ·go_simp
            rfl
           refine hK.out _ _ ?_
           clear hK K
           refine done_ (done_of HT_.out (by kernel_rfl)) ?_
           generalize hW_ : (w68.setCell ⟨go30, ((rd t276 (ji25)) : Int).toNat, none⟩ (.int .i64 (-1))) = w70
           replace HO278 : Aside0 (Kd.R (Kd.int .i64) 3 w70 w.heap.size (fun k_ => some k_ ≠ (.slice (some ⟨go30, 0, none⟩) t280.length co66 : Value).ownBlock) (.slice (some ad284) t276.length co59) t276) := ⟨by cases hW_; (with_reducible repeat (first | apply Kd.R_alloc | apply Kd.R_drewN | apply Kd.R_drew)); exact Kd.R_mono (Kd.R_far (p := ⟨go30, ((rd t276 (ji25)) : Int).toNat, none⟩) (Kd.R_mono HO278.out (fun k_ hk => by first | exact (⟨hk, fun e_ => hk (by rw [e_]; rfl)⟩ : _ ∧ k_ ≠ go30) | grind)) (fun _ hk => by first | exact hk.2 | grind) (.int .i64 (-1))) (fun _ hk => by first | exact hk.1 | grind)⟩
           replace BK273 : Aside0 (w70.heap[gb273]? = some (.cells #[.int .i64 a0_0, .slice A0_1 l0_1.length c0_1] 24 (0, 0))) := ⟨by cases hW_; (with_reducible repeat (first | refine blk_drewN ?_ _ | refine blk_drew ?_ | refine blk_alloc ?_ _)); refine blk_far ?_ (by have h_ := Kd.R_ne HO282.out BK273.out (by decide); intro e_; exact h_ (by rw [e_]; rfl)) _; exact bk_ BK273⟩
           replace BK274 : Aside0 (w70.heap[gb274]? = some (.cells #[.int .i64 0, .slice none 0 0] 24 (0, 0))) := ⟨by cases hW_; (with_reducible repeat (first | refine blk_drewN ?_ _ | refine blk_drew ?_ | refine blk_alloc ?_ _)); refine blk_far ?_ (by have h_ := Kd.R_ne HO282.out BK274.out (by decide); intro e_; exact h_ (by rw [e_]; rfl)) _; exact bk_ BK274⟩
           replace BK283 : Aside0 (w70.heap[gb283]? = some (.cells #[.int .i64 t279, .slice (some ⟨go30, 0, none⟩) t280.length co66] 24 (0, 0))) := ⟨by cases hW_; (with_reducible repeat (first | refine blk_drewN ?_ _ | refine blk_drew ?_ | refine blk_alloc ?_ _)); refine blk_far ?_ (by have h_ := Kd.R_ne HO282.out BK283.out (by decide); intro e_; exact h_ (by rw [e_]; rfl)) _; exact bk_ BK283⟩
           replace HO282 : Aside0 (Kd.R (Kd.int .i64) 3 w70 w.heap.size (fun k_ => some k_ ≠ (.slice (some ad284) t276.length co59 : Value).ownBlock) (.slice (some ⟨go30, 0, none⟩) t280.length co66) y285) := ⟨by cases hW_; exact kr_ HQ69⟩
           replace HB : Aside0 (Below w.heap.size w w70) := ⟨by cases hW_; repeat (first | (with_reducible first | exact HB.out | apply below_alloc | apply pw_below_drewN | apply below_drew1 | refine below_set ?_ GB30.out | refine below_set ?_ GE273.out | refine below_set ?_ GE274.out | refine below_set ?_ GE283.out) | exact HB.out)⟩
           clear hW_; have hcz71_0 := bc_ BK283 0 (.int .i64 t279) rfl
           have hcz71_1 := bc_ BK283 1 (.slice (some ⟨go30, 0, none⟩) t280.length co66) rfl
           have hfz71_0 := blk_frozen BK283.out 0; have hfz71_1 := blk_frozen BK283.out 1
           try go_wp2
           generalize hW_ : (w70.setCell ⟨gb283, 0, none⟩ (.int .i64 (-1))) = w72
           replace HO278 : Aside0 (Kd.R (Kd.int .i64) 3 w72 w.heap.size (fun k_ => some k_ ≠ (.slice (some ⟨go30, 0, none⟩) t280.length co66 : Value).ownBlock) (.slice (some ad284) t276.length co59) t276) := ⟨by cases hW_; (with_reducible repeat (first | apply Kd.R_alloc | apply Kd.R_drewN | apply Kd.R_drew)); exact Kd.R_mono (Kd.R_far (p := ⟨gb283, 0, none⟩) (Kd.R_types HO278.out BK283.out (by decide)) (fun _ hk => by first | exact hk.2 | grind) (.int .i64 (-1))) (fun _ hk => by first | exact hk.1 | grind)⟩
           replace HO282 : Aside0 (Kd.R (Kd.int .i64) 3 w72 w.heap.size (fun k_ => some k_ ≠ (.slice (some ad284) t276.length co59 : Value).ownBlock) (.slice (some ⟨go30, 0, none⟩) t280.length co66) y285) := ⟨by cases hW_; (with_reducible repeat (first | apply Kd.R_alloc | apply Kd.R_drewN | apply Kd.R_drew)); exact Kd.R_mono (Kd.R_far (p := ⟨gb283, 0, none⟩) (Kd.R_types HO282.out BK283.out (by decide)) (fun _ hk => by first | exact hk.2 | grind) (.int .i64 (-1))) (fun _ hk => by first | exact hk.1 | grind)⟩
           replace BK273 := fc1_ hW_ BK273 NB273_283
           replace BK274 := fc1_ hW_ BK274 NB274_283
           replace BK283 : Aside0 (w72.heap[gb283]? = some (.cells #[.int .i64 (-1), .slice (some ⟨go30, 0, none⟩) t280.length co66] 24 (0, 0))) := pc1_ hW_ BK283
           replace HB : Aside0 (Below w.heap.size w w72) := ⟨by cases hW_; exact bf_ HB⟩
           clear hW_; replace HO278 := Aside0.mk (Kd.R_drew HO278.out); replace HO282 := Aside0.mk (Kd.R_drew HO282.out); replace BK273 := Aside0.mk (blk_drew BK273.out); replace BK274 := Aside0.mk (blk_drew BK274.out); replace BK283 := Aside0.mk (blk_drew BK283.out); replace HB := Aside0.mk (below_drew1 HB.out)
           have p288 : 0 ≤ (0 : Int) := (by omega)
           have q288 : 0 < (t276.length : Int) := od_
           obtain ⟨ad288, e288, hx288_0⟩ := Kd.at_int (Kd.R_reads' HO278.out).2.2 0 p288 q288
           obtain rfl : ad284 = ad288 := (by injection e288)
           have qi288 : (0 < t276.length) = True := eq_true (by omega)
           (try rw [show ((0 : Int)).toNat = 0 from rfl] at hx288_0)
           (try rw [Addr.add_zero'] at hx288_0)
           replace p288 := eq_true p288
           replace q288 := eq_true q288
           refine start_ (n := 7) (S := fun w' => cw_ w' gb283 0 (.int .i64 (-1)) ∧ cw_ w' gb283 1 (.slice (some ⟨go30, 0, none⟩) t280.length co66) ∧ w'.cell? ad284 = some (.int .i64 (rd t276 0))) (ds := []) (bs 7 0) (by kernel_rfl) rfl rfl ⟨bt_ BK283 0, bt_ BK283 1, hx288_0⟩ (fun hHeld => ?_)
           generalize w72.drew = w73 at HO278 HO282 BK273 BK274 BK283 HB hx288_0 hHeld ⊢
           refine ps0_ 1 47 #[oF,oT,oF,oF,oF,oF,oF] ?_
           refine ps0_ 2 48 #[oF,oT,oT,oF,oF,oF,oF] ?_
           refine tk0_ 0 46 (bs 7 3) hHeld ?_
           refine tk0_ 3 49 (bs 7 4) hHeld ?_
           refine on0_ 4 none (bs 7 5) (fun K hK => ?_)
           have hs74 := bc_ BK274 0 (.int .i64 0) rfl; have hfs74 := blk_frozen BK274.out 0; have hns74_0 := NB273_274.out; have hns74_2 := NB283_274.out; have hms74_0 := NB274_273.out; have hms74_2 := NB274_283.out; have hs75 := bc_ BK274 1 (.slice none 0 0) rfl; have hfs75 := blk_frozen BK274.out 1; have hns75_0 := NB273_274.out; have hns75_2 := NB283_274.out; have hms75_0 := NB274_273.out; have hms75_2 := NB274_283.out
           refine skip_ (w1 := ?_) (by rfl) rfl ?_ ?_
           rotate_left
           ·go_simp
            rfl
           refine hK.out _ _ ⟨(cf2_ NB283_274.out hHeld.1), (cf2_ NB283_274.out hHeld.2.1), (cf2_ (ab_ (Kd.own_blk (Kd.R_ne HO278.out BK274.out (by decide)))) hHeld.2.2)⟩ (fun hHeld => ?_)
           clear hK K
           refine ps0_ 5 5 (bs 7 6) ?_
           refine ps0_ 6 6 (bs 7 7) ?_
           refine done_ (by kernel_rfl) ?_
           try go_wp2
           refine bodyPost_ret (results_ctt rfl _ _ gb274 24 #[.int .i64 (-1), .slice (some ⟨go30, 0, none⟩) t280.length co66] (0, 0) _ rfl (by (with_reducible repeat (first | refine blk_drewN ?_ _ | refine blk_drew ?_ | refine blk_alloc ?_ _)); refine blk_put (cs := #[.int .i64 (-1), .slice none 0 0]) ?_ 1 _ rfl; (with_reducible repeat (first | refine blk_drewN ?_ _ | refine blk_drew ?_ | refine blk_alloc ?_ _)); refine blk_put (cs := #[.int .i64 0, .slice none 0 0]) ?_ 0 _ rfl; exact bk_ BK274) Try.underlying24 rfl (by kernel_rfl)) rfl ?_
           exact ⟨_, by first | rfl | (simp [errW_none, errW_some] <;> rfl) | (simp only [← hji25]; first | rfl | (simp [errW_none, errW_some] <;> rfl)) | (simp [*, errW_none, errW_some] <;> rfl), by (with_reducible repeat (first | apply Kd.R_alloc | apply Kd.R_drewN | apply Kd.R_drew)); exact Kd.R_mono (Kd.R_far (p := ⟨gb274, 1, none⟩) (Kd.R_far (p := ⟨gb274, 0, none⟩) (Kd.R_types HO282.out BK274.out (by decide)) (fun _ hk => by first | exact hk.2 | grind) (.int .i64 (-1))) (fun _ hk => by first | exact hk.2 | grind) (.slice (some ⟨go30, 0, none⟩) t280.length co66)) (fun _ hk => by first | exact trivial | grind), bf_ HB⟩
          ·rw [if_neg c55] at H
           exact absurd H (by simp)
        ·rw [if_neg c29] at H
         exact absurd H (by simp)
       ·rw [if_neg c28] at H
        exact absurd H (by simp)
      ·rw [if_neg c27] at H
       exact absurd H (by simp)
     ·rw [if_neg c26] at H
      exact absurd H (by simp)

/-! ### spec_l16Need: function 79 -/
def spec_l16Need.f (a0 : Int) : Option (Int) := some (mx 1 (wrap64 (Int.tdiv (wrap64 ((wrap64 (a0 + 16)) - 1)) 16)))
set_option maxHeartbeats 8000000 in
set_option maxRecDepth 100000 in
theorem spec_l16Need.calls (a0 : Int) (r : Int) (w : World) (h : spec_l16Need.f a0 = some r) :
  Calls Try.prog 79 #[.int .i64 a0] w fun e w' => e = .returned (.int .i64 r) ∧ Below w.heap.size w w' := by
 have HB := Aside0.mk (Below.refl w.heap.size w)
 have H : (some (mx 1 (wrap64 (Int.tdiv (wrap64 ((wrap64 (a0 + 16)) - 1)) 16)))) = some r := h
 clear h
 obtain ⟨ji2, hji2⟩ : ∃ j_ : Int, (mx 1 (wrap64 (Int.tdiv (wrap64 ((wrap64 (a0 + 16)) - 1)) 16))) = j_ := ⟨_, rfl⟩
 replace H : (some ji2) = some r := by first | (rw [hji2] at H; exact H) | (simp only [hji2] at H ⊢; exact H)
 (try (have hji2l : 1 ≤ ji2 := by (rw [← hji2]; unfold mx; (repeat' split) <;> omega)))
 (try (have hji2m : 0 ≤ ji2 := by omega))
 have hji2_ : (if 1 < (wrap64 (Int.tdiv (wrap64 ((wrap64 (a0 + 16)) - 1)) 16)) then (wrap64 (Int.tdiv (wrap64 ((wrap64 (a0 + 16)) - 1)) 16)) else 1) = ji2 := hji2
 obtain rfl := Option.some.inj H
 go_enter Try.func79, Try.ntmps79
 go_wp2
 go_ret
 exact ⟨by first | rfl | (simp [errW_none, errW_some] <;> rfl) | (simp only [← hji2]; first | rfl | (simp [errW_none, errW_some] <;> rfl)) | (simp [*, errW_none, errW_some] <;> rfl), be_ HB⟩

end Go.Proofs.Ytaglpjlapfocfaa.PFnExactStorePut
