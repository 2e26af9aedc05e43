-- printed by a program of this session (wip/printx) out of the translation; Lean checks it
import Derived.Test.YtnklakficjpmoaaVFnHeapBook
import Derived.Test.YtnklakficjpmoaaPFnHeapBookx0
import Derived.Test.YtnklakficjpmoaaPFnHeapBookx1
import Derived.Test.YtnklakficjpmoaaPFnHeapBookx3
import Derived.Test.YtnklakficjpmoaaPFnHeapBookx6
import Derived.Test.YtnklakficjpmoaaPFnHeapBookx7
import Derived.Test.YtnklakficjpmoaaPFnHeapBookx8
import Derived.Test.YtnklakficjpmoaaPFnHeapBookx11
import Derived.Test.YtnklakficjpmoaaPFnHeapBookx12
namespace Go.Proofs.Ytnklakficjpmoaa.PFnHeapBook
open Go.RowKit Go.Proofs.YtnklakficjpmoaaW.PrintWords Go.Proofs.YtnklakficjpmoaaW.PrintLast Go.Proofs.YtnklakficjpmoaaW.PrintMore
attribute [local go_sem] max2_int min2_int max_two min_two max_three min_three max_four min_four   -- for this text's walks alone
set_option linter.unusedVariables false
set_option linter.unusedSimpArgs false

attribute [local go_sem high] eqA68
/-! ### laws_FnHeapBook: function 6 -/
mutual
def laws_FnHeapBook.l0 : Nat → List Int → List (S68) → Int → List (S68) → Option (Bool)
  | 0, _, _, _, _ => none
  | k + 1, x0, x4, x5, x377000 => if x5 < (mn 40 (x0.length : Int)) then ((laws_pick.f k x0 x5 200).bind fun t385 => ((laws_pick.f k x0 (wrap64 (x5 + 3)) 30).bind fun t386 => (laws_FnHeapBook.l1 k x0 x4 x5 (-1) 0 x377000 t385 t386))) else (laws_FnHeapBook.l2 k x4 0 x377000)
def laws_FnHeapBook.l1 : Nat → List Int → List (S68) → Int → Int → Int → List (S68) → Int → Int → Option (Bool)
  | 0, _, _, _, _, _, _, _, _ => none
  | k + 1, x0, x4, x5, x7, x8, x377000, x388000, x388001 => if x8 < (x4.length : Int) then (if 0 ≤ x8 then (if ((rd_T68 x4 x8).f1) = x388001 then (laws_FnHeapBook.l1 k x0 x4 x5 x8 (wrap64 (x8 + 1)) x377000 x388000 x388001) else (laws_FnHeapBook.l1 k x0 x4 x5 x7 (wrap64 (x8 + 1)) x377000 x388000 x388001)) else (none)) else ((laws_pick.f k x0 (wrap64 (x5 + 9)) 4).bind fun t390 => (if t390 = 0 then (laws_FnHeapBook.j2 k x0 x4 x5 x7 0 t390 (t390 == 0) x377000 x388000 x388001 x377000) else (laws_FnHeapBook.j2 k x0 x4 x5 x7 0 t390 (t390 == 1) x377000 x388000 x388001 x377000)))
def laws_FnHeapBook.j4 : Nat → List Int → List (S68) → Int → Int → List (S68) → List (S68) → Option (Bool)
  | 0, _, _, _, _, _, _ => none
  | k + 1, x0, x4, x5, x10, x377000, x390000 => if x10 = 0 then ((spec_HeapOk.f k x390000).bind fun t424 => (if t424 = true then (if (x390000.length : Int) = (x4.length : Int) then (laws_FnHeapBook.l0 k x0 x4 (wrap64 (x5 + 1)) x390000) else (some false)) else (some false))) else ((spec_HeapOk.f k x377000).bind fun t425 => (if t425 = true then (if (x377000.length : Int) = (x4.length : Int) then (laws_FnHeapBook.l0 k x0 x4 (wrap64 (x5 + 1)) x377000) else (some false)) else (some false)))
def laws_FnHeapBook.j2 : Nat → List Int → List (S68) → Int → Int → Int → Int → Bool → List (S68) → Int → Int → List (S68) → Option (Bool)
  | 0, _, _, _, _, _, _, _, _, _, _, _ => none
  | k + 1, x0, x4, x5, x7, x10, x61, x62, x377000, x388000, x388001, x390000 => if x62 = true then ((impl_HeapPush.f k x377000 x388000 x388001).bind fun bt391 => (if ((bt391.2 == 2) != (decide (x7 ≥ 0))) = true then (laws_FnHeapBook.j3 k x0 x4 x5 bt391.2 true x377000 x388000 x388001 bt391.1) else (if bt391.2 = 3 then (laws_FnHeapBook.j3 k x0 x4 x5 bt391.2 (decide ((x4.length : Int) < 64)) x377000 x388000 x388001 bt391.1) else (laws_FnHeapBook.j3 k x0 x4 x5 bt391.2 false x377000 x388000 x388001 bt391.1)))) else (if x61 = 2 then ((impl_HeapMove.f k x377000 x388000 x388001).bind fun bt398 => (if ((bt398.2 == 0) != (decide (x7 ≥ 0))) = true then (some false) else (if x7 ≥ 0 then (if 0 ≤ x7 then (if x7 < (x4.length : Int) then (laws_FnHeapBook.j4 k x0 (x4.set (x7 : Int).toNat (⟨x388000, x388001⟩ : S68)) x5 bt398.2 x377000 bt398.1) else (none)) else (none)) else (laws_FnHeapBook.j4 k x0 x4 x5 bt398.2 x377000 bt398.1)))) else (if x61 = 3 then ((impl_HeapDrop.f k x377000 x388001).bind fun bt403 => (if ((bt403.2 == 0) != (decide (x7 ≥ 0))) = true then (some false) else (if x7 ≥ 0 then ((some (([] : List (S68)) : List (S68))).bind fun y407 => (if 0 ≤ x7 then (if x7 ≤ (x4.length : Int) then ((some (x4.take (x7 : Int).toNat : List (S68))).bind fun y410 => (if y407.length + y410.length < 8796093022208 then ((some (y407 ++ y410 : List (S68))).bind fun y414 => (if 0 ≤ (wrap64 (x7 + 1)) then (if (wrap64 (x7 + 1)) ≤ (x4.length : Int) then ((some (x4.drop ((wrap64 (x7 + 1)) : Int).toNat : List (S68))).bind fun y417 => (if y414.length + y417.length < 8796093022208 then (laws_FnHeapBook.j4 k x0 (y414 ++ y417) x5 bt403.2 x377000 bt403.1) else (none))) else (none)) else (none))) else (none))) else (none)) else (none))) else (laws_FnHeapBook.j4 k x0 x4 x5 bt403.2 x377000 bt403.1)))) else (laws_FnHeapBook.j4 k x0 x4 x5 x10 x377000 x390000)))
def laws_FnHeapBook.j3 : Nat → List Int → List (S68) → Int → Int → Bool → List (S68) → Int → Int → List (S68) → Option (Bool)
  | 0, _, _, _, _, _, _, _, _, _ => none
  | k + 1, x0, x4, x5, x10, x84, x377000, x388000, x388001, x390000 => if x84 = true then (some false) else (if x10 = 0 then (if x4.length < 8796093022208 then (laws_FnHeapBook.j4 k x0 (x4 ++ [(⟨x388000, x388001⟩ : S68)]) x5 x10 x377000 x390000) else (none)) else (laws_FnHeapBook.j4 k x0 x4 x5 x10 x377000 x390000))
def laws_FnHeapBook.l2 : Nat → List (S68) → Int → List (S68) → Option (Bool)
  | 0, _, _, _ => none
  | k + 1, x4, x11, x377000 => if x11 < (x4.length : Int) then (if 0 ≤ x11 then ((impl_HeapPlace.f k x377000 ((rd_T68 x4 x11).f1)).bind fun t428 => (if t428 < 0 then (some false) else (if t428 ≥ (x377000.length : Int) then (some false) else (if 0 ≤ t428 then (if t428 < (x377000.length : Int) then (if (!(((rd_T68 x377000 t428).f0) == ((rd_T68 x4 x11).f0)) || (!(((rd_T68 x377000 t428).f1) == ((rd_T68 x4 x11).f1)))) = true then (some false) else (if 0 < (x377000.length : Int) then ((spec_Ahead.f ((rd_T68 x4 x11).f0) ((rd_T68 x4 x11).f1) ((rd_T68 x377000 0).f0) ((rd_T68 x377000 0).f1)).bind fun t433 => (if t433 = true then (some false) else (laws_FnHeapBook.l2 k x4 (wrap64 (x11 + 1)) x377000))) else (none))) else (none)) else (none))))) else (none)) else ((impl_HeapOk.f k x377000).bind fun t426 => (some t426))
end
def laws_FnHeapBook.f (k : Nat) (l0 : List Int) : Option (Bool) := (laws_big.f l0).bind fun t372 => (if t372 = true then (some true) else ((spec_DrawHeapOrder.f k l0).bind fun t373 => ((spec_HeapOk.f k t373).bind fun t377 => (if t377 = true then ((some (([] : List (S68)) : List (S68))).bind fun y379 => (if y379.length + t373.length < 8796093022208 then (laws_FnHeapBook.l0 k l0 (y379 ++ t373) 0 t373) else (none))) else ((impl_HeapOk.f k t373).bind fun t378 => (some (!t378)))))))
theorem laws_FnHeapBook.mono_l : ∀ k, (∀ y0 y1 y2 y3, LeO (laws_FnHeapBook.l0 k y0 y1 y2 y3) (laws_FnHeapBook.l0 (k + 1) y0 y1 y2 y3)) ∧ (∀ y0 y1 y2 y3 y4 y5 y6 y7, LeO (laws_FnHeapBook.l1 k y0 y1 y2 y3 y4 y5 y6 y7) (laws_FnHeapBook.l1 (k + 1) y0 y1 y2 y3 y4 y5 y6 y7)) ∧ (∀ y0 y1 y2 y3 y4 y5, LeO (laws_FnHeapBook.j4 k y0 y1 y2 y3 y4 y5) (laws_FnHeapBook.j4 (k + 1) y0 y1 y2 y3 y4 y5)) ∧ (∀ y0 y1 y2 y3 y4 y5 y6 y7 y8 y9 y10, LeO (laws_FnHeapBook.j2 k y0 y1 y2 y3 y4 y5 y6 y7 y8 y9 y10) (laws_FnHeapBook.j2 (k + 1) y0 y1 y2 y3 y4 y5 y6 y7 y8 y9 y10)) ∧ (∀ y0 y1 y2 y3 y4 y5 y6 y7 y8, LeO (laws_FnHeapBook.j3 k y0 y1 y2 y3 y4 y5 y6 y7 y8) (laws_FnHeapBook.j3 (k + 1) y0 y1 y2 y3 y4 y5 y6 y7 y8)) ∧ (∀ y0 y1 y2, LeO (laws_FnHeapBook.l2 k y0 y1 y2) (laws_FnHeapBook.l2 (k + 1) y0 y1 y2))
 | 0 => ⟨fun _ _ _ _ r h => by simp [laws_FnHeapBook.l0] at h, fun _ _ _ _ _ _ _ _ r h => by simp [laws_FnHeapBook.l1] at h, fun _ _ _ _ _ _ r h => by simp [laws_FnHeapBook.j4] at h, fun _ _ _ _ _ _ _ _ _ _ _ r h => by simp [laws_FnHeapBook.j2] at h, fun _ _ _ _ _ _ _ _ _ r h => by simp [laws_FnHeapBook.j3] at h, fun _ _ _ r h => by simp [laws_FnHeapBook.l2] at h⟩
 | k + 1 => by
  obtain ⟨ih0, ih1, ih2, ih3, ih4, ih5⟩ := laws_FnHeapBook.mono_l k
  refine ⟨?_, ?_, ?_, ?_, ?_, ?_⟩ <;> intros <;> (first | unfold laws_FnHeapBook.l0 | unfold laws_FnHeapBook.l1 | unfold laws_FnHeapBook.j4 | unfold laws_FnHeapBook.j2 | unfold laws_FnHeapBook.j3 | unfold laws_FnHeapBook.l2) <;> repeat' (first | (with_reducible exact ih0 ..) | (with_reducible exact ih1 ..) | (with_reducible exact ih2 ..) | (with_reducible exact ih3 ..) | (with_reducible exact ih4 ..) | (with_reducible exact ih5 ..) | (with_reducible exact impl_HeapDrop.mono _ _ _) | (with_reducible exact impl_HeapMove.mono _ _ _ _) | (with_reducible exact impl_HeapOk.mono _ _) | (with_reducible exact impl_HeapPlace.mono _ _ _) | (with_reducible exact impl_HeapPush.mono _ _ _ _) | (with_reducible exact laws_pick.mono _ _ _ _) | (with_reducible exact spec_DrawHeapOrder.mono _ _) | (with_reducible exact spec_HeapOk.mono _ _) | (with_reducible exact LeO.refl _) | (with_reducible exact LeO.none _) | (with_reducible refine LeO.ite ?_ ?_) | (with_reducible refine LeO.bind ?_ (fun _ => ?_)) | exact ih0 .. | exact ih1 .. | exact ih2 .. | exact ih3 .. | exact ih4 .. | exact ih5 .. | exact impl_HeapDrop.mono _ _ _ | exact impl_HeapMove.mono _ _ _ _ | exact impl_HeapOk.mono _ _ | exact impl_HeapPlace.mono _ _ _ | exact impl_HeapPush.mono _ _ _ _ | exact laws_pick.mono _ _ _ _ | exact spec_DrawHeapOrder.mono _ _ | exact spec_HeapOk.mono _ _ | exact LeO.none _ | refine LeO.ite ?_ ?_ | refine LeO.bind ?_ (fun _ => ?_))
theorem laws_FnHeapBook.mono : ∀ a0 k, LeO (laws_FnHeapBook.f k a0) (laws_FnHeapBook.f (k + 1) a0) := by
 intro a0 k
 obtain ⟨ih0, ih1, ih2, ih3, ih4, ih5⟩ := laws_FnHeapBook.mono_l k
 unfold laws_FnHeapBook.f
 repeat' (first | (with_reducible exact ih0 ..) | (with_reducible exact ih1 ..) | (with_reducible exact ih2 ..) | (with_reducible exact ih3 ..) | (with_reducible exact ih4 ..) | (with_reducible exact ih5 ..) | (with_reducible exact impl_HeapDrop.mono _ _ _) | (with_reducible exact impl_HeapMove.mono _ _ _ _) | (with_reducible exact impl_HeapOk.mono _ _) | (with_reducible exact impl_HeapPlace.mono _ _ _) | (with_reducible exact impl_HeapPush.mono _ _ _ _) | (with_reducible exact laws_pick.mono _ _ _ _) | (with_reducible exact spec_DrawHeapOrder.mono _ _) | (with_reducible exact spec_HeapOk.mono _ _) | (with_reducible exact LeO.refl _) | (with_reducible exact LeO.none _) | (with_reducible refine LeO.ite ?_ ?_) | (with_reducible refine LeO.bind ?_ (fun _ => ?_)) | exact ih0 .. | exact ih1 .. | exact ih2 .. | exact ih3 .. | exact ih4 .. | exact ih5 .. | exact impl_HeapDrop.mono _ _ _ | exact impl_HeapMove.mono _ _ _ _ | exact impl_HeapOk.mono _ _ | exact impl_HeapPlace.mono _ _ _ | exact impl_HeapPush.mono _ _ _ _ | exact laws_pick.mono _ _ _ _ | exact spec_DrawHeapOrder.mono _ _ | exact spec_HeapOk.mono _ _ | exact LeO.none _ | refine LeO.ite ?_ ?_ | refine LeO.bind ?_ (fun _ => ?_))
def laws_FnHeapBook.T15 : Bool × List (List Nat × List Nat) := (true, [([], []), ([], []), ([0, 1], [0, 1]), ([2], [2]), ([3], [3]), ([], []), ([5], [5]), ([4, 6], [4, 6])])
def laws_FnHeapBook.B15 : List Nat := [0, 0, 3, 7, 15, 0, 32, 127]
theorem laws_FnHeapBook.tab15 : rtab .any (opsOf Try.f6 15) = laws_FnHeapBook.T15 := by kernel_rfl
theorem laws_FnHeapBook.bits15 : waitsOk laws_FnHeapBook.T15.2 laws_FnHeapBook.B15 = true := by kernel_rfl
def laws_FnHeapBook.T38 : Bool × List (List Nat × List Nat) := (true, [([], []), ([], []), ([], []), ([1, 2], [1, 2]), ([0, 3], [0, 3]), ([], []), ([], []), ([6], [6]), ([5, 7], [5, 7]), ([4, 8, 4], [4, 8]), ([9, 9, 0, 1, 2, 3, 4, 5, 6, 7, 8, 9], [1, 5, 9])])
def laws_FnHeapBook.B38 : List Nat := [0, 0, 0, 6, 15, 0, 0, 64, 224, 511, 1023]
theorem laws_FnHeapBook.tab38 : rtab .any (opsOf Try.f6 38) = laws_FnHeapBook.T38 := by kernel_rfl
theorem laws_FnHeapBook.bits38 : waitsOk laws_FnHeapBook.T38.2 laws_FnHeapBook.B38 = true := by kernel_rfl
def laws_FnHeapBook.T46 : Bool × List (List Nat × List Nat) := (true, [([], []), ([], []), ([], []), ([1, 2], [1, 2]), ([3], [3]), ([4], [4]), ([0, 5], [0, 5]), ([6, 6, 0, 1, 2, 3, 4, 5, 6], [6])])
def laws_FnHeapBook.B46 : List Nat := [0, 0, 0, 6, 14, 30, 63, 127]
theorem laws_FnHeapBook.tab46 : rtab .any (opsOf Try.f6 46) = laws_FnHeapBook.T46 := by kernel_rfl
theorem laws_FnHeapBook.bits46 : waitsOk laws_FnHeapBook.T46.2 laws_FnHeapBook.B46 = true := by kernel_rfl
def laws_FnHeapBook.T47 : Bool × List (List Nat × List Nat) := (true, [([], []), ([0], [0]), ([1], [1]), ([2], [2]), ([2], [2]), ([4, 2], [2, 4]), ([5, 2], [2, 5]), ([3, 6, 2], [2, 3, 6]), ([2, 7], [2, 7]), ([8, 2], [8]), ([9], [9]), ([10, 9], [9, 10]), ([9], [9]), ([11, 12, 9], [9, 11, 12]), ([13, 9], [9, 13]), ([9], [9]), ([9], [9]), ([15, 16, 9], [9, 15, 16]), ([17, 9], [9, 17]), ([14, 18, 9], [9, 14, 18]), ([9, 19], [9, 19]), ([20, 9], [20]), ([21], [21]), ([21], [21]), ([22, 23, 21], [21, 22, 23]), ([24, 21], [21, 24]), ([21], [21]), ([26, 21], [21, 26]), ([27, 21], [21, 27]), ([28, 21], [21, 28]), ([25, 29, 21, 21], [21, 25, 29]), ([21, 30], [21, 30])])
def laws_FnHeapBook.B47 : List Nat := [0, 1, 3, 7, 7, 23, 55, 127, 255, 511, 1023, 2047, 1023, 8191, 16383, 1023, 1023, 99327, 230399, 524287, 1048575, 2097151, 4194303, 4194303, 16777215, 33554431, 4194303, 71303167, 205520895, 473956351, 1073741823, 2147483647]
theorem laws_FnHeapBook.tab47 : rtab .any (opsOf Try.f6 47) = laws_FnHeapBook.T47 := by kernel_rfl
theorem laws_FnHeapBook.bits47 : waitsOk laws_FnHeapBook.T47.2 laws_FnHeapBook.B47 = true := by kernel_rfl
set_option maxHeartbeats 80000000 in
set_option maxRecDepth 100000 in
theorem laws_FnHeapBook.calls (k : Nat) (A0 : Option Addr) (c0 : Nat) (l0 : List Int) (r : Bool) (w : World) (hr0 : Kd.C (Kd.int .u8) w A0 l0.length l0) (hc0 : l0.length ≤ c0) (h : laws_FnHeapBook.f k l0 = some r) :
  Calls Try.prog 6 #[.slice A0 l0.length c0] w fun e w' => e = .returned (.bool r) ∧ Below w.heap.size w w' := by
 have hu29 := Try.underlying29; have hu68 := Try.underlying68
 have HR0 := Aside0.mk hr0
 have HC0 := Aside0.mk hc0
 clear hr0 hc0; have HB := Aside0.mk (Below.refl w.heap.size w)
 have H := h
 clear h
 unfold laws_FnHeapBook.f at H
 replace H := Option.bind_eq_some_iff.mp H
 obtain ⟨t372, A20, H⟩ := H
 have A2 := Aside0.mk A20
 clear A20
 by_cases c3 : t372 = true
 ·subst c3
  rw [if_pos rfl] at H
  obtain rfl := Option.some.inj H
  go_enter Try.func6, Try.ntmps6
  go_wp2_with (first | ((with_reducible refine gc_ 38 rfl ?_); refine gl_ 14 Try.func38 #[.slice A0 l0.length c0] ?_; (with_reducible refine (laws_big.calls _ _ l0 true _ ?side1 ?side2 A2.out).mono ?_); (case side1 => repeat (first | exact HR0.out | (with_reducible refine Kd.C_alloc ?_ _) | (with_reducible refine Kd.C_drewN ?_ _) | (with_reducible refine Kd.C_drew ?_))); (case side2 => exact HC0.out); rintro e w' ⟨rfl, ⟨nd, rfl⟩⟩; refine ⟨_, rfl, ?_⟩))
  go_ret
  exact ⟨by first | rfl | (simp [errW_none, errW_some] <;> rfl) | (simp [*, errW_none, errW_some] <;> rfl), be_ HB⟩
 ·replace c3 := Bool.eq_false_iff.mpr c3
  subst c3
  rw [if_neg (show ¬ (false = true) by decide)] at H
  replace H := Option.bind_eq_some_iff.mp H
  obtain ⟨t373, A40, H⟩ := H
  have A4 := Aside0.mk A40
  clear A40
  replace H := Option.bind_eq_some_iff.mp H
  obtain ⟨t377, A50, H⟩ := H
  have A5 := Aside0.mk A50
  clear A50
  by_cases c6 : t377 = true
  ·subst c6
   rw [if_pos rfl] at H
   obtain ⟨y379, hy379⟩ : ∃ y_ : List (S68), y_ = (([] : List (S68))) := ⟨_, rfl⟩
   replace H : (if y379.length + t373.length < 8796093022208 then (laws_FnHeapBook.l0 k l0 (y379 ++ t373) 0 t373) else (none)) = some r := by first | (rw [hy379]; with_reducible exact H) | (have H2_ := (Option.bind_some _ _).symm.trans H; rw [hy379]; with_reducible exact H2_) | (have H2_ := (Option.bind_some _ _).symm.trans H; with_reducible exact H2_) | with_reducible exact H | (rw [hy379]; exact H) | exact H
   have Ny379 := Aside0.mk hy379
   clear hy379
   by_cases c7 : y379.length + t373.length < 8796093022208
   ·rw [if_pos c7] at H
    have LMc7 := Aside0.mk c7
    clear c7
    obtain ⟨y382, hy382⟩ : ∃ y_ : List (S68), y_ = (y379 ++ t373) := ⟨_, rfl⟩
    replace H : (laws_FnHeapBook.l0 k l0 y382 0 t373) = some r := by first | (rw [hy382]; with_reducible exact H) | (have H2_ := (Option.bind_some _ _).symm.trans H; rw [hy382]; with_reducible exact H2_) | (have H2_ := (Option.bind_some _ _).symm.trans H; with_reducible exact H2_) | with_reducible exact H | (rw [hy382]; exact H) | exact H
    have Ny382 := Aside0.mk hy382
    clear hy382
    have H' := Aside0.mk H
    clear H
    go_enter Try.func6, Try.ntmps6
    go_wp2_with (first | ((with_reducible refine gc_ 38 rfl ?_); refine gl_ 14 Try.func38 #[.slice A0 l0.length c0] ?_; (with_reducible refine (laws_big.calls _ _ l0 false _ ?side1 ?side2 A2.out).mono ?_); (case side1 => repeat (first | exact HR0.out | (with_reducible refine Kd.C_alloc ?_ _) | (with_reducible refine Kd.C_drewN ?_ _) | (with_reducible refine Kd.C_drew ?_))); (case side2 => exact HC0.out); rintro e w' ⟨rfl, ⟨nd, rfl⟩⟩; refine ⟨_, rfl, ?_⟩) | ((with_reducible refine gc_ 39 rfl ?_); refine gl_ 16 Try.func39 #[.slice A0 l0.length c0] ?_; (with_reducible refine (spec_DrawHeapOrder.calls k _ _ l0 t373 _ ?side1 ?side2 A4.out).mono ?_); (case side1 => repeat (first | exact HR0.out | (with_reducible refine Kd.C_alloc ?_ _) | (with_reducible refine Kd.C_drewN ?_ _) | (with_reducible refine Kd.C_drew ?_))); (case side2 => exact HC0.out); rintro e w8 ⟨v374, rfl, ho0, hb⟩; refine ⟨_, rfl, ?_⟩; have HO375 := Aside0.mk (Kd.R_lower ho0 (below_size (be_ HB))); replace HB := Aside0.mk (below_step (be_ HB) hb); (try clear hb); (try clear hb2); (try clear hk); (try clear hi); (try clear ho0)) | ((with_reducible refine gd_ 3 rfl ?_); (try (refine gate_guard (by rfl) ?_; dsimp only)); refine bv_ 3 #[.slice none 0 0] 29 ?_; intro gb376 hg w9 hbox hb; replace HO375 := Aside0.mk (Kd.R_below (kr_ HO375) hb); have BK376 := Aside0.mk (hbox); have GW376 := gw_ HB hg; have GE376 := gw_ HB hg; replace HB := Aside0.mk (below_step (be_ HB) hb); clear hb hbox hg; obtain ⟨Ao10, co10, eo10⟩ := Kd.R_slice HO375.out; subst eo10; obtain ⟨hcz11_0, hfz11_0⟩ := bz1_ BK376) | ((with_reducible refine gc_ 40 rfl ?_); refine gl_ 18 Try.func40 #[.agg #[.slice Ao10 t373.length co10]] ?_; (with_reducible refine (spec_HeapOk.calls k _ _ t373 true _ ?side1 ?side2 A5.out).mono ?_); (case side1 => refine (Kd.R_reads' (e := 68) (base := w.heap.size) (ok := fun k_ => True) (n := t373.length) (c := co10) ?_).2.2; exact (by (with_reducible repeat (first | apply Kd.R_alloc | apply Kd.R_drewN | apply Kd.R_drew)); exact (rf1_ HO375 BK376 (.slice Ao10 t373.length co10)))); (case side2 => exact (Kd.R_reads' HO375.out).2.1); rintro e w12 ⟨rfl, hb⟩; refine ⟨_, rfl, ?_⟩; replace HO375 := Aside0.mk (Kd.R_below (by (with_reducible repeat (first | apply Kd.R_alloc | apply Kd.R_drewN | apply Kd.R_drew)); exact (rf1_ HO375 BK376 (.slice Ao10 t373.length co10))) hb); replace BK376 := Aside0.mk (blk_below (g := gb376) (o := .cells #[.slice Ao10 t373.length co10] 29 (0, 0)) (by (with_reducible repeat (first | refine blk_drewN ?_ _ | refine blk_drew ?_ | refine blk_alloc ?_ _)); refine blk_put (cs := #[.slice none 0 0]) ?_ 0 _ rfl; exact bk_ BK376) hb); replace HB := Aside0.mk (below_step (bf_ HB) hb); (try clear hb); (try clear hb2); (try clear hk); (try clear hi)) | ((with_reducible refine gd_ 23 rfl ?_); (try (refine gate_guard (by rfl) ?_; dsimp only)); refine Kd.R_lit k68 _ 68 ?hg (N := 23) ?hd (xs := ([] : List (S68))) (inner := []) (ok := fun _ => True) (okp := fun _ => True) ?hr ?hp (fun _ hk => by first | exact hk | grind) trivial (Below.refl _ _) (Nat.le_refl _) (by simp) ?_; (case hd => rfl); (case hg => rfl); (case hr => first | (go_simp; done) | (go_simp; rfl)); (case hp => exact (Reps.none _ _)); intro v380 w13 ho14 hb hg_ hnew_; clear hg_ hnew_; (first | rw [← Ny379.out] at ho14 | (simp only [Int.reduceToNat] at ho14; rw [← Ny379.out] at ho14)); have HO381 := Aside0.mk (Kd.R_lower (Kd.R_new' ho14 (Kd.R_lt (kr_ HO375))) (below_size (bf_ HB))); replace HO375 := Aside0.mk (Kd.R_elder' (kr_ HO375) (Kd.R_base ho14) hb); replace BK376 := bb_ BK376 hb; replace HB := Aside0.mk (below_step (bf_ HB) hb); clear hb ho14; obtain ⟨hcz15_0, hfz15_0⟩ := bz1_ BK376) | ((with_reducible refine gate_builtin (b := .append) (xs := #[.tmp 23, .tmp 25]) rfl ?_); (try (refine gate_guard (by rfl) ?_; dsimp only)); at_builtin; refine Kd.R_append_rows k68 (w0 := w) w.heap.size rfl (.tmp 23) (.tmp 25) 26 68 (.agg #[(.int .i64 0), (.int .i64 0)]) 16 rfl Try.underlying26 info68 rfl (by decide) (by omega) v380 y379 t373 _ _ _ (fun k_ => some k_ ≠ (.slice Ao10 t373.length co10 : Value).ownBlock) (fun _ => False) rfl rfl ?aO ?aR (fun _ _ h => h) (fun _ h => h.elim) ?aF ?aB ?aS ?aL ?_; (case aR => exact cr_ HO375); (case aB => exact (bf_ HB)); (case aF => exact (fun k_ hk => by first | exact Kd.fresh' (Kd.R_lt (kr_ HO375)) k_ hk | grind)); (case aO => exact (by (with_reducible repeat (first | apply Kd.R_alloc | apply Kd.R_drewN | apply Kd.R_drew)); exact Kd.R_mono HO381.out (fun _ hk => by first | exact hk.2 | grind))); (case aS => exact (below_size (bf_ HB))); (case aL => have := LMc7.out; omega); intro v383 w16 ho hb hg hat; rw [← Ny382.out] at ho; replace HO375 := Aside0.mk (Kd.R_after (ok := (fun _ => True)) (kr_ HO375) hg hat); replace BK376 := Aside0.mk (blk_grown (g := gb376) (o := .cells #[.slice Ao10 t373.length co10] 29 (0, 0)) (bk_ BK376) hg (Kd.R_ne HO381.out BK376.out (by decide))); replace HB := Aside0.mk (hb); have HO384 := Aside0.mk (ho); clear HO381 ho hb hg hat))
    go_loopg [4, 5] k (fun kq v4 v5 w' => ∃ (x4_1 : List (S68)) (x5_1 : Int) (x377000_1 : List (S68)) (u377000 : Value), v5 = .int .i64 x5_1 ∧ Aside0 (laws_FnHeapBook.l0 kq l0 x4_1 x5_1 x377000_1 = some r) ∧ Aside0 (kq ≤ k) ∧ Aside0 (Kd.R k68 68 w' w.heap.size (fun k_ => some k_ ≠ (u377000 : Value).ownBlock) v4 x4_1) ∧ Aside0 (Kd.R k68 68 w' w.heap.size (fun k_ => some k_ ≠ (v4 : Value).ownBlock) u377000 x377000_1) ∧ Aside0 (w'.heap[gb376]? = some (.cells #[u377000] 29 (0, 0))) ∧ Aside0 (Below w.heap.size w w'))
    case atStart => exact ⟨(y382), (0), (t373), (.slice Ao10 t373.length co10), (by first | rfl | (simp; done) | (simp [*]; done)), H', ⟨Nat.le_refl _⟩, ⟨kr_ HO384⟩, ⟨by (with_reducible repeat (first | apply Kd.R_alloc | apply Kd.R_drewN | apply Kd.R_drew)); exact Kd.R_mono HO375.out (fun _ hk => by first | exact hk.2 | grind)⟩, ⟨bk_ BK376⟩, ⟨bf_ HB⟩⟩
    case round =>
     clear H'
     (try clear p2); (try clear c3); (try clear c4); (try clear c6); (try clear c7); (try clear hcz11_0 hfz11_0); (try clear hcz15_0 hfz15_0)
     obtain ⟨x4_1, x5_1, x377000_1, u377000, rfl, HA, HK1, HO_4, HO_377000, BK376, HB⟩ := hrel
     cases gk with
     | zero => exact absurd HA.out (by simp [laws_FnHeapBook.l0])
     | succ k1 =>
      have H := HA.out
      clear HA
      simp only [laws_FnHeapBook.l0] at H
      obtain ⟨ji17, hji17⟩ : ∃ j_ : Int, (mn 40 (l0.length : Int)) = j_ := ⟨_, rfl⟩
      replace H : (if x5_1 < (ji17) then ((laws_pick.f k1 l0 x5_1 200).bind fun t385 => ((laws_pick.f k1 l0 (wrap64 (x5_1 + 3)) 30).bind fun t386 => (laws_FnHeapBook.l1 k1 l0 x4_1 x5_1 (-1) 0 x377000_1 t385 t386))) else (laws_FnHeapBook.l2 k1 x4_1 0 x377000_1)) = some r := by first | (rw [hji17] at H; exact H) | (simp only [hji17] at H ⊢; exact H)
      have hji17_ : (if (l0.length : Int) < 40 then (l0.length : Int) else 40) = ji17 := hji17
      by_cases c18 : x5_1 < (ji17)
      ·rw [if_pos c18] at H
       have c18b0 : decide (x5_1 < (ji17)) = true := decide_eq_true c18
       clear c18
       replace H := Option.bind_eq_some_iff.mp H
       obtain ⟨t385, A190, H⟩ := H
       have A19 := Aside0.mk A190
       clear A190
       replace H := Option.bind_eq_some_iff.mp H
       obtain ⟨t386, A200, H⟩ := H
       have A20 := Aside0.mk A200
       clear A200
       have H' := Aside0.mk H
       clear H
       go_wp2_with (first | ((with_reducible refine gc_ 42 rfl ?_); refine gl_ 36 Try.func42 #[.slice A0 l0.length c0, .int .i64 x5_1, .int .i64 200] ?_; (with_reducible refine (laws_pick.calls k1 _ _ l0 x5_1 200 t385 _ ?side1 ?side2 A19.out).mono ?_); (case side1 => repeat (first | exact (Kd.C_below HR0.out HB.out) | (with_reducible refine Kd.C_alloc ?_ _) | (with_reducible refine Kd.C_drewN ?_ _) | (with_reducible refine Kd.C_drew ?_))); (case side2 => exact HC0.out); rintro e w' ⟨rfl, ⟨nd, rfl⟩⟩; refine ⟨_, rfl, ?_⟩; (try (rw [drewN_self wr]; generalize hq_ : World.drewN wr _ = wr; have n0_ : Aside0 (Kd.R k68 68 wr w.heap.size (fun k_ => some k_ ≠ (u4 : Value).ownBlock) u377000 x377000_1) := ⟨by rw [← hq_]; exact (kr_ HO_377000)⟩; have n1_ : Aside0 (Kd.R k68 68 wr w.heap.size (fun k_ => some k_ ≠ (u377000 : Value).ownBlock) u4 x4_1) := ⟨by rw [← hq_]; exact (kr_ HO_4)⟩; have n2_ : Aside0 (wr.heap[gb376]? = some (.cells #[u377000] 29 (0, 0))) := ⟨by rw [← hq_]; exact (bk_ BK376)⟩; have n3_ : Aside0 (Below w.heap.size w wr) := ⟨by rw [← hq_]; exact (bf_ HB)⟩; clear HO_377000 HO_4 BK376 HB hq_; have HO_377000 := n0_; have HO_4 := n1_; have BK376 := n2_; have HB := n3_; clear n0_ n1_ n2_ n3_; have hcs376_0 := bc_ BK376 0 (u377000) rfl; have hfs376_0 := blk_frozen BK376.out 0))) | ((with_reducible refine gc_ 42 rfl ?_); refine gl_ 40 Try.func42 #[.slice A0 l0.length c0, .int .i64 (wrap64 (x5_1 + 3)), .int .i64 30] ?_; (with_reducible refine (laws_pick.calls k1 _ _ l0 (wrap64 (x5_1 + 3)) 30 t386 _ ?side1 ?side2 A20.out).mono ?_); (case side1 => repeat (first | exact (Kd.C_below HR0.out HB.out) | (with_reducible refine Kd.C_alloc ?_ _) | (with_reducible refine Kd.C_drewN ?_ _) | (with_reducible refine Kd.C_drew ?_))); (case side2 => exact HC0.out); rintro e w' ⟨rfl, ⟨nd, rfl⟩⟩; refine ⟨_, rfl, ?_⟩; (try (rw [drewN_self wr]; generalize hq_ : World.drewN wr _ = wr; have n0_ : Aside0 (Kd.R k68 68 wr w.heap.size (fun k_ => some k_ ≠ (u4 : Value).ownBlock) u377000 x377000_1) := ⟨by rw [← hq_]; exact (kr_ HO_377000)⟩; have n1_ : Aside0 (Kd.R k68 68 wr w.heap.size (fun k_ => some k_ ≠ (u377000 : Value).ownBlock) u4 x4_1) := ⟨by rw [← hq_]; exact (kr_ HO_4)⟩; have n2_ : Aside0 (wr.heap[gb376]? = some (.cells #[u377000] 29 (0, 0))) := ⟨by rw [← hq_]; exact (bk_ BK376)⟩; have n3_ : Aside0 (Below w.heap.size w wr) := ⟨by rw [← hq_]; exact (bf_ HB)⟩; clear HO_377000 HO_4 BK376 HB hq_; have HO_377000 := n0_; have HO_4 := n1_; have BK376 := n2_; have HB := n3_; clear n0_ n1_ n2_ n3_; have hcs376_0 := bc_ BK376 0 (u377000) rfl; have hfs376_0 := blk_frozen BK376.out 0))) | ((with_reducible refine gd_ 6 rfl ?_); (try (refine gate_guard (by rfl) ?_; dsimp only)); refine bv_ 6 #[.int .i64 0, .int .i64 0] 68 ?_; intro gb387 hg w21 hbox hb; replace HO_4 := Aside0.mk (Kd.R_below (Kd.R_elderB (kr_ HO_4) gb387 (Nat.le_of_eq hg.symm)) hb); replace HO_377000 := Aside0.mk (Kd.R_below (Kd.R_elderB (kr_ HO_377000) gb387 (Nat.le_of_eq hg.symm)) hb); have BK387 := Aside0.mk (hbox); have GW387 := gw_ HB hg; have GE387 := gw_ HB hg; replace HB := Aside0.mk (below_step (bf_ HB) hb); have NB376_387 := nl_ BK376 hg; have NB387_376 := ng_ BK376 hg; replace BK376 := bb_ BK376 hb; clear hb hbox hg; have hnb22 := NB387_376.out; have hnc22 := NB376_387.out; obtain ⟨hcz23_0, hcz23_1, hfz23_0, hfz23_1⟩ := bz2_ BK387))
       go_loopg [7, 8] k1 (fun kq v7 v8 w' => ∃ (x7_2 : Int) (x8_2 : Int), v7 = .int .i64 x7_2 ∧ v8 = .int .i64 x8_2 ∧ Aside0 (laws_FnHeapBook.l1 kq l0 x4_1 x5_1 x7_2 x8_2 x377000_1 t385 t386 = some r) ∧ Aside0 (kq ≤ k1) ∧ Aside0 (Kd.R k68 68 w' w.heap.size (fun k_ => some k_ ≠ (u377000 : Value).ownBlock ∧ k_ ≠ gb387) u4 x4_1) ∧ Aside0 (Kd.R k68 68 w' w.heap.size (fun k_ => some k_ ≠ (u4 : Value).ownBlock ∧ k_ ≠ gb387) u377000 x377000_1) ∧ Aside0 (w'.heap[gb376]? = some (.cells #[u377000] 29 (0, 0))) ∧ Aside0 (w'.heap[gb387]? = some (.cells #[.int .i64 t385, .int .i64 t386] 68 (0, 0))) ∧ Aside0 (Below w.heap.size w w'))
       case atStart => exact ⟨((-1)), (0), (by first | rfl | (simp; done) | (simp [*]; done)), (by first | rfl | (simp; done) | (simp [*]; done)), H', ⟨Nat.le_refl _⟩, ⟨by (with_reducible repeat (first | apply Kd.R_alloc | apply Kd.R_drewN | apply Kd.R_drew)); exact Kd.R_mono (Kd.R_far (p := ⟨gb387, 1, none⟩) (Kd.R_far (p := ⟨gb387, 0, none⟩) (Kd.R_mono (ok' := fun k_ => _ ∧ k_ ≠ gb387) HO_4.out (fun k_ hk => by first | exact (⟨hk, hk.2⟩ : _ ∧ k_ ≠ gb387) | grind)) (fun _ hk => by first | exact hk.2 | grind) (.int .i64 t385)) (fun _ hk => by first | exact hk.2 | grind) (.int .i64 t386)) (fun _ hk => by first | exact ⟨hk.1.1, hk.1.2⟩ | grind)⟩, ⟨by (with_reducible repeat (first | apply Kd.R_alloc | apply Kd.R_drewN | apply Kd.R_drew)); exact Kd.R_mono (Kd.R_far (p := ⟨gb387, 1, none⟩) (Kd.R_far (p := ⟨gb387, 0, none⟩) (Kd.R_mono (ok' := fun k_ => _ ∧ k_ ≠ gb387) HO_377000.out (fun k_ hk => by first | exact (⟨hk, hk.2⟩ : _ ∧ k_ ≠ gb387) | grind)) (fun _ hk => by first | exact hk.2 | grind) (.int .i64 t385)) (fun _ hk => by first | exact hk.2 | grind) (.int .i64 t386)) (fun _ hk => by first | exact ⟨hk.1.1, hk.1.2⟩ | grind)⟩, ⟨by (with_reducible repeat (first | refine blk_drewN ?_ _ | refine blk_drew ?_ | refine blk_alloc ?_ _)); refine blk_far ?_ NB376_387.out _; (with_reducible repeat (first | refine blk_drewN ?_ _ | refine blk_drew ?_ | refine blk_alloc ?_ _)); refine blk_far ?_ NB376_387.out _; exact bk_ BK376⟩, ⟨by (with_reducible repeat (first | refine blk_drewN ?_ _ | refine blk_drew ?_ | refine blk_alloc ?_ _)); refine blk_put (cs := #[.int .i64 t385, .int .i64 0]) ?_ 1 _ rfl; (with_reducible repeat (first | refine blk_drewN ?_ _ | refine blk_drew ?_ | refine blk_alloc ?_ _)); refine blk_put (cs := #[.int .i64 0, .int .i64 0]) ?_ 0 _ rfl; exact bk_ BK387⟩, ⟨bf_ HB⟩⟩
       case round =>
        clear H'
        (try clear c1); (try clear c2); (try clear p2 p2); (try clear c3); (try clear c4); (try clear c6); (try clear p6); (try clear c7); (try clear c18); (try clear c18b0); (try clear c22); (try clear hcz11_0 hfz11_0); (try clear hcz15_0 hfz15_0); (try clear hcz23_0 hcz23_1 hfz23_0 hfz23_1)
        obtain ⟨x7_2, x8_2, rfl, rfl, HA, HK2, HO_4, HO_377000, BK376, BK387, HB⟩ := hrel
        cases gk with
        | zero => exact absurd HA.out (by simp [laws_FnHeapBook.l1])
        | succ k2 =>
         have H := HA.out
         clear HA
         simp only [laws_FnHeapBook.l1] at H
         by_cases c24 : x8_2 < (x4_1.length : Int)
         ·rw [if_pos c24] at H
          have c24b0 : decide (x8_2 < (x4_1.length : Int)) = true := decide_eq_true c24
          clear c24
          by_cases c25 : 0 ≤ x8_2
          ·rw [if_pos c25] at H
           have c25b0 : decide (0 ≤ x8_2) = true := decide_eq_true c25
           clear c25
           by_cases c26 : ((rd_T68 x4_1 x8_2).f1) = t386
           ·rw [if_pos c26] at H
            have c26b0 : (((rd_T68 x4_1 x8_2).f1) == t386) = true := beq_iff_eq.mpr c26
            have c26b1 : (((rd_T68 x4_1 x8_2).f1) != t386) = false := bne_eq_false_iff_eq.mpr c26
            clear c26
            have H' := Aside0.mk H
            clear H
            obtain ⟨Ao27, co27, eo27⟩ := Kd.R_slice HO_4.out
            subst eo27
            try go_wp2
            replace HO_4 := Aside0.mk (Kd.R_drew HO_4.out); replace HO_377000 := Aside0.mk (Kd.R_drew HO_377000.out); replace BK376 := Aside0.mk (blk_drew BK376.out); replace BK387 := Aside0.mk (blk_drew BK387.out); replace HB := Aside0.mk (below_drew1 HB.out)
            have p388 : 0 ≤ (x8_2 : Int) := od_
            have q388 : x8_2 < (x4_1.length : Int) := od_
            obtain ⟨ad388, e388, hx388_0, hx388_1⟩ := at_T68 (Kd.R_reads' HO_4.out).2.2 x8_2 p388 q388
            cases e388
            replace p388 := eq_true p388
            replace q388 := eq_true q388
            refine start_ (n := 8) (S := fun w' => cw_ w' gb387 0 (.int .i64 t385) ∧ cw_ w' gb387 1 (.int .i64 t386) ∧ w'.cell? (ad388.add ((x8_2).toNat * 2)) = some (.int .i64 ((rd_T68 x4_1 x8_2).f0)) ∧ w'.cell? ⟨(ad388.add ((x8_2).toNat * 2)).block, (ad388.add ((x8_2).toNat * 2)).off + 1, none⟩ = some (.int .i64 ((rd_T68 x4_1 x8_2).f1))) (ds := []) (bs 8 0) (by kernel_rfl) rfl rfl ⟨bt_ BK387 0, bt_ BK387 1, hx388_0, hx388_1⟩ (fun hHeld => ?_); refine with_tabW laws_FnHeapBook.tab15 laws_FnHeapBook.bits15 (fun HT_ HW_ => ?_)
            generalize wr.drew = w28 at HO_4 HO_377000 BK376 BK387 HB hx388_0 hx388_1 hHeld ⊢
            iterate 4 (refine psn_ HT_ ?_)
            refine ps_ 5 53 (bm 8 47) HT_ ?_
            refine tk_ 4 52 (bs 8 6) HT_ HW_ hHeld ?_
            refine tkn_ HT_ HW_ hHeld ?_
            refine psn_ HT_ ?_
            refine done_ (done_of HT_.out (by kernel_rfl)) ?_
            try go_wp2
            go_roundg k2
            case measure => have := HK1.out; have := HK2.out; omega
            case rel => exact ⟨(x8_2), (wrap64 (x8_2 + 1)), (by first | rfl | (simp; done) | (simp [*]; done)), (by first | rfl | (simp; done) | (simp [*]; done)), H', ⟨by have := HK1.out; have := HK2.out; omega⟩, ⟨kr_ HO_4⟩, ⟨kr_ HO_377000⟩, ⟨bk_ BK376⟩, ⟨bk_ BK387⟩, ⟨bf_ HB⟩⟩
           ·rw [if_neg c26] at H
            have c26b0 : (((rd_T68 x4_1 x8_2).f1) == t386) = false := beq_eq_false_iff_ne.mpr c26
            have c26b1 : (((rd_T68 x4_1 x8_2).f1) != t386) = true := bne_iff_ne.mpr c26
            have H' := Aside0.mk H
            clear H
            obtain ⟨Ao29, co29, eo29⟩ := Kd.R_slice HO_4.out
            subst eo29
            try go_wp2
            replace HO_4 := Aside0.mk (Kd.R_drew HO_4.out); replace HO_377000 := Aside0.mk (Kd.R_drew HO_377000.out); replace BK376 := Aside0.mk (blk_drew BK376.out); replace BK387 := Aside0.mk (blk_drew BK387.out); replace HB := Aside0.mk (below_drew1 HB.out)
            have p388 : 0 ≤ (x8_2 : Int) := od_
            have q388 : x8_2 < (x4_1.length : Int) := od_
            obtain ⟨ad388, e388, hx388_0, hx388_1⟩ := at_T68 (Kd.R_reads' HO_4.out).2.2 x8_2 p388 q388
            cases e388
            replace p388 := eq_true p388
            replace q388 := eq_true q388
            refine start_ (n := 8) (S := fun w' => cw_ w' gb387 0 (.int .i64 t385) ∧ cw_ w' gb387 1 (.int .i64 t386) ∧ w'.cell? (ad388.add ((x8_2).toNat * 2)) = some (.int .i64 ((rd_T68 x4_1 x8_2).f0)) ∧ w'.cell? ⟨(ad388.add ((x8_2).toNat * 2)).block, (ad388.add ((x8_2).toNat * 2)).off + 1, none⟩ = some (.int .i64 ((rd_T68 x4_1 x8_2).f1))) (ds := []) (bs 8 0) (by kernel_rfl) rfl rfl ⟨bt_ BK387 0, bt_ BK387 1, hx388_0, hx388_1⟩ (fun hHeld => ?_); refine with_tabW laws_FnHeapBook.tab15 laws_FnHeapBook.bits15 (fun HT_ HW_ => ?_)
            generalize wr.drew = w30 at HO_4 HO_377000 BK376 BK387 HB hx388_0 hx388_1 hHeld ⊢
            iterate 4 (refine psn_ HT_ ?_)
            refine ps_ 5 53 (bm 8 47) HT_ ?_
            refine tk_ 4 52 (bs 8 6) HT_ HW_ hHeld ?_
            refine tkn_ HT_ HW_ hHeld ?_
            refine psn_ HT_ ?_
            refine done_ (done_of HT_.out (by kernel_rfl)) ?_
            try go_wp2
            go_roundg k2
            case measure => have := HK1.out; have := HK2.out; omega
            case rel => exact ⟨(x7_2), (wrap64 (x8_2 + 1)), (by first | rfl | (simp; done) | (simp [*]; done)), (by first | rfl | (simp; done) | (simp [*]; done)), H', ⟨by have := HK1.out; have := HK2.out; omega⟩, ⟨kr_ HO_4⟩, ⟨kr_ HO_377000⟩, ⟨bk_ BK376⟩, ⟨bk_ BK387⟩, ⟨bf_ HB⟩⟩
          ·rw [if_neg c25] at H
           exact absurd H (by simp)
         ·rw [if_neg c24] at H
          have c24b0 : decide (x8_2 < (x4_1.length : Int)) = false := decide_eq_false c24
          clear c24
          replace H := Option.bind_eq_some_iff.mp H
          obtain ⟨t390, A310, H⟩ := H
          have A31 := Aside0.mk A310
          clear A310
          have HC32 := Aside0.mk H
          clear H
          obtain ⟨Ao33, co33, eo33⟩ := Kd.R_slice HO_4.out
          subst eo33
          have hnb34 := NB376_387.out; have hnc34 := NB387_376.out; obtain ⟨hcz35_0, hfz35_0⟩ := bz1_ BK376
          go_upto_block 4 with (first | ((with_reducible refine gd_ 9 rfl ?_); (try (refine gate_guard (by rfl) ?_; dsimp only)); refine bv_ 9 #[.slice none 0 0] 29 ?_; intro gb389 hg w36 hbox hb; replace HO_4 := Aside0.mk (Kd.R_below (kr_ HO_4) hb); replace HO_377000 := Aside0.mk (Kd.R_below (kr_ HO_377000) hb); have BK389 := Aside0.mk (hbox); have GW389 := gw_ HB hg; have GE389 := gw_ HB hg; replace HB := Aside0.mk (below_step (bf_ HB) hb); have NB376_389 := nl_ BK376 hg; have NB389_376 := ng_ BK376 hg; replace BK376 := bb_ BK376 hb; have NB387_389 := nl_ BK387 hg; have NB389_387 := ng_ BK387 hg; replace BK387 := bb_ BK387 hb; clear hb hbox hg; obtain ⟨Ao37, co37, eo37⟩ := Kd.R_slice HO_377000.out; subst eo37; have hnb38 := NB389_376.out; have hnc38 := NB376_389.out; have hnb39 := NB389_387.out; have hnc39 := NB387_389.out; obtain ⟨hcz40_0, hfz40_0⟩ := bz1_ BK389) | ((with_reducible refine gc_ 42 rfl ?_); refine gl_ 61 Try.func42 #[.slice A0 l0.length c0, .int .i64 (wrap64 (x5_1 + 9)), .int .i64 4] ?_; (with_reducible refine (laws_pick.calls k2 _ _ l0 (wrap64 (x5_1 + 9)) 4 t390 _ ?side1 ?side2 A31.out).mono ?_); (case side1 => exact Kd.C_below HR0.out (bf_ HB)); (case side2 => exact HC0.out); rintro e w' ⟨rfl, ⟨nd, rfl⟩⟩; refine ⟨_, rfl, ?_⟩))
          (try simp only [Act.put, ls0_, ls1_, ls2_])
          go_cut [4, 10] (fun v4 v10 wc => ∃ (kq : Nat) (x4_31 : List (S68)) (x10_31 : Int) (x377000_31 : List (S68)) (x388000_31 : Int) (x388001_31 : Int) (x390000_31 : List (S68)) (u377000 : Value) (u390000 : Value), v10 = .int .i64 x10_31 ∧ Aside0 (laws_FnHeapBook.j4 kq l0 x4_31 x5_1 x10_31 x377000_31 x390000_31 = some r) ∧ Aside0 (kq ≤ k2) ∧ Aside0 (Kd.R k68 68 wc w.heap.size (fun k_ => some k_ ≠ (u377000 : Value).ownBlock ∧ some k_ ≠ (u390000 : Value).ownBlock ∧ k_ ≠ gb387) v4 x4_31) ∧ Aside0 (Kd.R k68 68 wc w.heap.size (fun k_ => some k_ ≠ (v4 : Value).ownBlock ∧ k_ ≠ gb387) u377000 x377000_31) ∧ Aside0 (Kd.R k68 68 wc w.heap.size (fun k_ => some k_ ≠ (v4 : Value).ownBlock ∧ k_ ≠ gb387) u390000 x390000_31) ∧ Aside0 (wc.heap[gb376]? = some (.cells #[u377000] 29 (0, 0))) ∧ Aside0 (wc.heap[gb387]? = some (.cells #[.int .i64 x388000_31, .int .i64 x388001_31] 68 (0, 0))) ∧ Aside0 (wc.heap[gb389]? = some (.cells #[u390000] 29 (0, 0))) ∧ Aside0 (Below w.heap.size w wc))
          case first =>
           have H := HC32.out
           clear HC32
           have HC41 := Aside0.mk H
           clear H
           go_upto_if 62 with (fail)
           go_cut [62] (fun v62 wc => ∃ (kq : Nat) (x62_40 : Bool), v62 = .bool x62_40 ∧ Aside0 (laws_FnHeapBook.j2 kq l0 x4_1 x5_1 x7_2 0 t390 x62_40 x377000_1 t385 t386 x377000_1 = some r) ∧ Aside0 (kq ≤ k2) ∧ Aside0 (Kd.R k68 68 wc w.heap.size (fun k_ => some k_ ≠ ((.slice Ao37 x377000_1.length co37) : Value).ownBlock ∧ some k_ ≠ ((.slice Ao37 x377000_1.length co37) : Value).ownBlock ∧ k_ ≠ gb387) (.slice Ao33 x4_1.length co33) x4_1) ∧ Aside0 (Kd.R k68 68 wc w.heap.size (fun k_ => some k_ ≠ ((.slice Ao33 x4_1.length co33) : Value).ownBlock ∧ k_ ≠ gb387) (.slice Ao37 x377000_1.length co37) x377000_1) ∧ Aside0 (Kd.R k68 68 wc w.heap.size (fun k_ => some k_ ≠ ((.slice Ao33 x4_1.length co33) : Value).ownBlock ∧ k_ ≠ gb387) (.slice Ao37 x377000_1.length co37) x377000_1) ∧ Aside0 (wc.heap[gb376]? = some (.cells #[(.slice Ao37 x377000_1.length co37)] 29 (0, 0))) ∧ Aside0 (wc.heap[gb387]? = some (.cells #[.int .i64 t385, .int .i64 t386] 68 (0, 0))) ∧ Aside0 (wc.heap[gb389]? = some (.cells #[(.slice Ao37 x377000_1.length co37)] 29 (0, 0))) ∧ Aside0 (Below w.heap.size w wc))
           case first =>
            have H := HC41.out
            clear HC41
            by_cases c42 : t390 = 0
            ·rw [if_pos c42] at H
             have c42b0 : (t390 == 0) = true := beq_iff_eq.mpr c42
             have c42b1 : (t390 != 0) = false := bne_eq_false_iff_eq.mpr c42
             clear c42
             (first | rw [c42b0] | (simp only [i64_w, i32_w]; rw [c42b0]) | skip)
             have H' := Aside0.mk H
             clear H
             go_wp2
             go_meet
             case rel => exact ⟨_, ((t390 == 0)), (by first | rfl | (simp; done) | (simp [*]; done)), H', ⟨by have := HK1.out; have := HK2.out; first | omega | exact Nat.le_refl _⟩, ⟨by (with_reducible repeat (first | apply Kd.R_alloc | apply Kd.R_drewN | apply Kd.R_drew)); exact Kd.R_mono (Kd.R_far (p := ⟨gb389, 0, none⟩) (Kd.R_types HO_4.out BK389.out (by decide)) (fun _ hk => by first | exact hk.2 | grind) (.slice Ao37 x377000_1.length co37)) (fun _ hk => by first | exact ⟨hk.1.1, ⟨hk.1.1, hk.1.2⟩⟩ | grind)⟩, ⟨by (with_reducible repeat (first | apply Kd.R_alloc | apply Kd.R_drewN | apply Kd.R_drew)); exact Kd.R_mono (Kd.R_far (p := ⟨gb389, 0, none⟩) (Kd.R_types HO_377000.out BK389.out (by decide)) (fun _ hk => by first | exact hk.2 | grind) (.slice Ao37 x377000_1.length co37)) (fun _ hk => by first | exact ⟨hk.1.1, hk.1.2⟩ | grind)⟩, ⟨by (with_reducible repeat (first | apply Kd.R_alloc | apply Kd.R_drewN | apply Kd.R_drew)); exact Kd.R_mono (Kd.R_far (p := ⟨gb389, 0, none⟩) (Kd.R_types HO_377000.out BK389.out (by decide)) (fun _ hk => by first | exact hk.2 | grind) (.slice Ao37 x377000_1.length co37)) (fun _ hk => by first | exact ⟨hk.1.1, hk.1.2⟩ | grind)⟩, ⟨by (with_reducible repeat (first | refine blk_drewN ?_ _ | refine blk_drew ?_ | refine blk_alloc ?_ _)); refine blk_far ?_ NB376_389.out _; exact bk_ BK376⟩, ⟨by (with_reducible repeat (first | refine blk_drewN ?_ _ | refine blk_drew ?_ | refine blk_alloc ?_ _)); refine blk_far ?_ NB387_389.out _; exact bk_ BK387⟩, ⟨by (with_reducible repeat (first | refine blk_drewN ?_ _ | refine blk_drew ?_ | refine blk_alloc ?_ _)); refine blk_put (cs := #[.slice none 0 0]) ?_ 0 _ rfl; exact bk_ BK389⟩, ⟨bf_ HB⟩⟩
            ·rw [if_neg c42] at H
             have c42b0 : (t390 == 0) = false := beq_eq_false_iff_ne.mpr c42
             have c42b1 : (t390 != 0) = true := bne_iff_ne.mpr c42
             (first | rw [c42b0] | (simp only [i64_w, i32_w]; rw [c42b0]) | skip)
             have H' := Aside0.mk H
             clear H
             go_wp2
             go_meet
             case rel => exact ⟨_, ((t390 == 1)), (by first | rfl | (simp; done) | (simp [*]; done)), H', ⟨by have := HK1.out; have := HK2.out; first | omega | exact Nat.le_refl _⟩, ⟨by (with_reducible repeat (first | apply Kd.R_alloc | apply Kd.R_drewN | apply Kd.R_drew)); exact Kd.R_mono (Kd.R_far (p := ⟨gb389, 0, none⟩) (Kd.R_types HO_4.out BK389.out (by decide)) (fun _ hk => by first | exact hk.2 | grind) (.slice Ao37 x377000_1.length co37)) (fun _ hk => by first | exact ⟨hk.1.1, ⟨hk.1.1, hk.1.2⟩⟩ | grind)⟩, ⟨by (with_reducible repeat (first | apply Kd.R_alloc | apply Kd.R_drewN | apply Kd.R_drew)); exact Kd.R_mono (Kd.R_far (p := ⟨gb389, 0, none⟩) (Kd.R_types HO_377000.out BK389.out (by decide)) (fun _ hk => by first | exact hk.2 | grind) (.slice Ao37 x377000_1.length co37)) (fun _ hk => by first | exact ⟨hk.1.1, hk.1.2⟩ | grind)⟩, ⟨by (with_reducible repeat (first | apply Kd.R_alloc | apply Kd.R_drewN | apply Kd.R_drew)); exact Kd.R_mono (Kd.R_far (p := ⟨gb389, 0, none⟩) (Kd.R_types HO_377000.out BK389.out (by decide)) (fun _ hk => by first | exact hk.2 | grind) (.slice Ao37 x377000_1.length co37)) (fun _ hk => by first | exact ⟨hk.1.1, hk.1.2⟩ | grind)⟩, ⟨by (with_reducible repeat (first | refine blk_drewN ?_ _ | refine blk_drew ?_ | refine blk_alloc ?_ _)); refine blk_far ?_ NB376_389.out _; exact bk_ BK376⟩, ⟨by (with_reducible repeat (first | refine blk_drewN ?_ _ | refine blk_drew ?_ | refine blk_alloc ?_ _)); refine blk_far ?_ NB387_389.out _; exact bk_ BK387⟩, ⟨by (with_reducible repeat (first | refine blk_drewN ?_ _ | refine blk_drew ?_ | refine blk_alloc ?_ _)); refine blk_put (cs := #[.slice none 0 0]) ?_ 0 _ rfl; exact bk_ BK389⟩, ⟨bf_ HB⟩⟩
           case rest =>
            clear HC41; (try clear c1); (try clear c2); (try clear p2 p2); (try clear c3); (try clear p3); (try clear q3); (try clear hx3); (try clear c4); (try clear c6); (try clear p6 p6); (try clear c7); (try clear c18); (try clear c18b0); (try clear c22); (try clear c24); (try clear c24b0); (try clear c25); (try clear c25b0); (try clear c26); (try clear c26b0); (try clear c26b1); (try clear c34); (try clear c38); (try clear p38); (try clear q38); (try clear hx38); (try clear c39); (try clear c40); (try clear c42); (try clear c42b0); (try clear c42b1); (try clear hcz11_0 hfz11_0); (try clear hcz15_0 hfz15_0); (try clear hcz23_0 hcz23_1 hfz23_0 hfz23_1); (try clear hcz35_0 hfz35_0); (try clear hcz40_0 hfz40_0); (try clear hx388_0); (try clear hx388_1); (try clear p388); (try clear q388)
            obtain ⟨kq, x62_40, rfl, HA, HJ40, HO_4, HO_377000, HO_390000, BK376, BK387, BK389, HB⟩ := hcut
            cases kq with
            | zero => exact absurd HA.out (by simp [laws_FnHeapBook.j2])
            | succ kj40 =>
             have H := HA.out
             clear HA
             simp only [laws_FnHeapBook.j2] at H
             by_cases c43 : x62_40 = true
             ·as_aux_lemma =>
              subst c43
              rw [if_pos rfl] at H
              replace H := Option.bind_eq_some_iff.mp H
              obtain ⟨⟨t391, t394⟩, A440, H⟩ := H
              have A44 := Aside0.mk A440
              clear A440
              have HC45 := Aside0.mk H
              clear H; have hnb46 := NB376_387.out; have hnc46 := NB387_376.out; have hnb47 := NB376_389.out; have hnc47 := NB389_376.out; obtain ⟨hcz48_0, hfz48_0⟩ := bz1_ BK376; have hnb49 := NB387_389.out; have hnc49 := NB389_387.out; obtain ⟨hcz50_0, hcz50_1, hfz50_0, hfz50_1⟩ := bz2_ BK387
              go_upto_region 23 with (first | ((with_reducible refine gc_ 43 rfl ?_); refine gl_ 68 Try.func43 #[.agg #[.slice Ao37 x377000_1.length co37], .agg #[.int .i64 t385, .int .i64 t386]] ?_; (with_reducible refine (impl_HeapPush.calls kj40 _ _ x377000_1 t385 t386 t391 t394 _ ?side1 ?side2 A44.out).mono ?_); (case side1 => exact cr_ HO_377000); (case side2 => exact (Kd.R_reads' HO_377000.out).2.1); rintro e w51 ⟨v392, rfl, ho0, hb⟩; refine ⟨_, rfl, ?_⟩; have HO393 := Aside0.mk (Kd.R_lower (Kd.R_newB (Kd.R_new' (Kd.R_new' (Kd.R_new' ho0 (Kd.R_lt (kr_ HO_4))) (Kd.R_lt (kr_ HO_377000))) (Kd.R_lt (kr_ HO_390000))) (g := gb387) (o := .cells #[.int .i64 t385, .int .i64 t386] 68 (0, 0)) (bk_ BK387)) (below_size (bf_ HB))); replace HO_4 := Aside0.mk (Kd.R_elder' (kr_ HO_4) (Kd.R_base ho0) hb); replace HO_377000 := Aside0.mk (Kd.R_elder' (kr_ HO_377000) (Kd.R_base ho0) hb); replace HO_390000 := Aside0.mk (Kd.R_elder' (kr_ HO_390000) (Kd.R_base ho0) hb); replace BK376 := bb_ BK376 hb; replace BK387 := bb_ BK387 hb; replace BK389 := bb_ BK389 hb; replace HB := Aside0.mk (below_step (bf_ HB) hb); (try clear hb); (try clear hb2); (try clear hk); (try clear hi); (try clear ho0); obtain ⟨Ao52, co52, eo52⟩ := Kd.R_slice HO393.out; subst eo52; obtain ⟨hcz53_0, hfz53_0⟩ := bz1_ BK389))
              (try simp only [Act.put, ls0_, ls1_, ls2_])
              go_cut [84] (fun v84 wc => ∃ (kq : Nat) (x84_44 : Bool), v84 = .bool x84_44 ∧ Aside0 (laws_FnHeapBook.j3 kq l0 x4_1 x5_1 t394 x84_44 x377000_1 t385 t386 t391 = some r) ∧ Aside0 (kq ≤ kj40) ∧ Aside0 (Kd.R k68 68 wc w.heap.size (fun k_ => some k_ ≠ ((.slice Ao37 x377000_1.length co37) : Value).ownBlock ∧ some k_ ≠ ((.slice Ao52 t391.length co52) : Value).ownBlock ∧ k_ ≠ gb387) (.slice Ao33 x4_1.length co33) x4_1) ∧ Aside0 (Kd.R k68 68 wc w.heap.size (fun k_ => some k_ ≠ ((.slice Ao33 x4_1.length co33) : Value).ownBlock ∧ some k_ ≠ ((.slice Ao52 t391.length co52) : Value).ownBlock ∧ k_ ≠ gb387) (.slice Ao37 x377000_1.length co37) x377000_1) ∧ Aside0 (Kd.R k68 68 wc w.heap.size (fun k_ => some k_ ≠ ((.slice Ao33 x4_1.length co33) : Value).ownBlock ∧ some k_ ≠ ((.slice Ao37 x377000_1.length co37) : Value).ownBlock ∧ k_ ≠ gb387) (.slice Ao52 t391.length co52) t391) ∧ Aside0 (wc.heap[gb376]? = some (.cells #[(.slice Ao37 x377000_1.length co37)] 29 (0, 0))) ∧ Aside0 (wc.heap[gb387]? = some (.cells #[.int .i64 t385, .int .i64 t386] 68 (0, 0))) ∧ Aside0 (wc.heap[gb389]? = some (.cells #[(.slice Ao52 t391.length co52)] 29 (0, 0))) ∧ Aside0 (Below w.heap.size w wc))
              case first =>
               have H := HC45.out
               clear HC45
               by_cases c54 : ((t394 == 2) != (decide (x7_2 ≥ 0))) = true
               ·rw [if_pos c54] at H
                have c54b0 : ((t394 == 2) != (decide (x7_2 ≥ 0))) = true := c54
                (try (have c54b1 : decide ((t394 == 2) = (decide (x7_2 ≥ 0))) = false := by simpa using c54))
                (try (have c54b2 : ((t394 == 2) == (decide (x7_2 ≥ 0))) = false := by simpa using c54))
                (try (have c54b3 : ¬ ((t394 == 2) = (decide (x7_2 ≥ 0))) := by simpa using c54))
                clear c54
                (first | rw [c54b0] | (simp only [i64_w, i32_w]; rw [c54b0]) | skip)
                have H' := Aside0.mk H
                clear H
                go_wp2
                go_meet
                case rel => exact ⟨_, (true), (by first | rfl | (simp; done) | (simp [*]; done)), H', ⟨by have := HK1.out; have := HK2.out; have := HJ40.out; first | omega | exact Nat.le_refl _⟩, ⟨by (with_reducible repeat (first | apply Kd.R_alloc | apply Kd.R_drewN | apply Kd.R_drew)); exact Kd.R_mono (Kd.R_far (p := ⟨gb389, 0, none⟩) (Kd.R_types HO_4.out BK389.out (by decide)) (fun _ hk => by first | exact hk.2 | grind) (.slice Ao52 t391.length co52)) (fun _ hk => by first | exact ⟨hk.1.1.1, ⟨hk.1.2, hk.1.1.2.2⟩⟩ | grind)⟩, ⟨by (with_reducible repeat (first | apply Kd.R_alloc | apply Kd.R_drewN | apply Kd.R_drew)); exact Kd.R_mono (Kd.R_far (p := ⟨gb389, 0, none⟩) (Kd.R_types HO_377000.out BK389.out (by decide)) (fun _ hk => by first | exact hk.2 | grind) (.slice Ao52 t391.length co52)) (fun _ hk => by first | exact ⟨hk.1.1.1, ⟨hk.1.2, hk.1.1.2⟩⟩ | grind)⟩, ⟨by (with_reducible repeat (first | apply Kd.R_alloc | apply Kd.R_drewN | apply Kd.R_drew)); exact Kd.R_mono (Kd.R_far (p := ⟨gb389, 0, none⟩) (Kd.R_types HO393.out BK389.out (by decide)) (fun _ hk => by first | exact hk.2 | grind) (.slice Ao52 t391.length co52)) (fun _ hk => by first | exact ⟨hk.1.1.1.1.2, ⟨hk.1.1.1.2, hk.1.2⟩⟩ | grind)⟩, ⟨by (with_reducible repeat (first | refine blk_drewN ?_ _ | refine blk_drew ?_ | refine blk_alloc ?_ _)); refine blk_far ?_ NB376_389.out _; exact bk_ BK376⟩, ⟨by (with_reducible repeat (first | refine blk_drewN ?_ _ | refine blk_drew ?_ | refine blk_alloc ?_ _)); refine blk_far ?_ NB387_389.out _; exact bk_ BK387⟩, ⟨by (with_reducible repeat (first | refine blk_drewN ?_ _ | refine blk_drew ?_ | refine blk_alloc ?_ _)); refine blk_put (cs := #[.slice Ao37 x377000_1.length co37]) ?_ 0 _ rfl; exact bk_ BK389⟩, ⟨bf_ HB⟩⟩
               ·rw [if_neg c54] at H
                have c54b0 : ((t394 == 2) != (decide (x7_2 ≥ 0))) = false := by simpa using c54
                (try (have c54b1 : decide ((t394 == 2) = (decide (x7_2 ≥ 0))) = true := by simpa using c54))
                (try (have c54b2 : ((t394 == 2) == (decide (x7_2 ≥ 0))) = true := by simpa using c54))
                clear c54
                (first | rw [c54b0] | (simp only [i64_w, i32_w]; rw [c54b0]) | skip)
                by_cases c55 : t394 = 3
                ·rw [if_pos c55] at H
                 have c55b0 : (t394 == 3) = true := beq_iff_eq.mpr c55
                 have c55b1 : (t394 != 3) = false := bne_eq_false_iff_eq.mpr c55
                 clear c55
                 have H' := Aside0.mk H
                 clear H
                 go_wp2
                 go_meet
                 case rel => exact ⟨_, (decide ((x4_1.length : Int) < 64)), (by first | rfl | (simp; done) | (simp [*]; done)), H', ⟨by have := HK1.out; have := HK2.out; have := HJ40.out; first | omega | exact Nat.le_refl _⟩, ⟨by (with_reducible repeat (first | apply Kd.R_alloc | apply Kd.R_drewN | apply Kd.R_drew)); exact Kd.R_mono (Kd.R_far (p := ⟨gb389, 0, none⟩) (Kd.R_types HO_4.out BK389.out (by decide)) (fun _ hk => by first | exact hk.2 | grind) (.slice Ao52 t391.length co52)) (fun _ hk => by first | exact ⟨hk.1.1.1, ⟨hk.1.2, hk.1.1.2.2⟩⟩ | grind)⟩, ⟨by (with_reducible repeat (first | apply Kd.R_alloc | apply Kd.R_drewN | apply Kd.R_drew)); exact Kd.R_mono (Kd.R_far (p := ⟨gb389, 0, none⟩) (Kd.R_types HO_377000.out BK389.out (by decide)) (fun _ hk => by first | exact hk.2 | grind) (.slice Ao52 t391.length co52)) (fun _ hk => by first | exact ⟨hk.1.1.1, ⟨hk.1.2, hk.1.1.2⟩⟩ | grind)⟩, ⟨by (with_reducible repeat (first | apply Kd.R_alloc | apply Kd.R_drewN | apply Kd.R_drew)); exact Kd.R_mono (Kd.R_far (p := ⟨gb389, 0, none⟩) (Kd.R_types HO393.out BK389.out (by decide)) (fun _ hk => by first | exact hk.2 | grind) (.slice Ao52 t391.length co52)) (fun _ hk => by first | exact ⟨hk.1.1.1.1.2, ⟨hk.1.1.1.2, hk.1.2⟩⟩ | grind)⟩, ⟨by (with_reducible repeat (first | refine blk_drewN ?_ _ | refine blk_drew ?_ | refine blk_alloc ?_ _)); refine blk_far ?_ NB376_389.out _; exact bk_ BK376⟩, ⟨by (with_reducible repeat (first | refine blk_drewN ?_ _ | refine blk_drew ?_ | refine blk_alloc ?_ _)); refine blk_far ?_ NB387_389.out _; exact bk_ BK387⟩, ⟨by (with_reducible repeat (first | refine blk_drewN ?_ _ | refine blk_drew ?_ | refine blk_alloc ?_ _)); refine blk_put (cs := #[.slice Ao37 x377000_1.length co37]) ?_ 0 _ rfl; exact bk_ BK389⟩, ⟨bf_ HB⟩⟩
                ·rw [if_neg c55] at H
                 have c55b0 : (t394 == 3) = false := beq_eq_false_iff_ne.mpr c55
                 have c55b1 : (t394 != 3) = true := bne_iff_ne.mpr c55
                 have H' := Aside0.mk H
                 clear H
                 go_wp2
                 go_meet
                 case rel => exact ⟨_, (false), (by first | rfl | (simp; done) | (simp [*]; done)), H', ⟨by have := HK1.out; have := HK2.out; have := HJ40.out; first | omega | exact Nat.le_refl _⟩, ⟨by (with_reducible repeat (first | apply Kd.R_alloc | apply Kd.R_drewN | apply Kd.R_drew)); exact Kd.R_mono (Kd.R_far (p := ⟨gb389, 0, none⟩) (Kd.R_types HO_4.out BK389.out (by decide)) (fun _ hk => by first | exact hk.2 | grind) (.slice Ao52 t391.length co52)) (fun _ hk => by first | exact ⟨hk.1.1.1, ⟨hk.1.2, hk.1.1.2.2⟩⟩ | grind)⟩, ⟨by (with_reducible repeat (first | apply Kd.R_alloc | apply Kd.R_drewN | apply Kd.R_drew)); exact Kd.R_mono (Kd.R_far (p := ⟨gb389, 0, none⟩) (Kd.R_types HO_377000.out BK389.out (by decide)) (fun _ hk => by first | exact hk.2 | grind) (.slice Ao52 t391.length co52)) (fun _ hk => by first | exact ⟨hk.1.1.1, ⟨hk.1.2, hk.1.1.2⟩⟩ | grind)⟩, ⟨by (with_reducible repeat (first | apply Kd.R_alloc | apply Kd.R_drewN | apply Kd.R_drew)); exact Kd.R_mono (Kd.R_far (p := ⟨gb389, 0, none⟩) (Kd.R_types HO393.out BK389.out (by decide)) (fun _ hk => by first | exact hk.2 | grind) (.slice Ao52 t391.length co52)) (fun _ hk => by first | exact ⟨hk.1.1.1.1.2, ⟨hk.1.1.1.2, hk.1.2⟩⟩ | grind)⟩, ⟨by (with_reducible repeat (first | refine blk_drewN ?_ _ | refine blk_drew ?_ | refine blk_alloc ?_ _)); refine blk_far ?_ NB376_389.out _; exact bk_ BK376⟩, ⟨by (with_reducible repeat (first | refine blk_drewN ?_ _ | refine blk_drew ?_ | refine blk_alloc ?_ _)); refine blk_far ?_ NB387_389.out _; exact bk_ BK387⟩, ⟨by (with_reducible repeat (first | refine blk_drewN ?_ _ | refine blk_drew ?_ | refine blk_alloc ?_ _)); refine blk_put (cs := #[.slice Ao37 x377000_1.length co37]) ?_ 0 _ rfl; exact bk_ BK389⟩, ⟨bf_ HB⟩⟩
              case rest =>
               clear HC45; (try clear c1); (try clear c2); (try clear p2 p2); (try clear c3); (try clear p3 p3); (try clear q3 q3); (try clear hx3); (try clear c4); (try clear c5); (try clear c6); (try clear p6 p6); (try clear c7); (try clear c18); (try clear c18b0); (try clear c22); (try clear c24); (try clear c24b0); (try clear c25); (try clear c25b0); (try clear c26); (try clear c26b0); (try clear c26b1); (try clear c34); (try clear c38); (try clear p38 p38); (try clear q38 q38); (try clear hx38); (try clear c39); (try clear c40); (try clear c42); (try clear c42b0); (try clear c42b1); (try clear c43); (try clear c46); (try clear c47); (try clear c49); (try clear c54); (try clear c54b0); (try clear c54b1); (try clear c54b2); (try clear c55); (try clear c55b0); (try clear c55b1); (try clear hcz11_0 hfz11_0); (try clear hcz15_0 hfz15_0); (try clear hcz23_0 hcz23_1 hfz23_0 hfz23_1); (try clear hcz35_0 hfz35_0); (try clear hcz40_0 hfz40_0); (try clear hcz48_0 hfz48_0); (try clear hcz50_0 hcz50_1 hfz50_0 hfz50_1); (try clear hcz53_0 hfz53_0); (try clear hx388_0); (try clear hx388_1); (try clear p388); (try clear q388)
               obtain ⟨kq, x84_44, rfl, HA, HJ44, HO_4, HO_377000, HO_390000, BK376, BK387, BK389, HB⟩ := hcut
               cases kq with
               | zero => exact absurd HA.out (by simp [laws_FnHeapBook.j3])
               | succ kj44 =>
                have H := HA.out
                clear HA
                simp only [laws_FnHeapBook.j3] at H
                by_cases c56 : x84_44 = true
                ·subst c56
                 rw [if_pos rfl] at H
                 obtain rfl := Option.some.inj H
                 go_wp2
                 go_ret
                 exact ⟨by first | rfl | (simp [errW_none, errW_some] <;> rfl) | (simp only [← hji17]; first | rfl | (simp [errW_none, errW_some] <;> rfl)) | (simp [*, errW_none, errW_some] <;> rfl), bf_ HB⟩
                ·replace c56 := Bool.eq_false_iff.mpr c56
                 subst c56
                 rw [if_neg (show ¬ (false = true) by decide)] at H
                 by_cases c57 : t394 = 0
                 ·rw [if_pos c57] at H
                  have c57b0 : (t394 == 0) = true := beq_iff_eq.mpr c57
                  have c57b1 : (t394 != 0) = false := bne_eq_false_iff_eq.mpr c57
                  clear c57
                  by_cases c58 : x4_1.length < 8796093022208
                  ·rw [if_pos c58] at H
                   have LMc58 := Aside0.mk c58
                   clear c58
                   obtain ⟨y395, hy395⟩ : ∃ y_ : List (S68), y_ = (x4_1 ++ [(⟨t385, t386⟩ : S68)]) := ⟨_, rfl⟩
                   replace H : (laws_FnHeapBook.j4 kj44 l0 y395 x5_1 t394 x377000_1 t391) = some r := by first | (rw [hy395]; with_reducible exact H) | (have H2_ := (Option.bind_some _ _).symm.trans H; rw [hy395]; with_reducible exact H2_) | (have H2_ := (Option.bind_some _ _).symm.trans H; with_reducible exact H2_) | with_reducible exact H | (rw [hy395]; exact H) | exact H
                   have Ny395 := Aside0.mk hy395
                   clear hy395
                   have H' := Aside0.mk H
                   clear H; have hnb59 := NB387_376.out; have hnc59 := NB376_387.out; have hnb60 := NB387_389.out; have hnc60 := NB389_387.out; obtain ⟨hcz61_0, hcz61_1, hfz61_0, hfz61_1⟩ := bz2_ BK387
                   go_wp2_with (first | ((with_reducible refine gate_builtin (b := .append) (xs := #[.tmp 87, .tmp 89]) rfl ?_); (try (refine gate_guard (by rfl) ?_; dsimp only)); at_builtin; refine Kd.R_append k68 (w0 := w) w.heap.size rfl (.tmp 87) (.tmp 89) 26 68 (.agg #[(.int .i64 0), (.int .i64 0)]) 16 rfl Try.underlying26 info68 rfl (by decide) (by omega) (.slice Ao33 x4_1.length co33) x4_1 (⟨t385, t386⟩ : S68) [.int .i64 t385, .int .i64 t386] (fun k_ => some k_ ≠ (.slice Ao37 x377000_1.length co37 : Value).ownBlock ∧ some k_ ≠ (.slice Ao52 t391.length co52 : Value).ownBlock ∧ k_ ≠ gb387) (fun _ => False) rfl rfl ?aP (fun _ hk => by first | exact hk.elim | grind) ?aF ?aO ?aB ?aS ?aL ?_; (case aP => exact k68_mkM _ _ _ (⟨t385, t386⟩ : S68)); (case aB => exact (bf_ HB)); (case aF => exact (fun k_ hk => by first | exact ⟨Kd.fresh' (Kd.R_lt (kr_ HO_377000)) k_ hk, Kd.fresh' (Kd.R_lt (kr_ HO_390000)) k_ hk, Kd.freshB (g := gb387) (o := .cells #[.int .i64 t385, .int .i64 t386] 68 (0, 0)) (bk_ BK387) k_ hk⟩ | grind)); (case aO => exact (kr_ HO_4)); (case aS => exact (below_size (bf_ HB))); (case aL => have := LMc58.out; omega); intro v396 w62 ho hb hg hat; rw [← Ny395.out] at ho; replace HO_377000 := Aside0.mk (Kd.R_after (ok := (fun k_ => some k_ ≠ (.slice Ao52 t391.length co52 : Value).ownBlock ∧ k_ ≠ gb387)) (by (with_reducible repeat (first | apply Kd.R_alloc | apply Kd.R_drewN | apply Kd.R_drew)); exact Kd.R_mono HO_377000.out (fun _ hk => by first | exact ⟨⟨hk.2.1, hk.2.2⟩, hk.1⟩ | grind)) hg hat); replace HO_390000 := Aside0.mk (Kd.R_after (ok := (fun k_ => some k_ ≠ (.slice Ao37 x377000_1.length co37 : Value).ownBlock ∧ k_ ≠ gb387)) (by (with_reducible repeat (first | apply Kd.R_alloc | apply Kd.R_drewN | apply Kd.R_drew)); exact Kd.R_mono HO_390000.out (fun _ hk => by first | exact ⟨⟨hk.2.1, hk.2.2⟩, hk.1⟩ | grind)) hg hat); replace BK376 := Aside0.mk (blk_grown (g := gb376) (o := .cells #[.slice Ao37 x377000_1.length co37] 29 (0, 0)) (bk_ BK376) hg (Kd.R_ne HO_4.out BK376.out (by decide))); replace BK387 := Aside0.mk (blk_grown (g := gb387) (o := .cells #[.int .i64 t385, .int .i64 t386] 68 (0, 0)) (bk_ BK387) hg (Kd.R_away HO_4.out (fun _ hk => by first | exact hk.2.2 | grind))); replace BK389 := Aside0.mk (blk_grown (g := gb389) (o := .cells #[.slice Ao52 t391.length co52] 29 (0, 0)) (bk_ BK389) hg (Kd.R_ne HO_4.out BK389.out (by decide))); replace HB := Aside0.mk (hb); have HO397 := Aside0.mk (ho); clear HO_4 ho hb hg hat))
                   go_meet
                   case rel => exact ⟨_, (y395), (t394), (x377000_1), (t385), (t386), (t391), (.slice Ao37 x377000_1.length co37), (.slice Ao52 t391.length co52), (by first | rfl | (simp; done) | (simp [*]; done)), H', ⟨by have := HK1.out; have := HK2.out; have := HJ40.out; have := HJ44.out; first | omega | exact Nat.le_refl _⟩, ⟨kr_ HO397⟩, ⟨by (with_reducible repeat (first | apply Kd.R_alloc | apply Kd.R_drewN | apply Kd.R_drew)); exact Kd.R_mono HO_377000.out (fun _ hk => by first | exact ⟨hk.2, ⟨hk.1.1, hk.1.2⟩⟩ | grind)⟩, ⟨by (with_reducible repeat (first | apply Kd.R_alloc | apply Kd.R_drewN | apply Kd.R_drew)); exact Kd.R_mono HO_390000.out (fun _ hk => by first | exact ⟨hk.2, ⟨hk.1.1, hk.1.2⟩⟩ | grind)⟩, ⟨bk_ BK376⟩, ⟨bk_ BK387⟩, ⟨bk_ BK389⟩, ⟨bf_ HB⟩⟩
                  ·rw [if_neg c58] at H
                   exact absurd H (by simp)
                 ·rw [if_neg c57] at H
                  have c57b0 : (t394 == 0) = false := beq_eq_false_iff_ne.mpr c57
                  have c57b1 : (t394 != 0) = true := bne_iff_ne.mpr c57
                  have H' := Aside0.mk H
                  clear H
                  go_wp2
                  go_meet
                  case rel => exact ⟨_, (x4_1), (t394), (x377000_1), (t385), (t386), (t391), (.slice Ao37 x377000_1.length co37), (.slice Ao52 t391.length co52), (by first | rfl | (simp; done) | (simp [*]; done)), H', ⟨by have := HK1.out; have := HK2.out; have := HJ40.out; have := HJ44.out; first | omega | exact Nat.le_refl _⟩, ⟨kr_ HO_4⟩, ⟨by first | exact kr_ HO_377000 | exact Kd.R_mono HO_377000.out (fun _ hk => ⟨hk.1, hk.2.2⟩) | exact Kd.R_mono HO_377000.out (fun _ hk => by grind)⟩, ⟨by first | exact kr_ HO_390000 | exact Kd.R_mono HO_390000.out (fun _ hk => ⟨hk.1, hk.2.2⟩) | exact Kd.R_mono HO_390000.out (fun _ hk => by grind)⟩, ⟨bk_ BK376⟩, ⟨bk_ BK387⟩, ⟨bk_ BK389⟩, ⟨bf_ HB⟩⟩
             ·replace c43 := Bool.eq_false_iff.mpr c43
              subst c43
              rw [if_neg (show ¬ (false = true) by decide)] at H
              by_cases c63 : t390 = 2
              ·as_aux_lemma =>
               rw [if_pos c63] at H
               have c63b0 : (t390 == 2) = true := beq_iff_eq.mpr c63
               have c63b1 : (t390 != 2) = false := bne_eq_false_iff_eq.mpr c63
               clear c63
               replace H := Option.bind_eq_some_iff.mp H
               obtain ⟨⟨t398, t401⟩, A640, H⟩ := H
               have A64 := Aside0.mk A640
               clear A640
               by_cases c65 : ((t401 == 0) != (decide (x7_2 ≥ 0))) = true
               ·rw [if_pos c65] at H
                have c65b0 : ((t401 == 0) != (decide (x7_2 ≥ 0))) = true := c65
                (try (have c65b1 : decide ((t401 == 0) = (decide (x7_2 ≥ 0))) = false := by simpa using c65))
                (try (have c65b2 : ((t401 == 0) == (decide (x7_2 ≥ 0))) = false := by simpa using c65))
                (try (have c65b3 : ¬ ((t401 == 0) = (decide (x7_2 ≥ 0))) := by simpa using c65))
                clear c65
                obtain rfl := Option.some.inj H
                have hnb66 := NB376_387.out; have hnc66 := NB387_376.out; have hnb67 := NB376_389.out; have hnc67 := NB389_376.out; obtain ⟨hcz68_0, hfz68_0⟩ := bz1_ BK376; have hnb69 := NB387_389.out; have hnc69 := NB389_387.out; obtain ⟨hcz70_0, hcz70_1, hfz70_0, hfz70_1⟩ := bz2_ BK387
                go_wp2_with (first | ((with_reducible refine gc_ 44 rfl ?_); refine gl_ 96 Try.func44 #[.agg #[.slice Ao37 x377000_1.length co37], .agg #[.int .i64 t385, .int .i64 t386]] ?_; (with_reducible refine (impl_HeapMove.calls kj40 _ _ x377000_1 t385 t386 t398 t401 _ ?side1 ?side2 A64.out).mono ?_); (case side1 => exact cr_ HO_377000); (case side2 => exact (Kd.R_reads' HO_377000.out).2.1); rintro e w71 ⟨v399, rfl, ho0, hb⟩; refine ⟨_, rfl, ?_⟩; have HO400 := Aside0.mk (Kd.R_lower (Kd.R_newB (Kd.R_new' (Kd.R_new' (Kd.R_new' ho0 (Kd.R_lt (kr_ HO_4))) (Kd.R_lt (kr_ HO_377000))) (Kd.R_lt (kr_ HO_390000))) (g := gb387) (o := .cells #[.int .i64 t385, .int .i64 t386] 68 (0, 0)) (bk_ BK387)) (below_size (bf_ HB))); replace HO_4 := Aside0.mk (Kd.R_elder' (kr_ HO_4) (Kd.R_base ho0) hb); replace HO_377000 := Aside0.mk (Kd.R_elder' (kr_ HO_377000) (Kd.R_base ho0) hb); replace HO_390000 := Aside0.mk (Kd.R_elder' (kr_ HO_390000) (Kd.R_base ho0) hb); replace BK376 := bb_ BK376 hb; replace BK387 := bb_ BK387 hb; replace BK389 := bb_ BK389 hb; replace HB := Aside0.mk (below_step (bf_ HB) hb); (try clear hb); (try clear hb2); (try clear hk); (try clear hi); (try clear ho0); obtain ⟨Ao72, co72, eo72⟩ := Kd.R_slice HO400.out; subst eo72; obtain ⟨hcz73_0, hfz73_0⟩ := bz1_ BK389))
                go_ret
                exact ⟨by first | rfl | (simp [errW_none, errW_some] <;> rfl) | (simp only [← hji17]; first | rfl | (simp [errW_none, errW_some] <;> rfl)) | (simp [*, errW_none, errW_some] <;> rfl), bf_ HB⟩
               ·rw [if_neg c65] at H
                have c65b0 : ((t401 == 0) != (decide (x7_2 ≥ 0))) = false := by simpa using c65
                (try (have c65b1 : decide ((t401 == 0) = (decide (x7_2 ≥ 0))) = true := by simpa using c65))
                (try (have c65b2 : ((t401 == 0) == (decide (x7_2 ≥ 0))) = true := by simpa using c65))
                clear c65
                by_cases c74 : x7_2 ≥ 0
                ·rw [if_pos c74] at H
                 have c74b0 : decide (0 ≤ x7_2) = true := decide_eq_true c74
                 have c65x : (t401 == 0) = true := by have h_ := c65b0; rw [show decide (x7_2 ≥ 0) = true from c74b0] at h_; simpa using h_
                 have c65y : (t401 != 0) = false := by first | exact bne_eq_false_iff_eq.mpr (beq_iff_eq.mp c65x) | exact bne_iff_ne.mpr (beq_eq_false_iff_ne.mp c65x)
                 clear c74
                 by_cases c75 : 0 ≤ x7_2
                 ·rw [if_pos c75] at H
                  have c75b0 : decide (0 ≤ x7_2) = true := decide_eq_true c75
                  clear c75
                  by_cases c76 : x7_2 < (x4_1.length : Int)
                  ·rw [if_pos c76] at H
                   have c76b0 : decide (x7_2 < (x4_1.length : Int)) = true := decide_eq_true c76
                   clear c76
                   obtain ⟨y402, hy402⟩ : ∃ y_ : List (S68), y_ = (x4_1.set (x7_2 : Int).toNat (⟨t385, t386⟩ : S68)) := ⟨_, rfl⟩
                   replace H : (laws_FnHeapBook.j4 kj40 l0 y402 x5_1 t401 x377000_1 t398) = some r := by first | (rw [hy402]; with_reducible exact H) | (have H2_ := (Option.bind_some _ _).symm.trans H; rw [hy402]; with_reducible exact H2_) | (have H2_ := (Option.bind_some _ _).symm.trans H; with_reducible exact H2_) | with_reducible exact H | (rw [hy402]; exact H) | exact H
                   have Ny402 := Aside0.mk hy402
                   clear hy402
                   have H' := Aside0.mk H
                   clear H; have hnb78 := NB376_387.out; have hnc78 := NB387_376.out; have hnb79 := NB376_389.out; have hnc79 := NB389_376.out; obtain ⟨hcz80_0, hfz80_0⟩ := bz1_ BK376; have hnb81 := NB387_389.out; have hnc81 := NB389_387.out; obtain ⟨hcz82_0, hcz82_1, hfz82_0, hfz82_1⟩ := bz2_ BK387
                   go_wp2_with (first | ((with_reducible refine gc_ 44 rfl ?_); refine gl_ 96 Try.func44 #[.agg #[.slice Ao37 x377000_1.length co37], .agg #[.int .i64 t385, .int .i64 t386]] ?_; (with_reducible refine (impl_HeapMove.calls kj40 _ _ x377000_1 t385 t386 t398 t401 _ ?side1 ?side2 A64.out).mono ?_); (case side1 => exact cr_ HO_377000); (case side2 => exact (Kd.R_reads' HO_377000.out).2.1); rintro e w83 ⟨v399, rfl, ho0, hb⟩; refine ⟨_, rfl, ?_⟩; have HO400 := Aside0.mk (Kd.R_lower (Kd.R_newB (Kd.R_new' (Kd.R_new' (Kd.R_new' ho0 (Kd.R_lt (kr_ HO_4))) (Kd.R_lt (kr_ HO_377000))) (Kd.R_lt (kr_ HO_390000))) (g := gb387) (o := .cells #[.int .i64 t385, .int .i64 t386] 68 (0, 0)) (bk_ BK387)) (below_size (bf_ HB))); replace HO_4 := Aside0.mk (Kd.R_elder' (kr_ HO_4) (Kd.R_base ho0) hb); replace HO_377000 := Aside0.mk (Kd.R_elder' (kr_ HO_377000) (Kd.R_base ho0) hb); replace HO_390000 := Aside0.mk (Kd.R_elder' (kr_ HO_390000) (Kd.R_base ho0) hb); replace BK376 := bb_ BK376 hb; replace BK387 := bb_ BK387 hb; replace BK389 := bb_ BK389 hb; replace HB := Aside0.mk (below_step (bf_ HB) hb); (try clear hb); (try clear hb2); (try clear hk); (try clear hi); (try clear ho0); obtain ⟨Ao84, co84, eo84⟩ := Kd.R_slice HO400.out; subst eo84; obtain ⟨hcz85_0, hfz85_0⟩ := bz1_ BK389) | ((with_reducible refine gate_store (t := 29) (p := 9) rfl ?_); refine store_event (t := 29) (p := 9) (v := ?vo_w86) (w1 := (w83.setCell ⟨gb389, 0, none⟩ (.slice Ao84 t398.length co84))) ?hg ?ho ?hn ?hr ?_; (case ho => rfl); (case hg => rfl); (case hn => rfl); (case hr => first | (go_simp; done) | (go_simp; rfl)); intro w86 hw; have n0_ : Aside0 (Kd.R k68 68 w86 w.heap.size (fun k_ => some k_ ≠ (.slice Ao37 x377000_1.length co37 : Value).ownBlock ∧ some k_ ≠ (.slice Ao37 x377000_1.length co37 : Value).ownBlock ∧ some k_ ≠ (.slice Ao84 t398.length co84 : Value).ownBlock ∧ k_ ≠ gb387) (.slice Ao33 x4_1.length co33) x4_1) := ⟨(by rw [hw]; exact (by (with_reducible repeat (first | apply Kd.R_alloc | apply Kd.R_drewN | apply Kd.R_drew)); exact Kd.R_mono (Kd.R_far (p := ⟨gb389, 0, none⟩) (Kd.R_types HO_4.out BK389.out (by decide)) (fun _ hk => by first | exact hk.2 | grind) (.slice Ao84 t398.length co84)) (fun _ hk => by first | exact ⟨hk.1.1.1, ⟨hk.1.1.2.1, ⟨hk.1.2, hk.1.1.2.2⟩⟩⟩ | grind)))⟩; have n1_ : Aside0 (Kd.R k68 68 w86 w.heap.size (fun k_ => some k_ ≠ (.slice Ao33 x4_1.length co33 : Value).ownBlock ∧ some k_ ≠ (.slice Ao84 t398.length co84 : Value).ownBlock ∧ k_ ≠ gb387) (.slice Ao37 x377000_1.length co37) x377000_1) := ⟨(by rw [hw]; exact (by (with_reducible repeat (first | apply Kd.R_alloc | apply Kd.R_drewN | apply Kd.R_drew)); exact Kd.R_mono (Kd.R_far (p := ⟨gb389, 0, none⟩) (Kd.R_types HO_377000.out BK389.out (by decide)) (fun _ hk => by first | exact hk.2 | grind) (.slice Ao84 t398.length co84)) (fun _ hk => by first | exact ⟨hk.1.1.1, ⟨hk.1.2, hk.1.1.2⟩⟩ | grind)))⟩; have n2_ : Aside0 (Kd.R k68 68 w86 w.heap.size (fun k_ => some k_ ≠ (.slice Ao33 x4_1.length co33 : Value).ownBlock ∧ some k_ ≠ (.slice Ao84 t398.length co84 : Value).ownBlock ∧ k_ ≠ gb387) (.slice Ao37 x377000_1.length co37) x377000_1) := ⟨(by rw [hw]; exact (by (with_reducible repeat (first | apply Kd.R_alloc | apply Kd.R_drewN | apply Kd.R_drew)); exact Kd.R_mono (Kd.R_far (p := ⟨gb389, 0, none⟩) (Kd.R_types HO_390000.out BK389.out (by decide)) (fun _ hk => by first | exact hk.2 | grind) (.slice Ao84 t398.length co84)) (fun _ hk => by first | exact ⟨hk.1.1.1, ⟨hk.1.2, hk.1.1.2⟩⟩ | grind)))⟩; have n3_ : Aside0 (Kd.R k68 68 w86 w.heap.size (fun k_ => some k_ ≠ (.slice Ao33 x4_1.length co33 : Value).ownBlock ∧ some k_ ≠ (.slice Ao37 x377000_1.length co37 : Value).ownBlock ∧ some k_ ≠ (.slice Ao37 x377000_1.length co37 : Value).ownBlock ∧ k_ ≠ gb387) (.slice Ao84 t398.length co84) t398) := ⟨(by rw [hw]; exact (by (with_reducible repeat (first | apply Kd.R_alloc | apply Kd.R_drewN | apply Kd.R_drew)); exact Kd.R_mono (Kd.R_far (p := ⟨gb389, 0, none⟩) (Kd.R_types HO400.out BK389.out (by decide)) (fun _ hk => by first | exact hk.2 | grind) (.slice Ao84 t398.length co84)) (fun _ hk => by first | exact ⟨hk.1.1.1.1.2, ⟨hk.1.1.1.2, ⟨hk.1.1.2, hk.1.2⟩⟩⟩ | grind)))⟩; have n4_ : Aside0 (w86.heap[gb376]? = some (.cells #[.slice Ao37 x377000_1.length co37] 29 (0, 0))) := ⟨(by rw [hw]; exact (bl_ BK376))⟩; have n5_ : Aside0 (w86.heap[gb387]? = some (.cells #[.int .i64 t385, .int .i64 t386] 68 (0, 0))) := ⟨(by rw [hw]; exact (bl_ BK387))⟩; have n6_ : Aside0 (w86.heap[gb389]? = some (.cells #[.slice Ao84 t398.length co84] 29 (0, 0))) := ⟨(by rw [hw]; exact (by (with_reducible repeat (first | refine blk_drewN ?_ _ | refine blk_drew ?_ | refine blk_alloc ?_ _)); refine blk_put (cs := #[.slice Ao37 x377000_1.length co37]) ?_ 0 _ rfl; exact bk_ BK389))⟩; have n7_ : Aside0 (Below w.heap.size w w86) := ⟨(by rw [hw]; exact (bf_ HB))⟩; clear hw HO_4 HO_377000 HO_390000 HO400 BK376 BK387 BK389 HB; have HO_4 := n0_; have HO_377000 := n1_; have HO_390000 := n2_; have HO400 := n3_; have BK376 := n4_; have BK387 := n5_; have BK389 := n6_; have HB := n7_; clear n0_ n1_ n2_ n3_ n4_ n5_ n6_ n7_; obtain ⟨hcz87_0, hcz87_1, hfz87_0, hfz87_1⟩ := bz2_ BK387; have p77 : 0 ≤ (x7_2 : Int) := od_; have q77 : (x7_2 : Int) < ((x4_1.length : Int) : Int) := od_; obtain ⟨go77, co77, eo77, gb77, gl77, cl77, HG77⟩ := Kd.R_form HO_4.out (by omega); (first | cases eo77 | (injection eo77 with ea_ en_ ec_; (first | subst ea_ | (injection ea_ with ea_; subst ea_)); subst ec_; clear en_)); have GB77 := Aside0.mk gb77; have GG77 := Aside0.mk HG77; clear gb77 gl77 HG77; obtain ⟨ce77, hcl77, hM77, hcc77, hfr77⟩ := Kd.R_elem HO_4.out z68 (x7_2 : Int) p77 q77; obtain rfl := k68_openM hM77; have hx77_0 : w86.cell? ⟨go77, (x7_2 : Int).toNat * 2, none⟩ = some (.int .i64 ((rd_T68 x4_1 x7_2).f0)) := hcc77 0 _ rfl; have hx77_1 : w86.cell? ⟨go77, (x7_2 : Int).toNat * 2 + 1, none⟩ = some (.int .i64 ((rd_T68 x4_1 x7_2).f1)) := hcc77 1 _ rfl; have hf77_0 : w86.frozen? ⟨go77, (x7_2 : Int).toNat * 2, none⟩ = false := hfr77 0; have hf77_1 : w86.frozen? ⟨go77, (x7_2 : Int).toNat * 2 + 1, none⟩ = false := hfr77 1; clear hcl77 hcc77 hfr77 hM77; replace p77 := eq_true p77; replace q77 := eq_true q77; have HX88 := Aside0.mk (show Kd.R k68 68 w86 w.heap.size (fun k_ => some k_ ≠ (.slice Ao37 x377000_1.length co37 : Value).ownBlock ∧ some k_ ≠ (.slice Ao37 x377000_1.length co37 : Value).ownBlock ∧ some k_ ≠ (.slice Ao84 t398.length co84 : Value).ownBlock ∧ k_ ≠ gb387) (.slice (some ⟨go77, 0, none⟩) x4_1.length co33) x4_1 from (kr_ HO_4)); obtain ⟨ce88, hcl88, hM88, hcc88, hfr88⟩ := Kd.R_elem HX88.out z68 (x7_2 : Int) (od_) (by have h_ : (x7_2 : Int) < ((x4_1.length : Int) : Int) := od_; first | exact h_ | (have e_ := (Kd.R_reads' HO_4.out).1; omega) | simpa using h_); obtain rfl := k68_openM hM88; have HP88 := Kd.R_seg HX88.out (x7_2 : Int) (od_) (by have h_ : (x7_2 : Int) < ((x4_1.length : Int) : Int) := od_; first | exact h_ | (have e_ := (Kd.R_reads' HO_4.out).1; omega) | simpa using h_) (seg := [.int .i64 t385, .int .i64 t386]) (j := 0) hcl88 hcc88 (show 2 ≤ 2 from by decide) (x' := (⟨t385, t386⟩ : S68)) (k68_mkM _ _ _ (⟨t385, t386⟩ : S68) ) (fun _ hk => by first | exact hk | grind); have hx88_0 := hcc88 0 _ rfl; (try simp only [show (k68).sz = 2 from rfl, Nat.mul_one, Nat.add_zero] at hx88_0); have hf88_0 := hfr88 0; (try simp only [show (k68).sz = 2 from rfl, Nat.mul_one, Nat.add_zero] at hf88_0); have hx88_1 := hcc88 1 _ rfl; (try simp only [show (k68).sz = 2 from rfl, Nat.mul_one, Nat.add_zero] at hx88_1); have hf88_1 := hfr88 1; (try simp only [show (k68).sz = 2 from rfl, Nat.mul_one, Nat.add_zero] at hf88_1); clear hcl88 hcc88 hfr88 hM88) | ((with_reducible refine gate_store (t := 68) (p := 109) rfl ?_); refine store_event (t := 68) (p := 109) (v := ?vo_w89) (w1 := ((w86.setCell ⟨go77, (x7_2 : Int).toNat * 2, none⟩ (.int .i64 t385)).setCell ⟨go77, (x7_2 : Int).toNat * 2 + 1, none⟩ (.int .i64 t386))) ?hg ?ho ?hn ?hr ?_; (case ho => rfl); (case hg => rfl); (case hn => rfl); (case hr => first | (go_simp; done) | (go_simp; rfl)); intro w89 hw; have hg : w86.grownBy w89 (some go77) := (by rw [hw]; exact HP88.2); have hp_ : Kd.R k68 68 w89 w.heap.size (fun k_ => some k_ ≠ (.slice Ao37 x377000_1.length co37 : Value).ownBlock ∧ some k_ ≠ (.slice Ao37 x377000_1.length co37 : Value).ownBlock ∧ some k_ ≠ (.slice Ao84 t398.length co84 : Value).ownBlock ∧ k_ ≠ gb387) (.slice (some ⟨go77, 0, none⟩) x4_1.length co33) y402 := (by rw [hw, Ny402.out]; exact HP88.1); clear HP88; replace HO_377000 := Aside0.mk (Kd.R_after (v := (.slice (some ⟨go77, 0, none⟩) x4_1.length co33)) (v1 := (.slice (some ⟨go77, 0, none⟩) x4_1.length co33)) (ok := (fun k_ => some k_ ≠ (.slice Ao84 t398.length co84 : Value).ownBlock ∧ k_ ≠ gb387)) (by (with_reducible repeat (first | apply Kd.R_alloc | apply Kd.R_drewN | apply Kd.R_drew)); exact Kd.R_mono HO_377000.out (fun _ hk => by first | exact ⟨⟨hk.2.1, hk.2.2⟩, hk.1⟩ | grind)) hg (.inl rfl)); replace HO_390000 := Aside0.mk (Kd.R_after (v := (.slice (some ⟨go77, 0, none⟩) x4_1.length co33)) (v1 := (.slice (some ⟨go77, 0, none⟩) x4_1.length co33)) (ok := (fun k_ => some k_ ≠ (.slice Ao84 t398.length co84 : Value).ownBlock ∧ k_ ≠ gb387)) (by (with_reducible repeat (first | apply Kd.R_alloc | apply Kd.R_drewN | apply Kd.R_drew)); exact Kd.R_mono HO_390000.out (fun _ hk => by first | exact ⟨⟨hk.2.1, hk.2.2⟩, hk.1⟩ | grind)) hg (.inl rfl)); replace BK376 := Aside0.mk (blk_grown (g := gb376) (o := .cells #[.slice Ao37 x377000_1.length co37] 29 (0, 0)) (bk_ BK376) hg (Kd.R_ne HO_4.out BK376.out (by decide))); replace BK387 := Aside0.mk (blk_grown (g := gb387) (o := .cells #[.int .i64 t385, .int .i64 t386] 68 (0, 0)) (bk_ BK387) hg (Kd.R_away HO_4.out (fun _ hk => by first | exact hk.2.2.2 | grind))); replace BK389 := Aside0.mk (blk_grown (g := gb389) (o := .cells #[.slice Ao84 t398.length co84] 29 (0, 0)) (bk_ BK389) hg (Kd.R_ne HO_4.out BK389.out (by decide))); replace HO_4 := Aside0.mk (hp_); replace HO400 := Aside0.mk (Kd.R_after (v := (.slice (some ⟨go77, 0, none⟩) x4_1.length co33)) (v1 := (.slice (some ⟨go77, 0, none⟩) x4_1.length co33)) (ok := (fun k_ => some k_ ≠ (.slice Ao37 x377000_1.length co37 : Value).ownBlock ∧ some k_ ≠ (.slice Ao37 x377000_1.length co37 : Value).ownBlock ∧ k_ ≠ gb387)) (by (with_reducible repeat (first | apply Kd.R_alloc | apply Kd.R_drewN | apply Kd.R_drew)); exact Kd.R_mono HO400.out (fun _ hk => by first | exact ⟨⟨hk.2.1, ⟨hk.2.2.1, hk.2.2.2⟩⟩, hk.1⟩ | grind)) hg (.inl rfl)); replace HB := Aside0.mk ((by rw [hw]; exact below_set (below_set (HB.out) GB77.out) GB77.out : Below w.heap.size w w89)); clear hg hw hp_))
                   go_meet
                   case rel => exact ⟨_, (y402), (t401), (x377000_1), (t385), (t386), (t398), (.slice Ao37 x377000_1.length co37), (.slice Ao84 t398.length co84), (by first | rfl | (simp; done) | (simp [*]; done)), H', ⟨by have := HK1.out; have := HK2.out; have := HJ40.out; first | omega | exact Nat.le_refl _⟩, ⟨by (with_reducible repeat (first | apply Kd.R_alloc | apply Kd.R_drewN | apply Kd.R_drew)); exact Kd.R_mono HO_4.out (fun _ hk => by first | exact ⟨hk.1, ⟨hk.2.2.1, hk.2.2.2⟩⟩ | grind)⟩, ⟨by (with_reducible repeat (first | apply Kd.R_alloc | apply Kd.R_drewN | apply Kd.R_drew)); exact Kd.R_mono HO_377000.out (fun _ hk => by first | exact ⟨hk.2, ⟨hk.1.1, hk.1.2⟩⟩ | grind)⟩, ⟨by (with_reducible repeat (first | apply Kd.R_alloc | apply Kd.R_drewN | apply Kd.R_drew)); exact Kd.R_mono HO400.out (fun _ hk => by first | exact ⟨hk.2, ⟨hk.1.1, hk.1.2.2⟩⟩ | grind)⟩, ⟨bk_ BK376⟩, ⟨bk_ BK387⟩, ⟨bk_ BK389⟩, ⟨bf_ HB⟩⟩
                  ·rw [if_neg c76] at H
                   exact absurd H (by simp)
                 ·rw [if_neg c75] at H
                  exact absurd H (by simp)
                ·rw [if_neg c74] at H
                 have c74b0 : decide (0 ≤ x7_2) = false := decide_eq_false c74
                 have c65x : (t401 == 0) = false := by have h_ := c65b0; rw [show decide (x7_2 ≥ 0) = false from c74b0] at h_; simpa using h_
                 have c65y : (t401 != 0) = true := by first | exact bne_eq_false_iff_eq.mpr (beq_iff_eq.mp c65x) | exact bne_iff_ne.mpr (beq_eq_false_iff_ne.mp c65x)
                 clear c74
                 have H' := Aside0.mk H
                 clear H; have hnb90 := NB376_387.out; have hnc90 := NB387_376.out; have hnb91 := NB376_389.out; have hnc91 := NB389_376.out; obtain ⟨hcz92_0, hfz92_0⟩ := bz1_ BK376; have hnb93 := NB387_389.out; have hnc93 := NB389_387.out; obtain ⟨hcz94_0, hcz94_1, hfz94_0, hfz94_1⟩ := bz2_ BK387
                 go_wp2_with (first | ((with_reducible refine gc_ 44 rfl ?_); refine gl_ 96 Try.func44 #[.agg #[.slice Ao37 x377000_1.length co37], .agg #[.int .i64 t385, .int .i64 t386]] ?_; (with_reducible refine (impl_HeapMove.calls kj40 _ _ x377000_1 t385 t386 t398 t401 _ ?side1 ?side2 A64.out).mono ?_); (case side1 => exact cr_ HO_377000); (case side2 => exact (Kd.R_reads' HO_377000.out).2.1); rintro e w95 ⟨v399, rfl, ho0, hb⟩; refine ⟨_, rfl, ?_⟩; have HO400 := Aside0.mk (Kd.R_lower (Kd.R_newB (Kd.R_new' (Kd.R_new' (Kd.R_new' ho0 (Kd.R_lt (kr_ HO_4))) (Kd.R_lt (kr_ HO_377000))) (Kd.R_lt (kr_ HO_390000))) (g := gb387) (o := .cells #[.int .i64 t385, .int .i64 t386] 68 (0, 0)) (bk_ BK387)) (below_size (bf_ HB))); replace HO_4 := Aside0.mk (Kd.R_elder' (kr_ HO_4) (Kd.R_base ho0) hb); replace HO_377000 := Aside0.mk (Kd.R_elder' (kr_ HO_377000) (Kd.R_base ho0) hb); replace HO_390000 := Aside0.mk (Kd.R_elder' (kr_ HO_390000) (Kd.R_base ho0) hb); replace BK376 := bb_ BK376 hb; replace BK387 := bb_ BK387 hb; replace BK389 := bb_ BK389 hb; replace HB := Aside0.mk (below_step (bf_ HB) hb); (try clear hb); (try clear hb2); (try clear hk); (try clear hi); (try clear ho0); obtain ⟨Ao96, co96, eo96⟩ := Kd.R_slice HO400.out; subst eo96; obtain ⟨hcz97_0, hfz97_0⟩ := bz1_ BK389))
                 go_meet
                 case rel => exact ⟨_, (x4_1), (t401), (x377000_1), (t385), (t386), (t398), (.slice Ao37 x377000_1.length co37), (.slice Ao96 t398.length co96), (by first | rfl | (simp; done) | (simp [*]; done)), H', ⟨by have := HK1.out; have := HK2.out; have := HJ40.out; first | omega | exact Nat.le_refl _⟩, ⟨by (with_reducible repeat (first | apply Kd.R_alloc | apply Kd.R_drewN | apply Kd.R_drew)); exact Kd.R_mono (Kd.R_far (p := ⟨gb389, 0, none⟩) (Kd.R_types HO_4.out BK389.out (by decide)) (fun _ hk => by first | exact hk.2 | grind) (.slice Ao96 t398.length co96)) (fun _ hk => by first | exact ⟨hk.1.1.1, ⟨hk.1.2, hk.1.1.2.2⟩⟩ | grind)⟩, ⟨by (with_reducible repeat (first | apply Kd.R_alloc | apply Kd.R_drewN | apply Kd.R_drew)); exact Kd.R_mono (Kd.R_far (p := ⟨gb389, 0, none⟩) (Kd.R_types HO_377000.out BK389.out (by decide)) (fun _ hk => by first | exact hk.2 | grind) (.slice Ao96 t398.length co96)) (fun _ hk => by first | exact ⟨hk.1.1.1, ⟨hk.1.2, hk.1.1.2⟩⟩ | grind)⟩, ⟨by (with_reducible repeat (first | apply Kd.R_alloc | apply Kd.R_drewN | apply Kd.R_drew)); exact Kd.R_mono (Kd.R_far (p := ⟨gb389, 0, none⟩) (Kd.R_types HO400.out BK389.out (by decide)) (fun _ hk => by first | exact hk.2 | grind) (.slice Ao96 t398.length co96)) (fun _ hk => by first | exact ⟨hk.1.1.1.1.2, ⟨hk.1.1.1.2, hk.1.2⟩⟩ | grind)⟩, ⟨by (with_reducible repeat (first | refine blk_drewN ?_ _ | refine blk_drew ?_ | refine blk_alloc ?_ _)); refine blk_far ?_ NB376_389.out _; exact bk_ BK376⟩, ⟨by (with_reducible repeat (first | refine blk_drewN ?_ _ | refine blk_drew ?_ | refine blk_alloc ?_ _)); refine blk_far ?_ NB387_389.out _; exact bk_ BK387⟩, ⟨by (with_reducible repeat (first | refine blk_drewN ?_ _ | refine blk_drew ?_ | refine blk_alloc ?_ _)); refine blk_put (cs := #[.slice Ao37 x377000_1.length co37]) ?_ 0 _ rfl; exact bk_ BK389⟩, ⟨bf_ HB⟩⟩
              ·as_aux_lemma =>
               rw [if_neg c63] at H
               have c63b0 : (t390 == 2) = false := beq_eq_false_iff_ne.mpr c63
               have c63b1 : (t390 != 2) = true := bne_iff_ne.mpr c63
               by_cases c98 : t390 = 3
               ·rw [if_pos c98] at H
                have c98b0 : (t390 == 3) = true := beq_iff_eq.mpr c98
                have c98b1 : (t390 != 3) = false := bne_eq_false_iff_eq.mpr c98
                clear c98
                replace H := Option.bind_eq_some_iff.mp H
                obtain ⟨⟨t403, t406⟩, A990, H⟩ := H
                have A99 := Aside0.mk A990
                clear A990
                by_cases c100 : ((t406 == 0) != (decide (x7_2 ≥ 0))) = true
                ·rw [if_pos c100] at H
                 have c100b0 : ((t406 == 0) != (decide (x7_2 ≥ 0))) = true := c100
                 (try (have c100b1 : decide ((t406 == 0) = (decide (x7_2 ≥ 0))) = false := by simpa using c100))
                 (try (have c100b2 : ((t406 == 0) == (decide (x7_2 ≥ 0))) = false := by simpa using c100))
                 (try (have c100b3 : ¬ ((t406 == 0) = (decide (x7_2 ≥ 0))) := by simpa using c100))
                 clear c100
                 obtain rfl := Option.some.inj H
                 have hnb101 := NB376_387.out; have hnc101 := NB387_376.out; have hnb102 := NB376_389.out; have hnc102 := NB389_376.out; obtain ⟨hcz103_0, hfz103_0⟩ := bz1_ BK376; have hnb104 := NB387_389.out; have hnc104 := NB389_387.out; obtain ⟨hcz105_0, hcz105_1, hfz105_0, hfz105_1⟩ := bz2_ BK387
                 go_wp2_with (first | ((with_reducible refine gc_ 36 rfl ?_); refine gl_ 116 Try.func36 #[.agg #[.slice Ao37 x377000_1.length co37], .int .i64 t386] ?_; (with_reducible refine (impl_HeapDrop.calls kj40 _ _ x377000_1 t386 t403 t406 _ ?side1 ?side2 A99.out).mono ?_); (case side1 => exact cr_ HO_377000); (case side2 => exact (Kd.R_reads' HO_377000.out).2.1); rintro e w106 ⟨v404, rfl, ho0, hb⟩; refine ⟨_, rfl, ?_⟩; have HO405 := Aside0.mk (Kd.R_lower (Kd.R_newB (Kd.R_new' (Kd.R_new' (Kd.R_new' ho0 (Kd.R_lt (kr_ HO_4))) (Kd.R_lt (kr_ HO_377000))) (Kd.R_lt (kr_ HO_390000))) (g := gb387) (o := .cells #[.int .i64 t385, .int .i64 t386] 68 (0, 0)) (bk_ BK387)) (below_size (bf_ HB))); replace HO_4 := Aside0.mk (Kd.R_elder' (kr_ HO_4) (Kd.R_base ho0) hb); replace HO_377000 := Aside0.mk (Kd.R_elder' (kr_ HO_377000) (Kd.R_base ho0) hb); replace HO_390000 := Aside0.mk (Kd.R_elder' (kr_ HO_390000) (Kd.R_base ho0) hb); replace BK376 := bb_ BK376 hb; replace BK387 := bb_ BK387 hb; replace BK389 := bb_ BK389 hb; replace HB := Aside0.mk (below_step (bf_ HB) hb); (try clear hb); (try clear hb2); (try clear hk); (try clear hi); (try clear ho0); obtain ⟨Ao107, co107, eo107⟩ := Kd.R_slice HO405.out; subst eo107; obtain ⟨hcz108_0, hfz108_0⟩ := bz1_ BK389))
                 go_ret
                 exact ⟨by first | rfl | (simp [errW_none, errW_some] <;> rfl) | (simp only [← hji17]; first | rfl | (simp [errW_none, errW_some] <;> rfl)) | (simp [*, errW_none, errW_some] <;> rfl), bf_ HB⟩
                ·rw [if_neg c100] at H
                 have c100b0 : ((t406 == 0) != (decide (x7_2 ≥ 0))) = false := by simpa using c100
                 (try (have c100b1 : decide ((t406 == 0) = (decide (x7_2 ≥ 0))) = true := by simpa using c100))
                 (try (have c100b2 : ((t406 == 0) == (decide (x7_2 ≥ 0))) = true := by simpa using c100))
                 clear c100
                 by_cases c109 : x7_2 ≥ 0
                 ·rw [if_pos c109] at H
                  have c109b0 : decide (0 ≤ x7_2) = true := decide_eq_true c109
                  have c100x : (t406 == 0) = true := by have h_ := c100b0; rw [show decide (x7_2 ≥ 0) = true from c109b0] at h_; simpa using h_
                  have c100y : (t406 != 0) = false := by first | exact bne_eq_false_iff_eq.mpr (beq_iff_eq.mp c100x) | exact bne_iff_ne.mpr (beq_eq_false_iff_ne.mp c100x)
                  clear c109
                  obtain ⟨y407, hy407⟩ : ∃ y_ : List (S68), y_ = (([] : List (S68))) := ⟨_, rfl⟩
                  replace H : (if 0 ≤ x7_2 then (if x7_2 ≤ (x4_1.length : Int) then ((some (x4_1.take (x7_2 : Int).toNat : List (S68))).bind fun y410 => (if y407.length + y410.length < 8796093022208 then ((some (y407 ++ y410 : List (S68))).bind fun y414 => (if 0 ≤ (wrap64 (x7_2 + 1)) then (if (wrap64 (x7_2 + 1)) ≤ (x4_1.length : Int) then ((some (x4_1.drop ((wrap64 (x7_2 + 1)) : Int).toNat : List (S68))).bind fun y417 => (if y414.length + y417.length < 8796093022208 then (laws_FnHeapBook.j4 kj40 l0 (y414 ++ y417) x5_1 t406 x377000_1 t403) else (none))) else (none)) else (none))) else (none))) else (none)) else (none)) = some r := by first | (rw [hy407]; with_reducible exact H) | (have H2_ := (Option.bind_some _ _).symm.trans H; rw [hy407]; with_reducible exact H2_) | (have H2_ := (Option.bind_some _ _).symm.trans H; with_reducible exact H2_) | with_reducible exact H | (rw [hy407]; exact H) | exact H
                  have Ny407 := Aside0.mk hy407
                  clear hy407
                  by_cases c110 : 0 ≤ x7_2
                  ·rw [if_pos c110] at H
                   have c110b0 := eq_true c110
                   have c110b1 : decide (0 ≤ x7_2) = true := decide_eq_true c110
                   clear c110
                   by_cases c111 : x7_2 ≤ (x4_1.length : Int)
                   ·rw [if_pos c111] at H
                    have c111b0 := eq_true c111
                    have c111b1 : decide (x7_2 ≤ (x4_1.length : Int)) = true := decide_eq_true c111
                    clear c111
                    obtain ⟨y410, hy410⟩ : ∃ y_ : List (S68), y_ = (x4_1.take (x7_2 : Int).toNat) := ⟨_, rfl⟩
                    replace H : (if y407.length + y410.length < 8796093022208 then ((some (y407 ++ y410 : List (S68))).bind fun y414 => (if 0 ≤ (wrap64 (x7_2 + 1)) then (if (wrap64 (x7_2 + 1)) ≤ (x4_1.length : Int) then ((some (x4_1.drop ((wrap64 (x7_2 + 1)) : Int).toNat : List (S68))).bind fun y417 => (if y414.length + y417.length < 8796093022208 then (laws_FnHeapBook.j4 kj40 l0 (y414 ++ y417) x5_1 t406 x377000_1 t403) else (none))) else (none)) else (none))) else (none)) = some r := by first | (rw [hy410]; with_reducible exact H) | (have H2_ := (Option.bind_some _ _).symm.trans H; rw [hy410]; with_reducible exact H2_) | (have H2_ := (Option.bind_some _ _).symm.trans H; with_reducible exact H2_) | with_reducible exact H | (rw [hy410]; exact H) | exact H
                    have Ny410 := Aside0.mk hy410
                    clear hy410
                    by_cases c112 : y407.length + y410.length < 8796093022208
                    ·rw [if_pos c112] at H
                     have LMc112 := Aside0.mk c112
                     clear c112
                     obtain ⟨y414, hy414⟩ : ∃ y_ : List (S68), y_ = (y407 ++ y410) := ⟨_, rfl⟩
                     replace H : (if 0 ≤ (wrap64 (x7_2 + 1)) then (if (wrap64 (x7_2 + 1)) ≤ (x4_1.length : Int) then ((some (x4_1.drop ((wrap64 (x7_2 + 1)) : Int).toNat : List (S68))).bind fun y417 => (if y414.length + y417.length < 8796093022208 then (laws_FnHeapBook.j4 kj40 l0 (y414 ++ y417) x5_1 t406 x377000_1 t403) else (none))) else (none)) else (none)) = some r := by first | (rw [hy414]; with_reducible exact H) | (have H2_ := (Option.bind_some _ _).symm.trans H; rw [hy414]; with_reducible exact H2_) | (have H2_ := (Option.bind_some _ _).symm.trans H; with_reducible exact H2_) | with_reducible exact H | (rw [hy414]; exact H) | exact H
                     have Ny414 := Aside0.mk hy414
                     clear hy414
                     obtain ⟨ji113, hji113⟩ : ∃ j_ : Int, (wrap64 (x7_2 + 1)) = j_ := ⟨_, rfl⟩
                     replace H : (if 0 ≤ (ji113) then (if (ji113) ≤ (x4_1.length : Int) then ((some (x4_1.drop ((ji113) : Int).toNat : List (S68))).bind fun y417 => (if y414.length + y417.length < 8796093022208 then (laws_FnHeapBook.j4 kj40 l0 (y414 ++ y417) x5_1 t406 x377000_1 t403) else (none))) else (none)) else (none)) = some r := by first | (rw [hji113] at H; exact H) | (simp only [hji113] at H ⊢; exact H)
                     (try rw [hji113] at A99)
                     have hji113w : (IntKind.i64.wrap (x7_2 + 1)) = ji113 := (i64_w _).trans hji113
                     by_cases c114 : 0 ≤ (ji113)
                     ·rw [if_pos c114] at H
                      have c114b0 := eq_true c114
                      have c114b1 : decide (0 ≤ (ji113)) = true := decide_eq_true c114
                      clear c114
                      by_cases c115 : (ji113) ≤ (x4_1.length : Int)
                      ·rw [if_pos c115] at H
                       have c115b0 := eq_true c115
                       have c115b1 : decide ((ji113) ≤ (x4_1.length : Int)) = true := decide_eq_true c115
                       clear c115
                       obtain ⟨y417, hy417⟩ : ∃ y_ : List (S68), y_ = (x4_1.drop ((ji113) : Int).toNat) := ⟨_, rfl⟩
                       replace H : (if y414.length + y417.length < 8796093022208 then (laws_FnHeapBook.j4 kj40 l0 (y414 ++ y417) x5_1 t406 x377000_1 t403) else (none)) = some r := by first | (rw [hy417]; with_reducible exact H) | (have H2_ := (Option.bind_some _ _).symm.trans H; rw [hy417]; with_reducible exact H2_) | (have H2_ := (Option.bind_some _ _).symm.trans H; with_reducible exact H2_) | with_reducible exact H | (rw [hy417]; exact H) | exact H
                       have Ny417 := Aside0.mk hy417
                       clear hy417
                       by_cases c116 : y414.length + y417.length < 8796093022208
                       ·rw [if_pos c116] at H
                        have LMc116 := Aside0.mk c116
                        clear c116
                        obtain ⟨y421, hy421⟩ : ∃ y_ : List (S68), y_ = (y414 ++ y417) := ⟨_, rfl⟩
                        replace H : (laws_FnHeapBook.j4 kj40 l0 y421 x5_1 t406 x377000_1 t403) = some r := by first | (rw [hy421]; with_reducible exact H) | (have H2_ := (Option.bind_some _ _).symm.trans H; rw [hy421]; with_reducible exact H2_) | (have H2_ := (Option.bind_some _ _).symm.trans H; with_reducible exact H2_) | with_reducible exact H | (rw [hy421]; exact H) | exact H
                        have Ny421 := Aside0.mk hy421
                        clear hy421
                        have H' := Aside0.mk H
                        clear H; have hnb117 := NB376_387.out; have hnc117 := NB387_376.out; have hnb118 := NB376_389.out; have hnc118 := NB389_376.out; obtain ⟨hcz119_0, hfz119_0⟩ := bz1_ BK376; have hnb120 := NB387_389.out; have hnc120 := NB389_387.out; obtain ⟨hcz121_0, hcz121_1, hfz121_0, hfz121_1⟩ := bz2_ BK387
                        try go_wp2_with (first | ((with_reducible refine gc_ 36 rfl ?_); refine gl_ 116 Try.func36 #[.agg #[.slice Ao37 x377000_1.length co37], .int .i64 t386] ?_; (with_reducible refine (impl_HeapDrop.calls kj40 _ _ x377000_1 t386 t403 t406 _ ?side1 ?side2 A99.out).mono ?_); (case side1 => exact cr_ HO_377000); (case side2 => exact (Kd.R_reads' HO_377000.out).2.1); rintro e w122 ⟨v404, rfl, ho0, hb⟩; refine ⟨_, rfl, ?_⟩; have HO405 := Aside0.mk (Kd.R_lower (Kd.R_newB (Kd.R_new' (Kd.R_new' (Kd.R_new' ho0 (Kd.R_lt (kr_ HO_4))) (Kd.R_lt (kr_ HO_377000))) (Kd.R_lt (kr_ HO_390000))) (g := gb387) (o := .cells #[.int .i64 t385, .int .i64 t386] 68 (0, 0)) (bk_ BK387)) (below_size (bf_ HB))); replace HO_4 := Aside0.mk (Kd.R_elder' (kr_ HO_4) (Kd.R_base ho0) hb); replace HO_377000 := Aside0.mk (Kd.R_elder' (kr_ HO_377000) (Kd.R_base ho0) hb); replace HO_390000 := Aside0.mk (Kd.R_elder' (kr_ HO_390000) (Kd.R_base ho0) hb); replace BK376 := bb_ BK376 hb; replace BK387 := bb_ BK387 hb; replace BK389 := bb_ BK389 hb; replace HB := Aside0.mk (below_step (bf_ HB) hb); (try clear hb); (try clear hb2); (try clear hk); (try clear hi); (try clear ho0); obtain ⟨Ao123, co123, eo123⟩ := Kd.R_slice HO405.out; subst eo123; obtain ⟨hcz124_0, hfz124_0⟩ := bz1_ BK389))
                        generalize hW_ : (w122.setCell ⟨gb389, 0, none⟩ (.slice Ao123 t403.length co123)) = w125
                        replace HO_4 : Aside0 (Kd.R k68 68 w125 w.heap.size (fun k_ => some k_ ≠ (.slice Ao37 x377000_1.length co37 : Value).ownBlock ∧ some k_ ≠ (.slice Ao37 x377000_1.length co37 : Value).ownBlock ∧ some k_ ≠ (.slice Ao123 t403.length co123 : Value).ownBlock ∧ k_ ≠ gb387) (.slice Ao33 x4_1.length co33) x4_1) := ⟨by cases hW_; (with_reducible repeat (first | apply Kd.R_alloc | apply Kd.R_drewN | apply Kd.R_drew)); exact Kd.R_mono (Kd.R_far (p := ⟨gb389, 0, none⟩) (Kd.R_types HO_4.out BK389.out (by decide)) (fun _ hk => by first | exact hk.2 | grind) (.slice Ao123 t403.length co123)) (fun _ hk => by first | exact ⟨hk.1.1.1, ⟨hk.1.1.2.1, ⟨hk.1.2, hk.1.1.2.2⟩⟩⟩ | grind)⟩
                        replace HO_377000 : Aside0 (Kd.R k68 68 w125 w.heap.size (fun k_ => some k_ ≠ (.slice Ao33 x4_1.length co33 : Value).ownBlock ∧ some k_ ≠ (.slice Ao123 t403.length co123 : Value).ownBlock ∧ k_ ≠ gb387) (.slice Ao37 x377000_1.length co37) x377000_1) := ⟨by cases hW_; (with_reducible repeat (first | apply Kd.R_alloc | apply Kd.R_drewN | apply Kd.R_drew)); exact Kd.R_mono (Kd.R_far (p := ⟨gb389, 0, none⟩) (Kd.R_types HO_377000.out BK389.out (by decide)) (fun _ hk => by first | exact hk.2 | grind) (.slice Ao123 t403.length co123)) (fun _ hk => by first | exact ⟨hk.1.1.1, ⟨hk.1.2, hk.1.1.2⟩⟩ | grind)⟩
                        replace HO_390000 : Aside0 (Kd.R k68 68 w125 w.heap.size (fun k_ => some k_ ≠ (.slice Ao33 x4_1.length co33 : Value).ownBlock ∧ some k_ ≠ (.slice Ao123 t403.length co123 : Value).ownBlock ∧ k_ ≠ gb387) (.slice Ao37 x377000_1.length co37) x377000_1) := ⟨by cases hW_; (with_reducible repeat (first | apply Kd.R_alloc | apply Kd.R_drewN | apply Kd.R_drew)); exact Kd.R_mono (Kd.R_far (p := ⟨gb389, 0, none⟩) (Kd.R_types HO_390000.out BK389.out (by decide)) (fun _ hk => by first | exact hk.2 | grind) (.slice Ao123 t403.length co123)) (fun _ hk => by first | exact ⟨hk.1.1.1, ⟨hk.1.2, hk.1.1.2⟩⟩ | grind)⟩
                        replace HO405 : Aside0 (Kd.R k68 68 w125 w.heap.size (fun k_ => some k_ ≠ (.slice Ao33 x4_1.length co33 : Value).ownBlock ∧ some k_ ≠ (.slice Ao37 x377000_1.length co37 : Value).ownBlock ∧ some k_ ≠ (.slice Ao37 x377000_1.length co37 : Value).ownBlock ∧ k_ ≠ gb387) (.slice Ao123 t403.length co123) t403) := ⟨by cases hW_; (with_reducible repeat (first | apply Kd.R_alloc | apply Kd.R_drewN | apply Kd.R_drew)); exact Kd.R_mono (Kd.R_far (p := ⟨gb389, 0, none⟩) (Kd.R_types HO405.out BK389.out (by decide)) (fun _ hk => by first | exact hk.2 | grind) (.slice Ao123 t403.length co123)) (fun _ hk => by first | exact ⟨hk.1.1.1.1.2, ⟨hk.1.1.1.2, ⟨hk.1.1.2, hk.1.2⟩⟩⟩ | grind)⟩
                        replace BK376 := fc1_ hW_ BK376 NB376_389
                        replace BK387 := fc1_ hW_ BK387 NB387_389
                        replace BK389 : Aside0 (w125.heap[gb389]? = some (.cells #[.slice Ao123 t403.length co123] 29 (0, 0))) := pc1_ hW_ BK389
                        replace HB : Aside0 (Below w.heap.size w w125) := ⟨by cases hW_; exact bf_ HB⟩
                        clear hW_; replace HO_4 := Aside0.mk (Kd.R_drew HO_4.out); replace HO_377000 := Aside0.mk (Kd.R_drew HO_377000.out); replace HO_390000 := Aside0.mk (Kd.R_drew HO_390000.out); replace HO405 := Aside0.mk (Kd.R_drew HO405.out); replace BK376 := Aside0.mk (blk_drew BK376.out); replace BK387 := Aside0.mk (blk_drew BK387.out); replace BK389 := Aside0.mk (blk_drew BK389.out); replace HB := Aside0.mk (below_drew1 HB.out)
                        have q127 : (x7_2 : Int) ≤ ((x4_1.length : Int) : Int) := od_
                        obtain ⟨i0127, hi0127, _, hsz127, _⟩ := info_parts info68
                        have hroom127 : x4_1.length ≤ co33 := (Kd.R_reads' HO_4.out).2.1
                        have hC127 : Kd.C k68 _ Ao33 x4_1.length x4_1 := (Kd.R_reads' HO_4.out).2.2
                        have hcut127 := cut_to (P := Try.prog) 26 68 .i64 Try.underlying26 hi0127 Ao33 x4_1.length co33 x7_2 (od_) q127 hroom127
                        have hr127 := Kd.C_take (m := (x7_2 : Int).toNat) hC127 (by omega)
                        have hy127 : y410.length = (x7_2 : Int).toNat := (by rw [Ny410.out, List.length_take]; omega)
                        rw [← Ny410.out] at hr127
                        rw [← hy127] at hcut127
                        have HR413 := Aside0.mk hr127
                        have HC413 := Aside0.mk (show y410.length ≤ co33 from by omega)
                        clear hr127 hC127 hroom127 hi0127 hsz127
                        have KY127 := Aside0.mk hy127
                        clear hy127
                        have KL127 := Aside0.mk (show (x7_2 : Int).toNat ≤ x4_1.length from by omega)
                        replace q127 := eq_true q127
                        have q128 : ((ji113) : Int) ≤ ((x4_1.length : Int) : Int) := od_
                        obtain ⟨i0128, hi0128, _, hsz128, _⟩ := info_parts info68
                        have hroom128 : x4_1.length ≤ co33 := (Kd.R_reads' HO_4.out).2.1
                        have hC128 : Kd.C k68 _ Ao33 x4_1.length x4_1 := (Kd.R_reads' HO_4.out).2.2
                        have q0128 : (0 : Int) ≤ ((ji113) : Int) := od_
                        have hcut128 := cut_from (P := Try.prog) 26 68 .i64 Try.underlying26 hi0128 2 hsz128 Ao33 x4_1.length co33 (ji113) q0128 q128
                        have hr128 := Kd.C_drop (m := ((ji113) : Int).toNat) (c := co33) hC128 (by omega) hroom128
                        obtain ⟨A128, hA128⟩ : ∃ A1, A1 = (if co33 = ((ji113) : Int).toNat then Ao33 else (Ao33 : Option Addr).map (·.add (((ji113) : Int).toNat * 2))) := ⟨_, rfl⟩
                        obtain ⟨c128, hc128⟩ : ∃ c1, c1 = co33 - ((ji113) : Int).toNat := ⟨_, rfl⟩
                        have hy128 : y417.length = x4_1.length - ((ji113) : Int).toNat := (by rw [Ny417.out, List.length_drop] <;> omega)
                        rw [show (x4_1).drop ((ji113) : Int).toNat = y417 from Ny417.out.symm] at hr128
                        replace hr128 : Kd.C k68 _ A128 y417.length y417 := (by rw [hA128]; exact hr128)
                        rw [← hy128, ← hA128, ← hc128] at hcut128
                        have HR420 := Aside0.mk hr128
                        have HC420 := Aside0.mk (show y417.length ≤ c128 from by rw [hy128, hc128]; exact Nat.sub_le_sub_right hroom128 _)
                        clear hr128 hC128 hroom128 hi0128 hsz128 hc128
                        have KY128 := Aside0.mk hy128
                        have KA128 := Aside0.mk hA128
                        clear hy128 hA128
                        have KL128 := Aside0.mk (show ((ji113) : Int).toNat ≤ x4_1.length from by omega)
                        replace q128 := eq_true q128
                        refine start_ (n := 11) (S := fun w' => True) (ds := []) (bs 11 0) (by kernel_rfl) rfl rfl trivial (fun hHeld => ?_); refine with_tabW laws_FnHeapBook.tab38 laws_FnHeapBook.bits38 (fun HT_ HW_ => ?_)
                        generalize w125.drew = w126 at HO_4 HO_377000 HO_390000 HO405 BK376 BK387 BK389 HB HR413 HR420 hHeld ⊢
                        refine ps_ 1 127 (bm 11 2) HT_ ?_
                        refine ps_ 2 128 (bm 11 6) HT_ ?_
                        refine ps_ 3 129 (bm 11 14) HT_ ?_
                        refine ps_ 5 131 (bm 11 46) HT_ ?_
                        refine ps_ 6 132 (bm 11 110) HT_ ?_
                        refine ps_ 7 133 (bm 11 238) HT_ ?_
                        refine ps_ 8 134 (bm 11 494) HT_ ?_
                        refine on_ 0 (some 126) (bm 11 495) HT_ (fun K hK => ?_)
                        refine Kd.R_lit_step k68 _ 68 ?hg (N := 126) ?hd (xs := ([] : List (S68))) (inner := []) (ok := fun _ => True) (okp := fun _ => True) ?hr ?hp (fun _ hk => by first | exact hk | grind) trivial (Below.refl _ _) (Nat.le_refl _) (by simp) ?_; (case hd => rfl); (case hg => rfl); (case hr => first | (go_simp; done) | (go_simp; rfl)); (case hp => exact (Reps.none _ _))
                        intro v408 w129 ho130 hb hg_ hnew_
                        clear hg_ hnew_
                        (first | rw [← Ny407.out] at ho130 | (simp only [Int.reduceToNat] at ho130; rw [← Ny407.out] at ho130))
                        have n0_ := Aside0.mk (Kd.R_elder' (kr_ HO_4) (Kd.R_base ho130) hb); have n1_ := Aside0.mk (Kd.R_elder' (kr_ HO_377000) (Kd.R_base ho130) hb); have n2_ := Aside0.mk (Kd.R_elder' (kr_ HO_390000) (Kd.R_base ho130) hb); have n3_ := Aside0.mk (Kd.R_elder' (kr_ HO405) (Kd.R_base ho130) hb); have n4_ := Aside0.mk (Kd.R_lower (Kd.R_newB (Kd.R_new' (Kd.R_new' (Kd.R_new' (Kd.R_new' ho130 (Kd.R_lt (kr_ HO_4))) (Kd.R_lt (kr_ HO_377000))) (Kd.R_lt (kr_ HO_390000))) (Kd.R_lt (kr_ HO405))) (g := gb387) (o := .cells #[.int .i64 t385, .int .i64 t386] 68 (0, 0)) (bk_ BK387)) (below_size (bf_ HB))); have n5_ := bb_ BK376 hb; have n6_ := bb_ BK387 hb; have n7_ := bb_ BK389 hb
                        have n8_ := Aside0.mk (Kd.C_below (by repeat (first | (with_reducible exact HR413.out) | (with_reducible refine Kd.C_alloc ?_ _) | (with_reducible refine Kd.C_drewN ?_ _) | (with_reducible refine Kd.C_drew ?_) | exact HR413.out)) hb)
                        have n9_ := Aside0.mk (Kd.C_below (by repeat (first | (with_reducible exact HR420.out) | (with_reducible refine Kd.C_alloc ?_ _) | (with_reducible refine Kd.C_drewN ?_ _) | (with_reducible refine Kd.C_drew ?_) | exact HR420.out)) hb)
                        have n10_ := Aside0.mk (below_step (bf_ HB) hb); clear HO_4 HO_377000 HO_390000 HO405 BK376 BK387 BK389 HR413 HR420 HB; have HO_4 := n0_; have HO_377000 := n1_; have HO_390000 := n2_; have HO405 := n3_; have HO409 := n4_; have BK376 := n5_; have BK387 := n6_; have BK389 := n7_
                        have HR413 := n8_
                        have HR420 := n9_
                        have HB := n10_; clear n0_ n1_ n2_ n3_ n4_ n5_ n6_ n7_ n8_ n9_ n10_ hb ho130
                        refine hK.out _ _ trivial (fun hHeld => ?_)
                        clear hK K
                        refine norm_ (a' := ?_) ?_ ?_
                        rotate_left
                        ·show Act.put _ (some 126) _ = _
                         simp only [Act.put, ls0_, ls1_, ls2_, i64_w, i32_w]
                         rfl
                        refine on_ 4 (some 130) (bs 11 9) HT_ (fun K hK => ?_)
                        refine Kd.R_append_rows_step k68 (w0 := w) w.heap.size (by rfl) (.tmp 126) (.tmp 129) 26 68 (.agg #[(.int .i64 0), (.int .i64 0)]) 16 rfl Try.underlying26 info68 rfl (by decide) (by omega) v408 y407 y410 _ _ _ (fun k_ => some k_ ≠ (.slice Ao33 x4_1.length co33 : Value).ownBlock ∧ some k_ ≠ (.slice Ao37 x377000_1.length co37 : Value).ownBlock ∧ some k_ ≠ (.slice Ao37 x377000_1.length co37 : Value).ownBlock ∧ some k_ ≠ (.slice Ao123 t403.length co123 : Value).ownBlock ∧ k_ ≠ gb387) (fun _ => False) rfl rfl ?aO ?aR (fun _ _ h => h) (fun _ h => h.elim) ?aF ?aB ?aS ?aL ?_
                        (case aR => repeat (first | exact (by repeat (first | (with_reducible exact HR413.out) | (with_reducible refine Kd.C_alloc ?_ _) | (with_reducible refine Kd.C_drewN ?_ _) | (with_reducible refine Kd.C_drew ?_) | exact HR413.out)) | (with_reducible refine Kd.C_alloc ?_ _) | (with_reducible refine Kd.C_drewN ?_ _) | (with_reducible refine Kd.C_drew ?_)))
                        (case aB => exact (bf_ HB))
                        (case aF => exact (fun k_ hk => by first | exact ⟨Kd.fresh' (Kd.R_lt (kr_ HO_4)) k_ hk, Kd.fresh' (Kd.R_lt (kr_ HO_377000)) k_ hk, Kd.fresh' (Kd.R_lt (kr_ HO_390000)) k_ hk, Kd.fresh' (Kd.R_lt (kr_ HO405)) k_ hk, Kd.freshB (g := gb387) (o := .cells #[.int .i64 t385, .int .i64 t386] 68 (0, 0)) (bk_ BK387) k_ hk⟩ | grind))
                        (case aO => exact (by (with_reducible repeat (first | apply Kd.R_alloc | apply Kd.R_drewN | apply Kd.R_drew)); exact Kd.R_mono HO409.out (fun _ hk => by first | exact ⟨hk.1.1.1.1.2, ⟨hk.1.1.1.2, ⟨hk.1.1.2, ⟨hk.1.2, hk.2⟩⟩⟩⟩ | grind)))
                        (case aS => exact (below_size (bf_ HB)))
                        (case aL => have := LMc112.out; omega)
                        intro v415 w131 ho hb hg hat
                        rw [← Ny414.out] at ho
                        have n0_ := Aside0.mk (Kd.R_after (ok := (fun k_ => some k_ ≠ (.slice Ao37 x377000_1.length co37 : Value).ownBlock ∧ some k_ ≠ (.slice Ao37 x377000_1.length co37 : Value).ownBlock ∧ some k_ ≠ (.slice Ao123 t403.length co123 : Value).ownBlock ∧ k_ ≠ gb387)) (kr_ HO_4) hg hat)
                        have n1_ := Aside0.mk (Kd.R_after (ok := (fun k_ => some k_ ≠ (.slice Ao33 x4_1.length co33 : Value).ownBlock ∧ some k_ ≠ (.slice Ao123 t403.length co123 : Value).ownBlock ∧ k_ ≠ gb387)) (kr_ HO_377000) hg hat)
                        have n2_ := Aside0.mk (Kd.R_after (ok := (fun k_ => some k_ ≠ (.slice Ao33 x4_1.length co33 : Value).ownBlock ∧ some k_ ≠ (.slice Ao123 t403.length co123 : Value).ownBlock ∧ k_ ≠ gb387)) (kr_ HO_390000) hg hat)
                        have n3_ := Aside0.mk (blk_grown (g := gb376) (o := .cells #[.slice Ao37 x377000_1.length co37] 29 (0, 0)) (bk_ BK376) hg (Kd.R_ne HO409.out BK376.out (by decide)))
                        have n4_ := Aside0.mk (blk_grown (g := gb387) (o := .cells #[.int .i64 t385, .int .i64 t386] 68 (0, 0)) (bk_ BK387) hg (Kd.R_away HO409.out (fun _ hk => by first | exact hk.2 | grind)))
                        have n5_ := Aside0.mk (blk_grown (g := gb389) (o := .cells #[.slice Ao123 t403.length co123] 29 (0, 0)) (bk_ BK389) hg (Kd.R_ne HO409.out BK389.out (by decide)))
                        have n6_ := Aside0.mk (Kd.R_after (ok := (fun k_ => some k_ ≠ (.slice Ao33 x4_1.length co33 : Value).ownBlock ∧ some k_ ≠ (.slice Ao37 x377000_1.length co37 : Value).ownBlock ∧ some k_ ≠ (.slice Ao37 x377000_1.length co37 : Value).ownBlock ∧ k_ ≠ gb387)) (kr_ HO405) hg hat)
                        have n7_ := Aside0.mk (hb)
                        have n8_ := Aside0.mk ((show Kd.C k68 w131 Ao33 y410.length y410 from by rw [Ny410.out]; exact Kd.C_take (m := (x7_2 : Int).toNat) ((Kd.R_reads' (Kd.R_after (ok := (fun k_ => some k_ ≠ (.slice Ao37 x377000_1.length co37 : Value).ownBlock ∧ some k_ ≠ (.slice Ao37 x377000_1.length co37 : Value).ownBlock ∧ some k_ ≠ (.slice Ao123 t403.length co123 : Value).ownBlock ∧ k_ ≠ gb387)) (kr_ HO_4) hg hat)).2.2) KL127.out))
                        have n9_ := Aside0.mk ((show Kd.C k68 w131 A128 y417.length y417 from by rw [Ny417.out, KA128.out]; exact Kd.C_drop (m := ((ji113) : Int).toNat) (c := co33) ((Kd.R_reads' (Kd.R_after (ok := (fun k_ => some k_ ≠ (.slice Ao37 x377000_1.length co37 : Value).ownBlock ∧ some k_ ≠ (.slice Ao37 x377000_1.length co37 : Value).ownBlock ∧ some k_ ≠ (.slice Ao123 t403.length co123 : Value).ownBlock ∧ k_ ≠ gb387)) (kr_ HO_4) hg hat)).2.2) KL128.out ((Kd.R_reads' (Kd.R_after (ok := (fun k_ => some k_ ≠ (.slice Ao37 x377000_1.length co37 : Value).ownBlock ∧ some k_ ≠ (.slice Ao37 x377000_1.length co37 : Value).ownBlock ∧ some k_ ≠ (.slice Ao123 t403.length co123 : Value).ownBlock ∧ k_ ≠ gb387)) (kr_ HO_4) hg hat)).2.1)))
                        have n10_ := Aside0.mk (ho); clear HO_4 HO_377000 HO_390000 BK376 BK387 BK389 HO405 HB HR413 HR420 HO409; have HO_4 := n0_; have HO_377000 := n1_; have HO_390000 := n2_; have BK376 := n3_; have BK387 := n4_; have BK389 := n5_; have HO405 := n6_; have HB := n7_
                        have HR413 := n8_
                        have HR420 := n9_
                        have HO416 := n10_; clear n0_ n1_ n2_ n3_ n4_ n5_ n6_ n7_ n8_ n9_ n10_ ho hb hg hat
                        refine hK.out _ _ trivial (fun hHeld => ?_)
                        clear hK K
                        refine norm_ (a' := ?_) ?_ ?_
                        rotate_left
                        ·show Act.put _ (some 130) _ = _
                         simp only [Act.put, ls0_, ls1_, ls2_, i64_w, i32_w]
                         rfl
                        refine on_ 9 (some 135) (bs 11 10) HT_ (fun K hK => ?_)
                        refine Kd.R_append_rows_step k68 (w0 := w) w.heap.size (by rfl) (.tmp 130) (.tmp 134) 26 68 (.agg #[(.int .i64 0), (.int .i64 0)]) 16 rfl Try.underlying26 info68 rfl (by decide) (by omega) v415 y414 y417 _ _ _ (fun k_ => some k_ ≠ (.slice Ao33 x4_1.length co33 : Value).ownBlock ∧ some k_ ≠ (.slice Ao37 x377000_1.length co37 : Value).ownBlock ∧ some k_ ≠ (.slice Ao37 x377000_1.length co37 : Value).ownBlock ∧ some k_ ≠ (.slice Ao123 t403.length co123 : Value).ownBlock ∧ k_ ≠ gb387) (fun _ => False) rfl rfl ?aO ?aR (fun _ _ h => h) (fun _ h => h.elim) ?aF ?aB ?aS ?aL ?_
                        (case aR => repeat (first | exact (by repeat (first | (with_reducible exact HR420.out) | (with_reducible refine Kd.C_alloc ?_ _) | (with_reducible refine Kd.C_drewN ?_ _) | (with_reducible refine Kd.C_drew ?_) | exact HR420.out)) | (with_reducible refine Kd.C_alloc ?_ _) | (with_reducible refine Kd.C_drewN ?_ _) | (with_reducible refine Kd.C_drew ?_)))
                        (case aB => exact (bf_ HB))
                        (case aF => exact (fun k_ hk => by first | exact ⟨Kd.fresh' (Kd.R_lt (kr_ HO_4)) k_ hk, Kd.fresh' (Kd.R_lt (kr_ HO_377000)) k_ hk, Kd.fresh' (Kd.R_lt (kr_ HO_390000)) k_ hk, Kd.fresh' (Kd.R_lt (kr_ HO405)) k_ hk, Kd.freshB (g := gb387) (o := .cells #[.int .i64 t385, .int .i64 t386] 68 (0, 0)) (bk_ BK387) k_ hk⟩ | grind))
                        (case aO => exact (kr_ HO416))
                        (case aS => exact (below_size (bf_ HB)))
                        (case aL => have := LMc116.out; omega)
                        intro v422 w132 ho hb hg hat
                        rw [← Ny421.out] at ho
                        have n0_ := Aside0.mk (Kd.R_after (ok := (fun k_ => some k_ ≠ (.slice Ao37 x377000_1.length co37 : Value).ownBlock ∧ some k_ ≠ (.slice Ao37 x377000_1.length co37 : Value).ownBlock ∧ some k_ ≠ (.slice Ao123 t403.length co123 : Value).ownBlock ∧ k_ ≠ gb387)) (kr_ HO_4) hg hat)
                        have n1_ := Aside0.mk (Kd.R_after (ok := (fun k_ => some k_ ≠ (.slice Ao33 x4_1.length co33 : Value).ownBlock ∧ some k_ ≠ (.slice Ao123 t403.length co123 : Value).ownBlock ∧ k_ ≠ gb387)) (kr_ HO_377000) hg hat)
                        have n2_ := Aside0.mk (Kd.R_after (ok := (fun k_ => some k_ ≠ (.slice Ao33 x4_1.length co33 : Value).ownBlock ∧ some k_ ≠ (.slice Ao123 t403.length co123 : Value).ownBlock ∧ k_ ≠ gb387)) (kr_ HO_390000) hg hat)
                        have n3_ := Aside0.mk (blk_grown (g := gb376) (o := .cells #[.slice Ao37 x377000_1.length co37] 29 (0, 0)) (bk_ BK376) hg (Kd.R_ne HO416.out BK376.out (by decide)))
                        have n4_ := Aside0.mk (blk_grown (g := gb387) (o := .cells #[.int .i64 t385, .int .i64 t386] 68 (0, 0)) (bk_ BK387) hg (Kd.R_away HO416.out (fun _ hk => by first | exact hk.2.2.2.2 | grind)))
                        have n5_ := Aside0.mk (blk_grown (g := gb389) (o := .cells #[.slice Ao123 t403.length co123] 29 (0, 0)) (bk_ BK389) hg (Kd.R_ne HO416.out BK389.out (by decide)))
                        have n6_ := Aside0.mk (Kd.R_after (ok := (fun k_ => some k_ ≠ (.slice Ao33 x4_1.length co33 : Value).ownBlock ∧ some k_ ≠ (.slice Ao37 x377000_1.length co37 : Value).ownBlock ∧ some k_ ≠ (.slice Ao37 x377000_1.length co37 : Value).ownBlock ∧ k_ ≠ gb387)) (kr_ HO405) hg hat)
                        have n7_ := Aside0.mk (hb)
                        have n8_ := Aside0.mk ((show Kd.C k68 w132 Ao33 y410.length y410 from by rw [Ny410.out]; exact Kd.C_take (m := (x7_2 : Int).toNat) ((Kd.R_reads' (Kd.R_after (ok := (fun k_ => some k_ ≠ (.slice Ao37 x377000_1.length co37 : Value).ownBlock ∧ some k_ ≠ (.slice Ao37 x377000_1.length co37 : Value).ownBlock ∧ some k_ ≠ (.slice Ao123 t403.length co123 : Value).ownBlock ∧ k_ ≠ gb387)) (kr_ HO_4) hg hat)).2.2) KL127.out))
                        have n9_ := Aside0.mk ((show Kd.C k68 w132 A128 y417.length y417 from by rw [Ny417.out, KA128.out]; exact Kd.C_drop (m := ((ji113) : Int).toNat) (c := co33) ((Kd.R_reads' (Kd.R_after (ok := (fun k_ => some k_ ≠ (.slice Ao37 x377000_1.length co37 : Value).ownBlock ∧ some k_ ≠ (.slice Ao37 x377000_1.length co37 : Value).ownBlock ∧ some k_ ≠ (.slice Ao123 t403.length co123 : Value).ownBlock ∧ k_ ≠ gb387)) (kr_ HO_4) hg hat)).2.2) KL128.out ((Kd.R_reads' (Kd.R_after (ok := (fun k_ => some k_ ≠ (.slice Ao37 x377000_1.length co37 : Value).ownBlock ∧ some k_ ≠ (.slice Ao37 x377000_1.length co37 : Value).ownBlock ∧ some k_ ≠ (.slice Ao123 t403.length co123 : Value).ownBlock ∧ k_ ≠ gb387)) (kr_ HO_4) hg hat)).2.1)))
                        have n10_ := Aside0.mk (ho); clear HO_4 HO_377000 HO_390000 BK376 BK387 BK389 HO405 HB HR413 HR420 HO416; have HO_4 := n0_; have HO_377000 := n1_; have HO_390000 := n2_; have BK376 := n3_; have BK387 := n4_; have BK389 := n5_; have HO405 := n6_; have HB := n7_
                        have HR413 := n8_
                        have HR420 := n9_
                        have HO423 := n10_; clear n0_ n1_ n2_ n3_ n4_ n5_ n6_ n7_ n8_ n9_ n10_ ho hb hg hat
                        refine hK.out _ _ trivial (fun hHeld => ?_)
                        clear hK K
                        refine norm_ (a' := ?_) ?_ ?_
                        rotate_left
                        ·show Act.put _ (some 135) _ = _
                         simp only [Act.put, ls0_, ls1_, ls2_, i64_w, i32_w]
                         rfl
                        refine psn_ HT_ ?_
                        refine done_ (done_of HT_.out (by kernel_rfl)) ?_
                        try go_wp2
                        (try subst hji113)
                        go_meet
                        case rel => exact ⟨_, (y421), (t406), (x377000_1), (t385), (t386), (t403), (.slice Ao37 x377000_1.length co37), (.slice Ao123 t403.length co123), (by first | rfl | (simp; done) | (simp [*]; done)), H', ⟨by have := HK1.out; have := HK2.out; have := HJ40.out; first | omega | exact Nat.le_refl _⟩, ⟨by (with_reducible repeat (first | apply Kd.R_alloc | apply Kd.R_drewN | apply Kd.R_drew)); exact Kd.R_mono HO423.out (fun _ hk => by first | exact ⟨hk.2.1, ⟨hk.2.2.2.1, hk.2.2.2.2⟩⟩ | grind)⟩, ⟨by (with_reducible repeat (first | apply Kd.R_alloc | apply Kd.R_drewN | apply Kd.R_drew)); exact Kd.R_mono HO_377000.out (fun _ hk => by first | exact ⟨hk.2, ⟨hk.1.2.1, hk.1.2.2⟩⟩ | grind)⟩, ⟨by (with_reducible repeat (first | apply Kd.R_alloc | apply Kd.R_drewN | apply Kd.R_drew)); exact Kd.R_mono HO405.out (fun _ hk => by first | exact ⟨hk.2, ⟨hk.1.2.1, hk.1.2.2.2⟩⟩ | grind)⟩, ⟨bk_ BK376⟩, ⟨bk_ BK387⟩, ⟨bk_ BK389⟩, ⟨bf_ HB⟩⟩
                       ·rw [if_neg c116] at H
                        exact absurd H (by simp)
                      ·rw [if_neg c115] at H
                       exact absurd H (by simp)
                     ·rw [if_neg c114] at H
                      exact absurd H (by simp)
                    ·rw [if_neg c112] at H
                     exact absurd H (by simp)
                   ·rw [if_neg c111] at H
                    exact absurd H (by simp)
                  ·rw [if_neg c110] at H
                   exact absurd H (by simp)
                 ·rw [if_neg c109] at H
                  have c109b0 : decide (0 ≤ x7_2) = false := decide_eq_false c109
                  have c100x : (t406 == 0) = false := by have h_ := c100b0; rw [show decide (x7_2 ≥ 0) = false from c109b0] at h_; simpa using h_
                  have c100y : (t406 != 0) = true := by first | exact bne_eq_false_iff_eq.mpr (beq_iff_eq.mp c100x) | exact bne_iff_ne.mpr (beq_eq_false_iff_ne.mp c100x)
                  clear c109
                  have H' := Aside0.mk H
                  clear H; have hnb133 := NB376_387.out; have hnc133 := NB387_376.out; have hnb134 := NB376_389.out; have hnc134 := NB389_376.out; obtain ⟨hcz135_0, hfz135_0⟩ := bz1_ BK376; have hnb136 := NB387_389.out; have hnc136 := NB389_387.out; obtain ⟨hcz137_0, hcz137_1, hfz137_0, hfz137_1⟩ := bz2_ BK387
                  go_wp2_with (first | ((with_reducible refine gc_ 36 rfl ?_); refine gl_ 116 Try.func36 #[.agg #[.slice Ao37 x377000_1.length co37], .int .i64 t386] ?_; (with_reducible refine (impl_HeapDrop.calls kj40 _ _ x377000_1 t386 t403 t406 _ ?side1 ?side2 A99.out).mono ?_); (case side1 => exact cr_ HO_377000); (case side2 => exact (Kd.R_reads' HO_377000.out).2.1); rintro e w138 ⟨v404, rfl, ho0, hb⟩; refine ⟨_, rfl, ?_⟩; have HO405 := Aside0.mk (Kd.R_lower (Kd.R_newB (Kd.R_new' (Kd.R_new' (Kd.R_new' ho0 (Kd.R_lt (kr_ HO_4))) (Kd.R_lt (kr_ HO_377000))) (Kd.R_lt (kr_ HO_390000))) (g := gb387) (o := .cells #[.int .i64 t385, .int .i64 t386] 68 (0, 0)) (bk_ BK387)) (below_size (bf_ HB))); replace HO_4 := Aside0.mk (Kd.R_elder' (kr_ HO_4) (Kd.R_base ho0) hb); replace HO_377000 := Aside0.mk (Kd.R_elder' (kr_ HO_377000) (Kd.R_base ho0) hb); replace HO_390000 := Aside0.mk (Kd.R_elder' (kr_ HO_390000) (Kd.R_base ho0) hb); replace BK376 := bb_ BK376 hb; replace BK387 := bb_ BK387 hb; replace BK389 := bb_ BK389 hb; replace HB := Aside0.mk (below_step (bf_ HB) hb); (try clear hb); (try clear hb2); (try clear hk); (try clear hi); (try clear ho0); obtain ⟨Ao139, co139, eo139⟩ := Kd.R_slice HO405.out; subst eo139; obtain ⟨hcz140_0, hfz140_0⟩ := bz1_ BK389))
                  go_meet
                  case rel => exact ⟨_, (x4_1), (t406), (x377000_1), (t385), (t386), (t403), (.slice Ao37 x377000_1.length co37), (.slice Ao139 t403.length co139), (by first | rfl | (simp; done) | (simp [*]; done)), H', ⟨by have := HK1.out; have := HK2.out; have := HJ40.out; first | omega | exact Nat.le_refl _⟩, ⟨by (with_reducible repeat (first | apply Kd.R_alloc | apply Kd.R_drewN | apply Kd.R_drew)); exact Kd.R_mono (Kd.R_far (p := ⟨gb389, 0, none⟩) (Kd.R_types HO_4.out BK389.out (by decide)) (fun _ hk => by first | exact hk.2 | grind) (.slice Ao139 t403.length co139)) (fun _ hk => by first | exact ⟨hk.1.1.1, ⟨hk.1.2, hk.1.1.2.2⟩⟩ | grind)⟩, ⟨by (with_reducible repeat (first | apply Kd.R_alloc | apply Kd.R_drewN | apply Kd.R_drew)); exact Kd.R_mono (Kd.R_far (p := ⟨gb389, 0, none⟩) (Kd.R_types HO_377000.out BK389.out (by decide)) (fun _ hk => by first | exact hk.2 | grind) (.slice Ao139 t403.length co139)) (fun _ hk => by first | exact ⟨hk.1.1.1, ⟨hk.1.2, hk.1.1.2⟩⟩ | grind)⟩, ⟨by (with_reducible repeat (first | apply Kd.R_alloc | apply Kd.R_drewN | apply Kd.R_drew)); exact Kd.R_mono (Kd.R_far (p := ⟨gb389, 0, none⟩) (Kd.R_types HO405.out BK389.out (by decide)) (fun _ hk => by first | exact hk.2 | grind) (.slice Ao139 t403.length co139)) (fun _ hk => by first | exact ⟨hk.1.1.1.1.2, ⟨hk.1.1.1.2, hk.1.2⟩⟩ | grind)⟩, ⟨by (with_reducible repeat (first | refine blk_drewN ?_ _ | refine blk_drew ?_ | refine blk_alloc ?_ _)); refine blk_far ?_ NB376_389.out _; exact bk_ BK376⟩, ⟨by (with_reducible repeat (first | refine blk_drewN ?_ _ | refine blk_drew ?_ | refine blk_alloc ?_ _)); refine blk_far ?_ NB387_389.out _; exact bk_ BK387⟩, ⟨by (with_reducible repeat (first | refine blk_drewN ?_ _ | refine blk_drew ?_ | refine blk_alloc ?_ _)); refine blk_put (cs := #[.slice Ao37 x377000_1.length co37]) ?_ 0 _ rfl; exact bk_ BK389⟩, ⟨bf_ HB⟩⟩
               ·rw [if_neg c98] at H
                have c98b0 : (t390 == 3) = false := beq_eq_false_iff_ne.mpr c98
                have c98b1 : (t390 != 3) = true := bne_iff_ne.mpr c98
                have H' := Aside0.mk H
                clear H
                go_wp2
                go_meet
                case rel => exact ⟨_, (x4_1), (0), (x377000_1), (t385), (t386), (x377000_1), (.slice Ao37 x377000_1.length co37), (.slice Ao37 x377000_1.length co37), (by first | rfl | (simp; done) | (simp [*]; done)), H', ⟨by have := HK1.out; have := HK2.out; have := HJ40.out; first | omega | exact Nat.le_refl _⟩, ⟨kr_ HO_4⟩, ⟨by first | exact kr_ HO_377000 | exact Kd.R_mono HO_377000.out (fun _ hk => ⟨hk.1, hk.2.2⟩) | exact Kd.R_mono HO_377000.out (fun _ hk => by grind)⟩, ⟨by first | exact kr_ HO_390000 | exact Kd.R_mono HO_390000.out (fun _ hk => ⟨hk.1, hk.2.2⟩) | exact Kd.R_mono HO_390000.out (fun _ hk => by grind)⟩, ⟨bk_ BK376⟩, ⟨bk_ BK387⟩, ⟨bk_ BK389⟩, ⟨bf_ HB⟩⟩
          case rest =>
           clear HC32; (try clear c1); (try clear q1); (try clear p2); (try clear c3); (try clear c4); (try clear c5); (try clear c6); (try clear p6); (try clear c7); (try clear p7); (try clear q7); (try clear hx7); (try clear hf7); (try clear c8); (try clear hx8); (try clear hf8); (try clear c9); (try clear c10); (try clear c11); (try clear c12); (try clear q12); (try clear c13); (try clear c36); (try clear c43); (try clear c44); (try clear c57); (try clear c57b0); (try clear c57b1); (try clear c58); (try clear c59); (try clear c60); (try clear c63); (try clear c63b0); (try clear c63b1); (try clear p64); (try clear c65); (try clear c65b0); (try clear c65b1); (try clear c65b2); (try clear c66); (try clear c67); (try clear c69); (try clear c74); (try clear c74b0); (try clear c75); (try clear c75b0); (try clear c76); (try clear c76b0); (try clear c77); (try clear p77 p77); (try clear q77 q77); (try clear hx77); (try clear hf77); (try clear c78); (try clear c79); (try clear c81); (try clear c88); (try clear hx88); (try clear hf88); (try clear c90); (try clear c91); (try clear c93); (try clear c98); (try clear c98b0); (try clear c98b1); (try clear c100); (try clear c100b0); (try clear c100b1); (try clear c100b2); (try clear c101); (try clear c102); (try clear c104); (try clear c109); (try clear c109b0); (try clear c110); (try clear c110b0); (try clear c110b1); (try clear c111); (try clear c111b0); (try clear c111b1); (try clear c112); (try clear c114); (try clear c114b0); (try clear c114b1); (try clear c115); (try clear c115b0); (try clear c115b1); (try clear c116); (try clear c117); (try clear c118); (try clear c120); (try clear q127 q127); (try clear c128); (try clear q128 q128); (try clear c133); (try clear c134); (try clear c136); (try clear hcz103_0 hfz103_0); (try clear hcz105_0 hcz105_1 hfz105_0 hfz105_1); (try clear hcz108_0 hfz108_0); (try clear hcz119_0 hfz119_0); (try clear hcz121_0 hcz121_1 hfz121_0 hfz121_1); (try clear hcz124_0 hfz124_0); (try clear hcz135_0 hfz135_0); (try clear hcz137_0 hcz137_1 hfz137_0 hfz137_1); (try clear hcz140_0 hfz140_0); (try clear hcz61_0 hcz61_1 hfz61_0 hfz61_1); (try clear hcz68_0 hfz68_0); (try clear hcz70_0 hcz70_1 hfz70_0 hfz70_1); (try clear hcz73_0 hfz73_0); (try clear hcz80_0 hfz80_0); (try clear hcz82_0 hcz82_1 hfz82_0 hfz82_1); (try clear hcz85_0 hfz85_0); (try clear hcz87_0 hcz87_1 hfz87_0 hfz87_1); (try clear hcz92_0 hfz92_0); (try clear hcz94_0 hcz94_1 hfz94_0 hfz94_1); (try clear hcz97_0 hfz97_0); (try clear hx77_0); (try clear hx77_1); (try clear hx88_0); (try clear hx88_1); (try clear q0128)
           obtain ⟨kq, x4_31, x10_31, x377000_31, x388000_31, x388001_31, x390000_31, u377000, u390000, rfl, HA, HJ31, HO_4, HO_377000, HO_390000, BK376, BK387, BK389, HB⟩ := hcut
           cases kq with
           | zero => exact absurd HA.out (by simp [laws_FnHeapBook.j4])
           | succ kj31 =>
            have H := HA.out
            clear HA
            simp only [laws_FnHeapBook.j4] at H
            by_cases c141 : x10_31 = 0
            ·as_aux_lemma =>
             rw [if_pos c141] at H
             have c141b0 : (x10_31 == 0) = true := beq_iff_eq.mpr c141
             have c141b1 : (x10_31 != 0) = false := bne_eq_false_iff_eq.mpr c141
             clear c141
             replace H := Option.bind_eq_some_iff.mp H
             obtain ⟨t424, A1420, H⟩ := H
             have A142 := Aside0.mk A1420
             clear A1420
             by_cases c143 : t424 = true
             ·subst c143
              rw [if_pos rfl] at H
              by_cases c144 : (x390000_31.length : Int) = (x4_31.length : Int)
              ·rw [if_pos c144] at H
               have c144b0 : ((x390000_31.length : Int) == (x4_31.length : Int)) = true := beq_iff_eq.mpr c144
               have c144b1 : ((x390000_31.length : Int) != (x4_31.length : Int)) = false := bne_eq_false_iff_eq.mpr c144
               have c144b2 : (x390000_31.length == x4_31.length) = true := by first | simpa using c144 | (simp at c144 ⊢; omega)
               clear c144
               have H' := Aside0.mk H
               clear H; have hnb145 := NB389_376.out; have hnc145 := NB376_389.out; have hnb146 := NB389_387.out; have hnc146 := NB387_389.out; obtain ⟨hcz147_0, hfz147_0⟩ := bz1_ BK389
               obtain ⟨Ao148, co148, eo148⟩ := Kd.R_slice HO_390000.out
               subst eo148
               have hnb149 := NB376_387.out; have hnc149 := NB387_376.out; obtain ⟨hcz150_0, hfz150_0⟩ := bz1_ BK376
               go_wp2_with (first | ((with_reducible refine gc_ 40 rfl ?_); refine gl_ 140 Try.func40 #[.agg #[.slice Ao148 x390000_31.length co148]] ?_; (with_reducible refine (spec_HeapOk.calls kj31 _ _ x390000_31 true _ ?side1 ?side2 A142.out).mono ?_); (case side1 => refine (Kd.R_reads' (e := 68) (base := w.heap.size) (ok := fun k_ => (some k_ ≠ (u4 : Value).ownBlock ∧ k_ ≠ gb387)) (n := x390000_31.length) (c := co148) ?_).2.2; exact (by (with_reducible repeat (first | apply Kd.R_alloc | apply Kd.R_drewN | apply Kd.R_drew)); exact (rf1_ HO_390000 BK376 (.slice Ao148 x390000_31.length co148)))); (case side2 => exact (Kd.R_reads' HO_390000.out).2.1); rintro e w151 ⟨rfl, hb⟩; refine ⟨_, rfl, ?_⟩; replace HO_4 := Aside0.mk (Kd.R_below (by (with_reducible repeat (first | apply Kd.R_alloc | apply Kd.R_drewN | apply Kd.R_drew)); exact (rf1_ HO_4 BK376 (.slice Ao148 x390000_31.length co148))) hb); replace HO_377000 := Aside0.mk (Kd.R_below (by (with_reducible repeat (first | apply Kd.R_alloc | apply Kd.R_drewN | apply Kd.R_drew)); exact (rf1_ HO_377000 BK376 (.slice Ao148 x390000_31.length co148))) hb); replace HO_390000 := Aside0.mk (Kd.R_below (by (with_reducible repeat (first | apply Kd.R_alloc | apply Kd.R_drewN | apply Kd.R_drew)); exact (rf1_ HO_390000 BK376 (.slice Ao148 x390000_31.length co148))) hb); replace BK376 := Aside0.mk (blk_below (g := gb376) (o := .cells #[.slice Ao148 x390000_31.length co148] 29 (0, 0)) (by (with_reducible repeat (first | refine blk_drewN ?_ _ | refine blk_drew ?_ | refine blk_alloc ?_ _)); refine blk_put (cs := #[u377000]) ?_ 0 _ rfl; exact bk_ BK376) hb); replace BK387 := bm_ BK387 hb; replace BK389 := bm_ BK389 hb; replace HB := Aside0.mk (below_step (bf_ HB) hb); (try clear hb); (try clear hb2); (try clear hk); (try clear hi); obtain ⟨hcz152_0, hfz152_0⟩ := bz1_ BK376; obtain ⟨Ao153, co153, eo153⟩ := Kd.R_slice HO_4.out; subst eo153))
               go_roundg kj31
               case measure => have := HK1.out; have := HK2.out; have := HJ31.out; omega
               case rel => exact ⟨(x4_31), (wrap64 (x5_1 + 1)), (x390000_31), (.slice Ao148 x390000_31.length co148), (by first | rfl | (simp; done) | (simp [*]; done)), H', ⟨by have := HK1.out; have := HK2.out; have := HJ31.out; omega⟩, ⟨by (with_reducible repeat (first | apply Kd.R_alloc | apply Kd.R_drewN | apply Kd.R_drew)); exact Kd.R_mono HO_4.out (fun _ hk => by first | exact hk.2.1 | grind)⟩, ⟨by (with_reducible repeat (first | apply Kd.R_alloc | apply Kd.R_drewN | apply Kd.R_drew)); exact Kd.R_mono HO_390000.out (fun _ hk => by first | exact hk.1 | grind)⟩, ⟨bk_ BK376⟩, ⟨bf_ HB⟩⟩
              ·rw [if_neg c144] at H
               have c144b0 : ((x390000_31.length : Int) == (x4_31.length : Int)) = false := beq_eq_false_iff_ne.mpr c144
               have c144b1 : ((x390000_31.length : Int) != (x4_31.length : Int)) = true := bne_iff_ne.mpr c144
               have c144b2 : (x390000_31.length == x4_31.length) = false := by first | simpa using c144 | (simp at c144 ⊢; omega)
               obtain rfl := Option.some.inj H
               have hnb154 := NB389_376.out; have hnc154 := NB376_389.out; have hnb155 := NB389_387.out; have hnc155 := NB387_389.out; obtain ⟨hcz156_0, hfz156_0⟩ := bz1_ BK389
               obtain ⟨Ao157, co157, eo157⟩ := Kd.R_slice HO_390000.out
               subst eo157
               have hnb158 := NB376_387.out; have hnc158 := NB387_376.out; obtain ⟨hcz159_0, hfz159_0⟩ := bz1_ BK376
               go_wp2_with (first | ((with_reducible refine gc_ 40 rfl ?_); refine gl_ 140 Try.func40 #[.agg #[.slice Ao157 x390000_31.length co157]] ?_; (with_reducible refine (spec_HeapOk.calls kj31 _ _ x390000_31 true _ ?side1 ?side2 A142.out).mono ?_); (case side1 => refine (Kd.R_reads' (e := 68) (base := w.heap.size) (ok := fun k_ => (some k_ ≠ (u4 : Value).ownBlock ∧ k_ ≠ gb387)) (n := x390000_31.length) (c := co157) ?_).2.2; exact (by (with_reducible repeat (first | apply Kd.R_alloc | apply Kd.R_drewN | apply Kd.R_drew)); exact (rf1_ HO_390000 BK376 (.slice Ao157 x390000_31.length co157)))); (case side2 => exact (Kd.R_reads' HO_390000.out).2.1); rintro e w160 ⟨rfl, hb⟩; refine ⟨_, rfl, ?_⟩; replace HO_4 := Aside0.mk (Kd.R_below (by (with_reducible repeat (first | apply Kd.R_alloc | apply Kd.R_drewN | apply Kd.R_drew)); exact (rf1_ HO_4 BK376 (.slice Ao157 x390000_31.length co157))) hb); replace HO_377000 := Aside0.mk (Kd.R_below (by (with_reducible repeat (first | apply Kd.R_alloc | apply Kd.R_drewN | apply Kd.R_drew)); exact (rf1_ HO_377000 BK376 (.slice Ao157 x390000_31.length co157))) hb); replace HO_390000 := Aside0.mk (Kd.R_below (by (with_reducible repeat (first | apply Kd.R_alloc | apply Kd.R_drewN | apply Kd.R_drew)); exact (rf1_ HO_390000 BK376 (.slice Ao157 x390000_31.length co157))) hb); replace BK376 := Aside0.mk (blk_below (g := gb376) (o := .cells #[.slice Ao157 x390000_31.length co157] 29 (0, 0)) (by (with_reducible repeat (first | refine blk_drewN ?_ _ | refine blk_drew ?_ | refine blk_alloc ?_ _)); refine blk_put (cs := #[u377000]) ?_ 0 _ rfl; exact bk_ BK376) hb); replace BK387 := bm_ BK387 hb; replace BK389 := bm_ BK389 hb; replace HB := Aside0.mk (below_step (bf_ HB) hb); (try clear hb); (try clear hb2); (try clear hk); (try clear hi); obtain ⟨hcz161_0, hfz161_0⟩ := bz1_ BK376; obtain ⟨Ao162, co162, eo162⟩ := Kd.R_slice HO_4.out; subst eo162))
               go_ret
               exact ⟨by first | rfl | (simp [errW_none, errW_some] <;> rfl) | (simp only [← hji17]; first | rfl | (simp [errW_none, errW_some] <;> rfl)) | (simp [*, errW_none, errW_some] <;> rfl), bf_ HB⟩
             ·replace c143 := Bool.eq_false_iff.mpr c143
              subst c143
              rw [if_neg (show ¬ (false = true) by decide)] at H
              obtain rfl := Option.some.inj H
              have hnb163 := NB389_376.out; have hnc163 := NB376_389.out; have hnb164 := NB389_387.out; have hnc164 := NB387_389.out; obtain ⟨hcz165_0, hfz165_0⟩ := bz1_ BK389
              obtain ⟨Ao166, co166, eo166⟩ := Kd.R_slice HO_390000.out
              subst eo166
              have hnb167 := NB376_387.out; have hnc167 := NB387_376.out; obtain ⟨hcz168_0, hfz168_0⟩ := bz1_ BK376
              go_wp2_with (first | ((with_reducible refine gc_ 40 rfl ?_); refine gl_ 140 Try.func40 #[.agg #[.slice Ao166 x390000_31.length co166]] ?_; (with_reducible refine (spec_HeapOk.calls kj31 _ _ x390000_31 false _ ?side1 ?side2 A142.out).mono ?_); (case side1 => refine (Kd.R_reads' (e := 68) (base := w.heap.size) (ok := fun k_ => (some k_ ≠ (u4 : Value).ownBlock ∧ k_ ≠ gb387)) (n := x390000_31.length) (c := co166) ?_).2.2; exact (by (with_reducible repeat (first | apply Kd.R_alloc | apply Kd.R_drewN | apply Kd.R_drew)); exact (rf1_ HO_390000 BK376 (.slice Ao166 x390000_31.length co166)))); (case side2 => exact (Kd.R_reads' HO_390000.out).2.1); rintro e w169 ⟨rfl, hb⟩; refine ⟨_, rfl, ?_⟩; replace HO_4 := Aside0.mk (Kd.R_below (by (with_reducible repeat (first | apply Kd.R_alloc | apply Kd.R_drewN | apply Kd.R_drew)); exact (rf1_ HO_4 BK376 (.slice Ao166 x390000_31.length co166))) hb); replace HO_377000 := Aside0.mk (Kd.R_below (by (with_reducible repeat (first | apply Kd.R_alloc | apply Kd.R_drewN | apply Kd.R_drew)); exact (rf1_ HO_377000 BK376 (.slice Ao166 x390000_31.length co166))) hb); replace HO_390000 := Aside0.mk (Kd.R_below (by (with_reducible repeat (first | apply Kd.R_alloc | apply Kd.R_drewN | apply Kd.R_drew)); exact (rf1_ HO_390000 BK376 (.slice Ao166 x390000_31.length co166))) hb); replace BK376 := Aside0.mk (blk_below (g := gb376) (o := .cells #[.slice Ao166 x390000_31.length co166] 29 (0, 0)) (by (with_reducible repeat (first | refine blk_drewN ?_ _ | refine blk_drew ?_ | refine blk_alloc ?_ _)); refine blk_put (cs := #[u377000]) ?_ 0 _ rfl; exact bk_ BK376) hb); replace BK387 := bm_ BK387 hb; replace BK389 := bm_ BK389 hb; replace HB := Aside0.mk (below_step (bf_ HB) hb); (try clear hb); (try clear hb2); (try clear hk); (try clear hi)))
              go_ret
              exact ⟨by first | rfl | (simp [errW_none, errW_some] <;> rfl) | (simp only [← hji17]; first | rfl | (simp [errW_none, errW_some] <;> rfl)) | (simp [*, errW_none, errW_some] <;> rfl), bf_ HB⟩
            ·rw [if_neg c141] at H
             have c141b0 : (x10_31 == 0) = false := beq_eq_false_iff_ne.mpr c141
             have c141b1 : (x10_31 != 0) = true := bne_iff_ne.mpr c141
             replace H := Option.bind_eq_some_iff.mp H
             obtain ⟨t425, A1700, H⟩ := H
             have A170 := Aside0.mk A1700
             clear A1700
             by_cases c171 : t425 = true
             ·subst c171
              rw [if_pos rfl] at H
              by_cases c172 : (x377000_31.length : Int) = (x4_31.length : Int)
              ·rw [if_pos c172] at H
               have c172b0 : ((x377000_31.length : Int) == (x4_31.length : Int)) = true := beq_iff_eq.mpr c172
               have c172b1 : ((x377000_31.length : Int) != (x4_31.length : Int)) = false := bne_eq_false_iff_eq.mpr c172
               have c172b2 : (x377000_31.length == x4_31.length) = true := by first | simpa using c172 | (simp at c172 ⊢; omega)
               clear c172
               have H' := Aside0.mk H
               clear H; have hnb173 := NB376_387.out; have hnc173 := NB387_376.out; have hnb174 := NB376_389.out; have hnc174 := NB389_376.out; obtain ⟨hcz175_0, hfz175_0⟩ := bz1_ BK376
               obtain ⟨Ao176, co176, eo176⟩ := Kd.R_slice HO_377000.out
               subst eo176
               go_wp2_with (first | ((with_reducible refine gc_ 40 rfl ?_); refine gl_ 140 Try.func40 #[.agg #[.slice Ao176 x377000_31.length co176]] ?_; (with_reducible refine (spec_HeapOk.calls kj31 _ _ x377000_31 true _ ?side1 ?side2 A170.out).mono ?_); (case side1 => exact cr_ HO_377000); (case side2 => exact (Kd.R_reads' HO_377000.out).2.1); rintro e w177 ⟨rfl, hb⟩; refine ⟨_, rfl, ?_⟩; replace HO_4 := Aside0.mk (Kd.R_below (kr_ HO_4) hb); replace HO_377000 := Aside0.mk (Kd.R_below (kr_ HO_377000) hb); replace HO_390000 := Aside0.mk (Kd.R_below (kr_ HO_390000) hb); replace BK376 := bb_ BK376 hb; replace BK387 := bb_ BK387 hb; replace BK389 := bb_ BK389 hb; replace HB := Aside0.mk (below_step (bf_ HB) hb); (try clear hb); (try clear hb2); (try clear hk); (try clear hi); obtain ⟨hcz178_0, hfz178_0⟩ := bz1_ BK376; obtain ⟨Ao179, co179, eo179⟩ := Kd.R_slice HO_4.out; subst eo179))
               go_roundg kj31
               case measure => have := HK1.out; have := HK2.out; have := HJ31.out; omega
               case rel => exact ⟨(x4_31), (wrap64 (x5_1 + 1)), (x377000_31), (.slice Ao176 x377000_31.length co176), (by first | rfl | (simp; done) | (simp [*]; done)), H', ⟨by have := HK1.out; have := HK2.out; have := HJ31.out; omega⟩, ⟨by (with_reducible repeat (first | apply Kd.R_alloc | apply Kd.R_drewN | apply Kd.R_drew)); exact Kd.R_mono HO_4.out (fun _ hk => by first | exact hk.1 | grind)⟩, ⟨by (with_reducible repeat (first | apply Kd.R_alloc | apply Kd.R_drewN | apply Kd.R_drew)); exact Kd.R_mono HO_377000.out (fun _ hk => by first | exact hk.1 | grind)⟩, ⟨bk_ BK376⟩, ⟨bf_ HB⟩⟩
              ·rw [if_neg c172] at H
               have c172b0 : ((x377000_31.length : Int) == (x4_31.length : Int)) = false := beq_eq_false_iff_ne.mpr c172
               have c172b1 : ((x377000_31.length : Int) != (x4_31.length : Int)) = true := bne_iff_ne.mpr c172
               have c172b2 : (x377000_31.length == x4_31.length) = false := by first | simpa using c172 | (simp at c172 ⊢; omega)
               obtain rfl := Option.some.inj H
               have hnb180 := NB376_387.out; have hnc180 := NB387_376.out; have hnb181 := NB376_389.out; have hnc181 := NB389_376.out; obtain ⟨hcz182_0, hfz182_0⟩ := bz1_ BK376
               obtain ⟨Ao183, co183, eo183⟩ := Kd.R_slice HO_377000.out
               subst eo183
               go_wp2_with (first | ((with_reducible refine gc_ 40 rfl ?_); refine gl_ 140 Try.func40 #[.agg #[.slice Ao183 x377000_31.length co183]] ?_; (with_reducible refine (spec_HeapOk.calls kj31 _ _ x377000_31 true _ ?side1 ?side2 A170.out).mono ?_); (case side1 => exact cr_ HO_377000); (case side2 => exact (Kd.R_reads' HO_377000.out).2.1); rintro e w184 ⟨rfl, hb⟩; refine ⟨_, rfl, ?_⟩; replace HO_4 := Aside0.mk (Kd.R_below (kr_ HO_4) hb); replace HO_377000 := Aside0.mk (Kd.R_below (kr_ HO_377000) hb); replace HO_390000 := Aside0.mk (Kd.R_below (kr_ HO_390000) hb); replace BK376 := bb_ BK376 hb; replace BK387 := bb_ BK387 hb; replace BK389 := bb_ BK389 hb; replace HB := Aside0.mk (below_step (bf_ HB) hb); (try clear hb); (try clear hb2); (try clear hk); (try clear hi); obtain ⟨hcz185_0, hfz185_0⟩ := bz1_ BK376; obtain ⟨Ao186, co186, eo186⟩ := Kd.R_slice HO_4.out; subst eo186))
               go_ret
               exact ⟨by first | rfl | (simp [errW_none, errW_some] <;> rfl) | (simp only [← hji17]; first | rfl | (simp [errW_none, errW_some] <;> rfl)) | (simp [*, errW_none, errW_some] <;> rfl), bf_ HB⟩
             ·replace c171 := Bool.eq_false_iff.mpr c171
              subst c171
              rw [if_neg (show ¬ (false = true) by decide)] at H
              obtain rfl := Option.some.inj H
              have hnb187 := NB376_387.out; have hnc187 := NB387_376.out; have hnb188 := NB376_389.out; have hnc188 := NB389_376.out; obtain ⟨hcz189_0, hfz189_0⟩ := bz1_ BK376
              obtain ⟨Ao190, co190, eo190⟩ := Kd.R_slice HO_377000.out
              subst eo190
              go_wp2_with (first | ((with_reducible refine gc_ 40 rfl ?_); refine gl_ 140 Try.func40 #[.agg #[.slice Ao190 x377000_31.length co190]] ?_; (with_reducible refine (spec_HeapOk.calls kj31 _ _ x377000_31 false _ ?side1 ?side2 A170.out).mono ?_); (case side1 => exact cr_ HO_377000); (case side2 => exact (Kd.R_reads' HO_377000.out).2.1); rintro e w191 ⟨rfl, hb⟩; refine ⟨_, rfl, ?_⟩; replace HO_4 := Aside0.mk (Kd.R_below (kr_ HO_4) hb); replace HO_377000 := Aside0.mk (Kd.R_below (kr_ HO_377000) hb); replace HO_390000 := Aside0.mk (Kd.R_below (kr_ HO_390000) hb); replace BK376 := bb_ BK376 hb; replace BK387 := bb_ BK387 hb; replace BK389 := bb_ BK389 hb; replace HB := Aside0.mk (below_step (bf_ HB) hb); (try clear hb); (try clear hb2); (try clear hk); (try clear hi)))
              go_ret
              exact ⟨by first | rfl | (simp [errW_none, errW_some] <;> rfl) | (simp only [← hji17]; first | rfl | (simp [errW_none, errW_some] <;> rfl)) | (simp [*, errW_none, errW_some] <;> rfl), bf_ HB⟩
      ·as_aux_lemma =>
       rw [if_neg c18] at H
       have c18b0 : decide (x5_1 < (ji17)) = false := decide_eq_false c18
       clear c18
       have H' := Aside0.mk H
       clear H
       go_wp2
       go_loopg [11] k1 (fun kq v11 w' => ∃ (x11_2 : Int), v11 = .int .i64 x11_2 ∧ Aside0 (laws_FnHeapBook.l2 kq x4_1 x11_2 x377000_1 = some r) ∧ Aside0 (kq ≤ k1) ∧ Aside0 (Kd.R k68 68 w' w.heap.size (fun k_ => some k_ ≠ (u377000 : Value).ownBlock) u4 x4_1) ∧ Aside0 (Kd.R k68 68 w' w.heap.size (fun k_ => some k_ ≠ (u4 : Value).ownBlock) u377000 x377000_1) ∧ Aside0 (w'.heap[gb376]? = some (.cells #[u377000] 29 (0, 0))) ∧ Aside0 (Below w.heap.size w w'))
       case atStart => exact ⟨(0), (by first | rfl | (simp; done) | (simp [*]; done)), H', ⟨Nat.le_refl _⟩, ⟨kr_ HO_4⟩, ⟨kr_ HO_377000⟩, ⟨bk_ BK376⟩, ⟨bf_ HB⟩⟩
       case round =>
        clear H'
        (try clear c1); (try clear q1 q1); (try clear p2 p2); (try clear c3); (try clear c4); (try clear c5); (try clear c6); (try clear p6 p6); (try clear c7); (try clear p7 p7); (try clear q7 q7); (try clear hx7); (try clear hf7); (try clear c8); (try clear hx8); (try clear hf8); (try clear c9); (try clear c10); (try clear c11); (try clear c12); (try clear q12 q12); (try clear c13); (try clear c14); (try clear c15); (try clear c16); (try clear c17); (try clear c18); (try clear c18b0); (try clear c36); (try clear c40); (try clear c43); (try clear c44); (try clear c57); (try clear c57b0); (try clear c57b1); (try clear c58); (try clear c59); (try clear c60); (try clear c63); (try clear c63b0); (try clear c63b1); (try clear p64 p64); (try clear c65); (try clear c65b0); (try clear c65b1); (try clear c65b2); (try clear c66); (try clear c67); (try clear c69); (try clear c74); (try clear c74b0); (try clear c75); (try clear c75b0); (try clear c76); (try clear c76b0); (try clear c77); (try clear p77 p77); (try clear q77 q77); (try clear hx77); (try clear hf77); (try clear c78); (try clear c79); (try clear c81); (try clear c88); (try clear hx88); (try clear hf88); (try clear c90); (try clear c91); (try clear c93); (try clear c98); (try clear c98b0); (try clear c98b1); (try clear c100); (try clear c100b0); (try clear c100b1); (try clear c100b2); (try clear c101); (try clear c102); (try clear c104); (try clear c109); (try clear c109b0); (try clear c110); (try clear c110b0); (try clear c110b1); (try clear c111); (try clear c111b0); (try clear c111b1); (try clear c112); (try clear c114); (try clear c114b0); (try clear c114b1); (try clear c115); (try clear c115b0); (try clear c115b1); (try clear c116); (try clear c117); (try clear c118); (try clear c120); (try clear q127 q127); (try clear c128); (try clear q128 q128); (try clear c133); (try clear c134); (try clear c136); (try clear c141); (try clear c141b0); (try clear c141b1); (try clear c143); (try clear c144); (try clear c144b0); (try clear c144b1); (try clear c144b2); (try clear c145); (try clear c146); (try clear c149); (try clear c154); (try clear c155); (try clear c158); (try clear c163); (try clear c164); (try clear c167); (try clear c171); (try clear c172); (try clear c172b0); (try clear c172b1); (try clear c172b2); (try clear c173); (try clear c174); (try clear c180); (try clear c181); (try clear c187); (try clear c188); (try clear hcz103_0 hfz103_0); (try clear hcz105_0 hcz105_1 hfz105_0 hfz105_1); (try clear hcz108_0 hfz108_0); (try clear hcz119_0 hfz119_0); (try clear hcz121_0 hcz121_1 hfz121_0 hfz121_1); (try clear hcz124_0 hfz124_0); (try clear hcz135_0 hfz135_0); (try clear hcz137_0 hcz137_1 hfz137_0 hfz137_1); (try clear hcz140_0 hfz140_0); (try clear hcz147_0 hfz147_0); (try clear hcz150_0 hfz150_0); (try clear hcz152_0 hfz152_0); (try clear hcz156_0 hfz156_0); (try clear hcz159_0 hfz159_0); (try clear hcz161_0 hfz161_0); (try clear hcz165_0 hfz165_0); (try clear hcz168_0 hfz168_0); (try clear hcz175_0 hfz175_0); (try clear hcz178_0 hfz178_0); (try clear hcz182_0 hfz182_0); (try clear hcz185_0 hfz185_0); (try clear hcz189_0 hfz189_0); (try clear hcz61_0 hcz61_1 hfz61_0 hfz61_1); (try clear hcz68_0 hfz68_0); (try clear hcz70_0 hcz70_1 hfz70_0 hfz70_1); (try clear hcz73_0 hfz73_0); (try clear hcz80_0 hfz80_0); (try clear hcz82_0 hcz82_1 hfz82_0 hfz82_1); (try clear hcz85_0 hfz85_0); (try clear hcz87_0 hcz87_1 hfz87_0 hfz87_1); (try clear hcz92_0 hfz92_0); (try clear hcz94_0 hcz94_1 hfz94_0 hfz94_1); (try clear hcz97_0 hfz97_0); (try clear hx77_0); (try clear hx77_1); (try clear hx88_0); (try clear hx88_1); (try clear q0128)
        obtain ⟨x11_2, rfl, HA, HK2, HO_4, HO_377000, BK376, HB⟩ := hrel
        cases gk with
        | zero => exact absurd HA.out (by simp [laws_FnHeapBook.l2])
        | succ k2 =>
         have H := HA.out
         clear HA
         simp only [laws_FnHeapBook.l2] at H
         by_cases c192 : x11_2 < (x4_1.length : Int)
         ·rw [if_pos c192] at H
          have c192b0 : decide (x11_2 < (x4_1.length : Int)) = true := decide_eq_true c192
          clear c192
          by_cases c193 : 0 ≤ x11_2
          ·rw [if_pos c193] at H
           have c193b0 : decide (0 ≤ x11_2) = true := decide_eq_true c193
           clear c193
           replace H := Option.bind_eq_some_iff.mp H
           obtain ⟨t428, A1940, H⟩ := H
           have A194 := Aside0.mk A1940
           clear A1940
           by_cases c195 : t428 < 0
           ·rw [if_pos c195] at H
            have c195b0 : decide (t428 < 0) = true := decide_eq_true c195
            clear c195
            obtain rfl := Option.some.inj H
            obtain ⟨Ao196, co196, eo196⟩ := Kd.R_slice HO_4.out
            subst eo196
            try go_wp2
            replace HO_4 := Aside0.mk (Kd.R_drew HO_4.out); replace HO_377000 := Aside0.mk (Kd.R_drew HO_377000.out); replace BK376 := Aside0.mk (blk_drew BK376.out); replace HB := Aside0.mk (below_drew1 HB.out)
            have p427 : 0 ≤ (x11_2 : Int) := od_
            have q427 : x11_2 < (x4_1.length : Int) := od_
            obtain ⟨ad427, e427, hx427_0, hx427_1⟩ := at_T68 (Kd.R_reads' HO_4.out).2.2 x11_2 p427 q427
            cases e427
            replace p427 := eq_true p427
            replace q427 := eq_true q427
            obtain ⟨Ao198, co198, eo198⟩ := Kd.R_slice HO_377000.out
            (first | subst eo198 | (injection eo198 with f1_ f2_ f3_; have f4_ := f1_.symm; have f5_ := f3_.symm; clear f1_ f2_ f3_; subst f4_; subst f5_))
            refine start_ (n := 8) (S := fun w' => cw_ w' gb376 0 (.slice Ao198 x377000_1.length co198) ∧ w'.cell? (ad427.add ((x11_2).toNat * 2)) = some (.int .i64 ((rd_T68 x4_1 x11_2).f0)) ∧ w'.cell? ⟨(ad427.add ((x11_2).toNat * 2)).block, (ad427.add ((x11_2).toNat * 2)).off + 1, none⟩ = some (.int .i64 ((rd_T68 x4_1 x11_2).f1))) (ds := []) (bs 8 0) (by kernel_rfl) rfl rfl ⟨bt_ BK376 0, hx427_0, hx427_1⟩ (fun hHeld => ?_); refine with_tabW laws_FnHeapBook.tab46 laws_FnHeapBook.bits46 (fun HT_ HW_ => ?_)
            generalize wr.drew = w197 at HO_4 HO_377000 BK376 HB hx427_0 hx427_1 hHeld ⊢
            refine ps_ 1 157 (bm 8 2) HT_ ?_
            refine ps_ 2 158 (bm 8 6) HT_ ?_
            refine ps_ 3 159 (bm 8 14) HT_ ?_
            refine ps_ 4 160 (bm 8 30) HT_ ?_
            refine tk_ 0 156 (bs 8 5) HT_ HW_ hHeld ?_
            refine tkn_ HT_ HW_ hHeld ?_
            refine on_ 6 (some 162) (bs 8 7) HT_ (fun K hK => ?_)
            refine gs_ Try.func45 #[.agg #[.slice Ao198 x377000_1.length co198], .int .i64 ((rd_T68 x4_1 x11_2).f1)] ?_
            with_reducible refine (impl_HeapPlace.calls k2 _ _ x377000_1 ((rd_T68 x4_1 x11_2).f1) t428 _ ?side1 ?side2 A194.out).mono ?_
            (case side1 => exact cr_ HO_377000)
            (case side2 => exact (Kd.R_reads' HO_377000.out).2.1)
            rintro e w199 ⟨rfl, hb⟩
            have HS1_ := hc_ hb hHeld.2.1
            have HS2_ := hc_ hb hHeld.2.2
            refine ⟨_, rfl, ?_⟩
            replace HO_4 := Aside0.mk (Kd.R_below (kr_ HO_4) hb); replace HO_377000 := Aside0.mk (Kd.R_below (kr_ HO_377000) hb); replace BK376 := bb_ BK376 hb; replace HB := Aside0.mk (below_step (bf_ HB) hb); (try clear hb); (try clear hb2); (try clear hk); (try clear hi)
            refine hK.out _ _ ⟨bt_ BK376 0, HS1_, HS2_⟩ (fun hHeld => ?_)
            clear hK K
            refine norm_ (a' := ?_) ?_ ?_
            rotate_left
            ·show Act.put _ (some 162) _ = _
             simp only [Act.put, ls0_, ls1_, ls2_, i64_w, i32_w]
             rfl
            refine psn_ HT_ ?_
            refine done_ (done_of HT_.out (by kernel_rfl)) ?_
            try go_wp2
            replace HO_4 := Aside0.mk (Kd.R_drew HO_4.out); replace HO_377000 := Aside0.mk (Kd.R_drew HO_377000.out); replace BK376 := Aside0.mk (blk_drew BK376.out); replace HB := Aside0.mk (below_drew1 HB.out)
            refine start_ (n := 32) (S := fun w' => True) (ds := []) (bs 32 0) (by kernel_rfl) rfl rfl trivial (fun hHeld => ?_); refine with_tabW laws_FnHeapBook.tab47 laws_FnHeapBook.bits47 (fun HT_ HW_ => ?_)
            generalize w199.drew = w200 at HO_4 HO_377000 BK376 HB hHeld ⊢
            iterate 3 (refine psn_ HT_ ?_)
            iterate 5 (refine pun_ HT_ ?_)
            iterate 2 (refine psn_ HT_ ?_)
            iterate 10 (refine pun_ HT_ ?_)
            iterate 2 (refine psn_ HT_ ?_)
            iterate 9 (refine pun_ HT_ ?_)
            refine psn_ HT_ ?_
            refine done_ (done_of HT_.out (by kernel_rfl)) ?_
            try go_wp2
            go_ret
            exact ⟨by first | rfl | (simp [errW_none, errW_some] <;> rfl) | (simp only [← hji17]; first | rfl | (simp [errW_none, errW_some] <;> rfl)) | (simp [*, errW_none, errW_some] <;> rfl), bf_ HB⟩
           ·rw [if_neg c195] at H
            have c195b0 : decide (t428 < 0) = false := decide_eq_false c195
            clear c195
            by_cases c201 : t428 ≥ (x377000_1.length : Int)
            ·rw [if_pos c201] at H
             have c201b0 : decide ((x377000_1.length : Int) ≤ t428) = true := decide_eq_true c201
             clear c201
             obtain rfl := Option.some.inj H
             obtain ⟨Ao202, co202, eo202⟩ := Kd.R_slice HO_4.out
             subst eo202
             try go_wp2
             replace HO_4 := Aside0.mk (Kd.R_drew HO_4.out); replace HO_377000 := Aside0.mk (Kd.R_drew HO_377000.out); replace BK376 := Aside0.mk (blk_drew BK376.out); replace HB := Aside0.mk (below_drew1 HB.out)
             have p427 : 0 ≤ (x11_2 : Int) := od_
             have q427 : x11_2 < (x4_1.length : Int) := od_
             obtain ⟨ad427, e427, hx427_0, hx427_1⟩ := at_T68 (Kd.R_reads' HO_4.out).2.2 x11_2 p427 q427
             cases e427
             replace p427 := eq_true p427
             replace q427 := eq_true q427
             obtain ⟨Ao204, co204, eo204⟩ := Kd.R_slice HO_377000.out
             (first | subst eo204 | (injection eo204 with f1_ f2_ f3_; have f4_ := f1_.symm; have f5_ := f3_.symm; clear f1_ f2_ f3_; subst f4_; subst f5_))
             refine start_ (n := 8) (S := fun w' => cw_ w' gb376 0 (.slice Ao204 x377000_1.length co204) ∧ w'.cell? (ad427.add ((x11_2).toNat * 2)) = some (.int .i64 ((rd_T68 x4_1 x11_2).f0)) ∧ w'.cell? ⟨(ad427.add ((x11_2).toNat * 2)).block, (ad427.add ((x11_2).toNat * 2)).off + 1, none⟩ = some (.int .i64 ((rd_T68 x4_1 x11_2).f1))) (ds := []) (bs 8 0) (by kernel_rfl) rfl rfl ⟨bt_ BK376 0, hx427_0, hx427_1⟩ (fun hHeld => ?_); refine with_tabW laws_FnHeapBook.tab46 laws_FnHeapBook.bits46 (fun HT_ HW_ => ?_)
             generalize wr.drew = w203 at HO_4 HO_377000 BK376 HB hx427_0 hx427_1 hHeld ⊢
             refine ps_ 1 157 (bm 8 2) HT_ ?_
             refine ps_ 2 158 (bm 8 6) HT_ ?_
             refine ps_ 3 159 (bm 8 14) HT_ ?_
             refine ps_ 4 160 (bm 8 30) HT_ ?_
             refine tk_ 0 156 (bs 8 5) HT_ HW_ hHeld ?_
             refine tkn_ HT_ HW_ hHeld ?_
             refine on_ 6 (some 162) (bs 8 7) HT_ (fun K hK => ?_)
             refine gs_ Try.func45 #[.agg #[.slice Ao204 x377000_1.length co204], .int .i64 ((rd_T68 x4_1 x11_2).f1)] ?_
             with_reducible refine (impl_HeapPlace.calls k2 _ _ x377000_1 ((rd_T68 x4_1 x11_2).f1) t428 _ ?side1 ?side2 A194.out).mono ?_
             (case side1 => exact cr_ HO_377000)
             (case side2 => exact (Kd.R_reads' HO_377000.out).2.1)
             rintro e w205 ⟨rfl, hb⟩
             have HS1_ := hc_ hb hHeld.2.1
             have HS2_ := hc_ hb hHeld.2.2
             refine ⟨_, rfl, ?_⟩
             replace HO_4 := Aside0.mk (Kd.R_below (kr_ HO_4) hb); replace HO_377000 := Aside0.mk (Kd.R_below (kr_ HO_377000) hb); replace BK376 := bb_ BK376 hb; replace HB := Aside0.mk (below_step (bf_ HB) hb); (try clear hb); (try clear hb2); (try clear hk); (try clear hi)
             refine hK.out _ _ ⟨bt_ BK376 0, HS1_, HS2_⟩ (fun hHeld => ?_)
             clear hK K
             refine norm_ (a' := ?_) ?_ ?_
             rotate_left
             ·show Act.put _ (some 162) _ = _
              simp only [Act.put, ls0_, ls1_, ls2_, i64_w, i32_w]
              rfl
             refine psn_ HT_ ?_
             refine done_ (done_of HT_.out (by kernel_rfl)) ?_
             try go_wp2
             replace HO_4 := Aside0.mk (Kd.R_drew HO_4.out); replace HO_377000 := Aside0.mk (Kd.R_drew HO_377000.out); replace BK376 := Aside0.mk (blk_drew BK376.out); replace HB := Aside0.mk (below_drew1 HB.out)
             refine start_ (n := 32) (S := fun w' => cw_ w' gb376 0 (.slice Ao204 x377000_1.length co204)) (ds := []) (bs 32 0) (by kernel_rfl) rfl rfl ((blk_cell BK376.out 0).trans rfl) (fun hHeld => ?_); refine with_tabW laws_FnHeapBook.tab47 laws_FnHeapBook.bits47 (fun HT_ HW_ => ?_)
             generalize w205.drew = w206 at HO_4 HO_377000 BK376 HB hHeld ⊢
             iterate 5 (refine psn_ HT_ ?_)
             refine tkn_ HT_ HW_ hHeld ?_
             iterate 4 (refine psn_ HT_ ?_)
             iterate 10 (refine pun_ HT_ ?_)
             iterate 2 (refine psn_ HT_ ?_)
             iterate 9 (refine pun_ HT_ ?_)
             refine psn_ HT_ ?_
             refine done_ (done_of HT_.out (by kernel_rfl)) ?_
             try go_wp2
             go_ret
             exact ⟨by first | rfl | (simp [errW_none, errW_some] <;> rfl) | (simp only [← hji17]; first | rfl | (simp [errW_none, errW_some] <;> rfl)) | (simp [*, errW_none, errW_some] <;> rfl), bf_ HB⟩
            ·rw [if_neg c201] at H
             have c201b0 : decide ((x377000_1.length : Int) ≤ t428) = false := decide_eq_false c201
             clear c201
             by_cases c207 : 0 ≤ t428
             ·rw [if_pos c207] at H
              have c207b0 : decide (0 ≤ t428) = true := decide_eq_true c207
              clear c207
              by_cases c208 : t428 < (x377000_1.length : Int)
              ·rw [if_pos c208] at H
               have c208b0 : decide (t428 < (x377000_1.length : Int)) = true := decide_eq_true c208
               clear c208
               by_cases c209 : (!(((rd_T68 x377000_1 t428).f0) == ((rd_T68 x4_1 x11_2).f0)) || (!(((rd_T68 x377000_1 t428).f1) == ((rd_T68 x4_1 x11_2).f1)))) = true
               ·rw [if_pos c209] at H
                have c209b0 : (!(((rd_T68 x377000_1 t428).f0) == ((rd_T68 x4_1 x11_2).f0)) || (!(((rd_T68 x377000_1 t428).f1) == ((rd_T68 x4_1 x11_2).f1)))) = true := c209
                clear c209
                obtain rfl := Option.some.inj H
                obtain ⟨Ao210, co210, eo210⟩ := Kd.R_slice HO_4.out
                subst eo210
                try go_wp2
                replace HO_4 := Aside0.mk (Kd.R_drew HO_4.out); replace HO_377000 := Aside0.mk (Kd.R_drew HO_377000.out); replace BK376 := Aside0.mk (blk_drew BK376.out); replace HB := Aside0.mk (below_drew1 HB.out)
                have p427 : 0 ≤ (x11_2 : Int) := od_
                have q427 : x11_2 < (x4_1.length : Int) := od_
                obtain ⟨ad427, e427, hx427_0, hx427_1⟩ := at_T68 (Kd.R_reads' HO_4.out).2.2 x11_2 p427 q427
                cases e427
                replace p427 := eq_true p427
                replace q427 := eq_true q427
                obtain ⟨Ao212, co212, eo212⟩ := Kd.R_slice HO_377000.out
                (first | subst eo212 | (injection eo212 with f1_ f2_ f3_; have f4_ := f1_.symm; have f5_ := f3_.symm; clear f1_ f2_ f3_; subst f4_; subst f5_))
                refine start_ (n := 8) (S := fun w' => cw_ w' gb376 0 (.slice Ao212 x377000_1.length co212) ∧ w'.cell? (ad427.add ((x11_2).toNat * 2)) = some (.int .i64 ((rd_T68 x4_1 x11_2).f0)) ∧ w'.cell? ⟨(ad427.add ((x11_2).toNat * 2)).block, (ad427.add ((x11_2).toNat * 2)).off + 1, none⟩ = some (.int .i64 ((rd_T68 x4_1 x11_2).f1))) (ds := []) (bs 8 0) (by kernel_rfl) rfl rfl ⟨bt_ BK376 0, hx427_0, hx427_1⟩ (fun hHeld => ?_); refine with_tabW laws_FnHeapBook.tab46 laws_FnHeapBook.bits46 (fun HT_ HW_ => ?_)
                generalize wr.drew = w211 at HO_4 HO_377000 BK376 HB hx427_0 hx427_1 hHeld ⊢
                refine ps_ 1 157 (bm 8 2) HT_ ?_
                refine ps_ 2 158 (bm 8 6) HT_ ?_
                refine ps_ 3 159 (bm 8 14) HT_ ?_
                refine ps_ 4 160 (bm 8 30) HT_ ?_
                refine tk_ 0 156 (bs 8 5) HT_ HW_ hHeld ?_
                refine tkn_ HT_ HW_ hHeld ?_
                refine on_ 6 (some 162) (bs 8 7) HT_ (fun K hK => ?_)
                refine gs_ Try.func45 #[.agg #[.slice Ao212 x377000_1.length co212], .int .i64 ((rd_T68 x4_1 x11_2).f1)] ?_
                with_reducible refine (impl_HeapPlace.calls k2 _ _ x377000_1 ((rd_T68 x4_1 x11_2).f1) t428 _ ?side1 ?side2 A194.out).mono ?_
                (case side1 => exact cr_ HO_377000)
                (case side2 => exact (Kd.R_reads' HO_377000.out).2.1)
                rintro e w213 ⟨rfl, hb⟩
                have HS1_ := hc_ hb hHeld.2.1
                have HS2_ := hc_ hb hHeld.2.2
                refine ⟨_, rfl, ?_⟩
                replace HO_4 := Aside0.mk (Kd.R_below (kr_ HO_4) hb); replace HO_377000 := Aside0.mk (Kd.R_below (kr_ HO_377000) hb); replace BK376 := bb_ BK376 hb; replace HB := Aside0.mk (below_step (bf_ HB) hb); (try clear hb); (try clear hb2); (try clear hk); (try clear hi)
                refine hK.out _ _ ⟨bt_ BK376 0, HS1_, HS2_⟩ (fun hHeld => ?_)
                clear hK K
                refine norm_ (a' := ?_) ?_ ?_
                rotate_left
                ·show Act.put _ (some 162) _ = _
                 simp only [Act.put, ls0_, ls1_, ls2_, i64_w, i32_w]
                 rfl
                refine psn_ HT_ ?_
                refine done_ (done_of HT_.out (by kernel_rfl)) ?_
                try go_wp2
                replace HO_4 := Aside0.mk (Kd.R_drew HO_4.out); replace HO_377000 := Aside0.mk (Kd.R_drew HO_377000.out); replace BK376 := Aside0.mk (blk_drew BK376.out); replace HB := Aside0.mk (below_drew1 HB.out)
                have p429 : 0 ≤ (t428 : Int) := od_
                have q429 : t428 < (x377000_1.length : Int) := od_
                obtain ⟨ad429, e429, hx429_0, hx429_1⟩ := at_T68 (Kd.R_reads' HO_377000.out).2.2 t428 p429 q429
                cases e429
                replace p429 := eq_true p429
                replace q429 := eq_true q429
                have p430 : 0 ≤ (x11_2 : Int) := od_
                have q430 : x11_2 < (x4_1.length : Int) := od_
                obtain ⟨ad430, e430, hx430_0, hx430_1⟩ := at_T68 (Kd.R_reads' HO_4.out).2.2 x11_2 p430 q430
                obtain rfl : ad427 = ad430 := (by injection e430)
                replace p430 := eq_true p430
                replace q430 := eq_true q430
                refine start_ (n := 32) (S := fun w' => cw_ w' gb376 0 (.slice (some ad429) x377000_1.length co212) ∧ w'.cell? (ad429.add ((t428).toNat * 2)) = some (.int .i64 ((rd_T68 x377000_1 t428).f0)) ∧ w'.cell? ⟨(ad429.add ((t428).toNat * 2)).block, (ad429.add ((t428).toNat * 2)).off + 1, none⟩ = some (.int .i64 ((rd_T68 x377000_1 t428).f1)) ∧ w'.cell? (ad427.add ((x11_2).toNat * 2)) = some (.int .i64 ((rd_T68 x4_1 x11_2).f0)) ∧ w'.cell? ⟨(ad427.add ((x11_2).toNat * 2)).block, (ad427.add ((x11_2).toNat * 2)).off + 1, none⟩ = some (.int .i64 ((rd_T68 x4_1 x11_2).f1))) (ds := []) (bs 32 0) (by kernel_rfl) rfl rfl ⟨bt_ BK376 0, hx429_0, hx429_1, hx430_0, hx430_1⟩ (fun hHeld => ?_); refine with_tabW laws_FnHeapBook.tab47 laws_FnHeapBook.bits47 (fun HT_ HW_ => ?_)
                generalize w213.drew = w214 at HO_4 HO_377000 BK376 HB hx429_0 hx429_1 hx430_0 hx430_1 hHeld ⊢
                iterate 5 (refine psn_ HT_ ?_)
                refine tkn_ HT_ HW_ hHeld ?_
                iterate 5 (refine psn_ HT_ ?_)
                refine ps_ 12 175 (bm 32 6143) HT_ ?_
                refine ps_ 15 178 (bm 32 38911) HT_ ?_
                refine ps_ 16 179 (bm 32 104447) HT_ ?_
                refine ps_ 17 180 (bm 32 235519) HT_ ?_
                refine tk_ 11 174 (bm 32 237567) HT_ HW_ hHeld ?_
                refine ps_ 13 176 (bm 32 245759) HT_ ?_
                refine tk_ 14 177 (bs 32 18) HT_ HW_ hHeld ?_
                refine tkn_ HT_ HW_ hHeld ?_
                iterate 3 (refine psn_ HT_ ?_)
                iterate 9 (refine pun_ HT_ ?_)
                refine psn_ HT_ ?_
                refine done_ (done_of HT_.out (by kernel_rfl)) ?_
                try go_wp2
                go_ret
                exact ⟨by first | rfl | (simp [errW_none, errW_some] <;> rfl) | (simp only [← hji17]; first | rfl | (simp [errW_none, errW_some] <;> rfl)) | (simp [*, errW_none, errW_some] <;> rfl), bf_ HB⟩
               ·rw [if_neg c209] at H
                have c209b0 : (!(((rd_T68 x377000_1 t428).f0) == ((rd_T68 x4_1 x11_2).f0)) || (!(((rd_T68 x377000_1 t428).f1) == ((rd_T68 x4_1 x11_2).f1)))) = false := by simpa using c209
                clear c209
                by_cases c215 : 0 < (x377000_1.length : Int)
                ·rw [if_pos c215] at H
                 have c215b0 : decide (0 < (x377000_1.length : Int)) = true := decide_eq_true c215
                 have c215b1 : decide (0 < x377000_1.length) = true := decide_eq_true (by omega)
                 clear c215
                 replace H := Option.bind_eq_some_iff.mp H
                 obtain ⟨t433, A2160, H⟩ := H
                 have A216 := Aside0.mk A2160
                 clear A2160
                 by_cases c217 : t433 = true
                 ·subst c217
                  rw [if_pos rfl] at H
                  obtain rfl := Option.some.inj H
                  obtain ⟨Ao218, co218, eo218⟩ := Kd.R_slice HO_4.out
                  subst eo218
                  try go_wp2
                  replace HO_4 := Aside0.mk (Kd.R_drew HO_4.out); replace HO_377000 := Aside0.mk (Kd.R_drew HO_377000.out); replace BK376 := Aside0.mk (blk_drew BK376.out); replace HB := Aside0.mk (below_drew1 HB.out)
                  have p427 : 0 ≤ (x11_2 : Int) := od_
                  have q427 : x11_2 < (x4_1.length : Int) := od_
                  obtain ⟨ad427, e427, hx427_0, hx427_1⟩ := at_T68 (Kd.R_reads' HO_4.out).2.2 x11_2 p427 q427
                  cases e427
                  replace p427 := eq_true p427
                  replace q427 := eq_true q427
                  obtain ⟨Ao220, co220, eo220⟩ := Kd.R_slice HO_377000.out
                  (first | subst eo220 | (injection eo220 with f1_ f2_ f3_; have f4_ := f1_.symm; have f5_ := f3_.symm; clear f1_ f2_ f3_; subst f4_; subst f5_))
                  refine start_ (n := 8) (S := fun w' => cw_ w' gb376 0 (.slice Ao220 x377000_1.length co220) ∧ w'.cell? (ad427.add ((x11_2).toNat * 2)) = some (.int .i64 ((rd_T68 x4_1 x11_2).f0)) ∧ w'.cell? ⟨(ad427.add ((x11_2).toNat * 2)).block, (ad427.add ((x11_2).toNat * 2)).off + 1, none⟩ = some (.int .i64 ((rd_T68 x4_1 x11_2).f1))) (ds := []) (bs 8 0) (by kernel_rfl) rfl rfl ⟨bt_ BK376 0, hx427_0, hx427_1⟩ (fun hHeld => ?_); refine with_tabW laws_FnHeapBook.tab46 laws_FnHeapBook.bits46 (fun HT_ HW_ => ?_)
                  generalize wr.drew = w219 at HO_4 HO_377000 BK376 HB hx427_0 hx427_1 hHeld ⊢
                  refine ps_ 1 157 (bm 8 2) HT_ ?_
                  refine ps_ 2 158 (bm 8 6) HT_ ?_
                  refine ps_ 3 159 (bm 8 14) HT_ ?_
                  refine ps_ 4 160 (bm 8 30) HT_ ?_
                  refine tk_ 0 156 (bs 8 5) HT_ HW_ hHeld ?_
                  refine tkn_ HT_ HW_ hHeld ?_
                  refine on_ 6 (some 162) (bs 8 7) HT_ (fun K hK => ?_)
                  refine gs_ Try.func45 #[.agg #[.slice Ao220 x377000_1.length co220], .int .i64 ((rd_T68 x4_1 x11_2).f1)] ?_
                  with_reducible refine (impl_HeapPlace.calls k2 _ _ x377000_1 ((rd_T68 x4_1 x11_2).f1) t428 _ ?side1 ?side2 A194.out).mono ?_
                  (case side1 => exact cr_ HO_377000)
                  (case side2 => exact (Kd.R_reads' HO_377000.out).2.1)
                  rintro e w221 ⟨rfl, hb⟩
                  have HS1_ := hc_ hb hHeld.2.1
                  have HS2_ := hc_ hb hHeld.2.2
                  refine ⟨_, rfl, ?_⟩
                  replace HO_4 := Aside0.mk (Kd.R_below (kr_ HO_4) hb); replace HO_377000 := Aside0.mk (Kd.R_below (kr_ HO_377000) hb); replace BK376 := bb_ BK376 hb; replace HB := Aside0.mk (below_step (bf_ HB) hb); (try clear hb); (try clear hb2); (try clear hk); (try clear hi)
                  refine hK.out _ _ ⟨bt_ BK376 0, HS1_, HS2_⟩ (fun hHeld => ?_)
                  clear hK K
                  refine norm_ (a' := ?_) ?_ ?_
                  rotate_left
                  ·show Act.put _ (some 162) _ = _
                   simp only [Act.put, ls0_, ls1_, ls2_, i64_w, i32_w]
                   rfl
                  refine psn_ HT_ ?_
                  refine done_ (done_of HT_.out (by kernel_rfl)) ?_
                  try go_wp2
                  replace HO_4 := Aside0.mk (Kd.R_drew HO_4.out); replace HO_377000 := Aside0.mk (Kd.R_drew HO_377000.out); replace BK376 := Aside0.mk (blk_drew BK376.out); replace HB := Aside0.mk (below_drew1 HB.out)
                  have p429 : 0 ≤ (t428 : Int) := od_
                  have q429 : t428 < (x377000_1.length : Int) := od_
                  obtain ⟨ad429, e429, hx429_0, hx429_1⟩ := at_T68 (Kd.R_reads' HO_377000.out).2.2 t428 p429 q429
                  cases e429
                  replace p429 := eq_true p429
                  replace q429 := eq_true q429
                  have p430 : 0 ≤ (x11_2 : Int) := od_
                  have q430 : x11_2 < (x4_1.length : Int) := od_
                  obtain ⟨ad430, e430, hx430_0, hx430_1⟩ := at_T68 (Kd.R_reads' HO_4.out).2.2 x11_2 p430 q430
                  obtain rfl : ad427 = ad430 := (by injection e430)
                  replace p430 := eq_true p430
                  replace q430 := eq_true q430
                  have p431 : 0 ≤ (x11_2 : Int) := od_
                  have q431 : x11_2 < (x4_1.length : Int) := od_
                  obtain ⟨ad431, e431, hx431_0, hx431_1⟩ := at_T68 (Kd.R_reads' HO_4.out).2.2 x11_2 p431 q431
                  obtain rfl : ad427 = ad431 := (by injection e431)
                  replace p431 := eq_true p431
                  replace q431 := eq_true q431
                  have p432 : 0 ≤ (0 : Int) := (by omega)
                  have q432 : 0 < (x377000_1.length : Int) := od_
                  obtain ⟨ad432, e432, hx432_0, hx432_1⟩ := at_T68 (Kd.R_reads' HO_377000.out).2.2 0 p432 q432
                  obtain rfl : ad429 = ad432 := (by injection e432)
                  have qi432 : (0 < x377000_1.length) = True := eq_true (by omega)
                  (try rw [show ((0 : Int)).toNat = 0 from rfl] at hx432_0)
                  (try rw [show 0 * 2 = 0 from rfl] at hx432_0)
                  (try rw [Addr.add_zero'] at hx432_0)
                  (try rw [show ((0 : Int)).toNat = 0 from rfl] at hx432_1)
                  (try rw [show 0 * 2 = 0 from rfl] at hx432_1)
                  (try rw [Addr.add_zero'] at hx432_1)
                  replace p432 := eq_true p432
                  replace q432 := eq_true q432
                  refine start_ (n := 32) (S := fun w' => cw_ w' gb376 0 (.slice (some ad429) x377000_1.length co220) ∧ w'.cell? (ad429.add ((t428).toNat * 2)) = some (.int .i64 ((rd_T68 x377000_1 t428).f0)) ∧ w'.cell? ⟨(ad429.add ((t428).toNat * 2)).block, (ad429.add ((t428).toNat * 2)).off + 1, none⟩ = some (.int .i64 ((rd_T68 x377000_1 t428).f1)) ∧ w'.cell? (ad427.add ((x11_2).toNat * 2)) = some (.int .i64 ((rd_T68 x4_1 x11_2).f0)) ∧ w'.cell? ⟨(ad427.add ((x11_2).toNat * 2)).block, (ad427.add ((x11_2).toNat * 2)).off + 1, none⟩ = some (.int .i64 ((rd_T68 x4_1 x11_2).f1)) ∧ w'.cell? (ad427.add ((x11_2).toNat * 2)) = some (.int .i64 ((rd_T68 x4_1 x11_2).f0)) ∧ w'.cell? ⟨(ad427.add ((x11_2).toNat * 2)).block, (ad427.add ((x11_2).toNat * 2)).off + 1, none⟩ = some (.int .i64 ((rd_T68 x4_1 x11_2).f1)) ∧ w'.cell? ad429 = some (.int .i64 ((rd_T68 x377000_1 0).f0)) ∧ w'.cell? ⟨ad429.block, ad429.off + 1, none⟩ = some (.int .i64 ((rd_T68 x377000_1 0).f1))) (ds := []) (bs 32 0) (by kernel_rfl) rfl rfl ⟨bt_ BK376 0, hx429_0, hx429_1, hx430_0, hx430_1, hx431_0, hx431_1, hx432_0, hx432_1⟩ (fun hHeld => ?_); refine with_tabW laws_FnHeapBook.tab47 laws_FnHeapBook.bits47 (fun HT_ HW_ => ?_)
                  generalize w221.drew = w222 at HO_4 HO_377000 BK376 HB hx429_0 hx429_1 hx430_0 hx430_1 hx431_0 hx431_1 hx432_0 hx432_1 hHeld ⊢
                  iterate 5 (refine psn_ HT_ ?_)
                  refine tkn_ HT_ HW_ hHeld ?_
                  iterate 5 (refine psn_ HT_ ?_)
                  refine ps_ 12 175 (bm 32 6143) HT_ ?_
                  refine ps_ 15 178 (bm 32 38911) HT_ ?_
                  refine ps_ 16 179 (bm 32 104447) HT_ ?_
                  refine ps_ 17 180 (bm 32 235519) HT_ ?_
                  refine tk_ 11 174 (bm 32 237567) HT_ HW_ hHeld ?_
                  refine ps_ 13 176 (bm 32 245759) HT_ ?_
                  refine tk_ 14 177 (bs 32 18) HT_ HW_ hHeld ?_
                  refine tkn_ HT_ HW_ hHeld ?_
                  iterate 6 (refine psn_ HT_ ?_)
                  refine ps_ 26 189 (bm 32 100663295) HT_ ?_
                  refine tk_ 25 188 (bs 32 27) HT_ HW_ hHeld ?_
                  refine tkn_ HT_ HW_ hHeld ?_
                  refine psn_ HT_ ?_
                  refine tkn_ HT_ HW_ hHeld ?_
                  refine on_ 30 (some 193) (bs 32 31) HT_ (fun K hK => ?_)
                  refine gs_ Try.func46 #[.agg #[.int .i64 ((rd_T68 x4_1 x11_2).f0), .int .i64 ((rd_T68 x4_1 x11_2).f1)], .agg #[.int .i64 ((rd_T68 x377000_1 0).f0), .int .i64 ((rd_T68 x377000_1 0).f1)]] ?_
                  with_reducible refine (spec_Ahead.calls ((rd_T68 x4_1 x11_2).f0) ((rd_T68 x4_1 x11_2).f1) ((rd_T68 x377000_1 0).f0) ((rd_T68 x377000_1 0).f1) true _ A216.out).mono ?_
                  rintro e w223 ⟨rfl, hb⟩
                  have HS1_ := hc_ hb hHeld.2.1
                  have HS2_ := hc_ hb hHeld.2.2.1
                  have HS3_ := hc_ hb hHeld.2.2.2.1
                  have HS4_ := hc_ hb hHeld.2.2.2.2.1
                  have HS5_ := hc_ hb hHeld.2.2.2.2.2.1
                  have HS6_ := hc_ hb hHeld.2.2.2.2.2.2.1
                  have HS7_ := hc_ hb hHeld.2.2.2.2.2.2.2.1
                  have HS8_ := hc_ hb hHeld.2.2.2.2.2.2.2.2
                  refine ⟨_, rfl, ?_⟩
                  replace HO_4 := Aside0.mk (Kd.R_below (kr_ HO_4) hb); replace HO_377000 := Aside0.mk (Kd.R_below (kr_ HO_377000) hb); replace BK376 := bb_ BK376 hb; replace HB := Aside0.mk (below_step (bf_ HB) hb); (try clear hb); (try clear hb2); (try clear hk); (try clear hi)
                  refine hK.out _ _ ⟨bt_ BK376 0, HS1_, HS2_, HS3_, HS4_, HS5_, HS6_, HS7_, HS8_⟩ (fun hHeld => ?_)
                  clear hK K
                  refine norm_ (a' := ?_) ?_ ?_
                  rotate_left
                  ·show Act.put _ (some 193) _ = _
                   simp only [Act.put, ls0_, ls1_, ls2_, i64_w, i32_w]
                   rfl
                  refine psn_ HT_ ?_
                  refine done_ (done_of HT_.out (by kernel_rfl)) ?_
                  try go_wp2
                  go_ret
                  exact ⟨by first | rfl | (simp [errW_none, errW_some] <;> rfl) | (simp only [← hji17]; first | rfl | (simp [errW_none, errW_some] <;> rfl)) | (simp [*, errW_none, errW_some] <;> rfl), bf_ HB⟩
                 ·replace c217 := Bool.eq_false_iff.mpr c217
                  subst c217
                  rw [if_neg (show ¬ (false = true) by decide)] at H
                  have H' := Aside0.mk H
                  clear H
                  obtain ⟨Ao224, co224, eo224⟩ := Kd.R_slice HO_4.out
                  subst eo224
                  try go_wp2
                  replace HO_4 := Aside0.mk (Kd.R_drew HO_4.out); replace HO_377000 := Aside0.mk (Kd.R_drew HO_377000.out); replace BK376 := Aside0.mk (blk_drew BK376.out); replace HB := Aside0.mk (below_drew1 HB.out)
                  have p427 : 0 ≤ (x11_2 : Int) := od_
                  have q427 : x11_2 < (x4_1.length : Int) := od_
                  obtain ⟨ad427, e427, hx427_0, hx427_1⟩ := at_T68 (Kd.R_reads' HO_4.out).2.2 x11_2 p427 q427
                  cases e427
                  replace p427 := eq_true p427
                  replace q427 := eq_true q427
                  obtain ⟨Ao226, co226, eo226⟩ := Kd.R_slice HO_377000.out
                  (first | subst eo226 | (injection eo226 with f1_ f2_ f3_; have f4_ := f1_.symm; have f5_ := f3_.symm; clear f1_ f2_ f3_; subst f4_; subst f5_))
                  refine start_ (n := 8) (S := fun w' => cw_ w' gb376 0 (.slice Ao226 x377000_1.length co226) ∧ w'.cell? (ad427.add ((x11_2).toNat * 2)) = some (.int .i64 ((rd_T68 x4_1 x11_2).f0)) ∧ w'.cell? ⟨(ad427.add ((x11_2).toNat * 2)).block, (ad427.add ((x11_2).toNat * 2)).off + 1, none⟩ = some (.int .i64 ((rd_T68 x4_1 x11_2).f1))) (ds := []) (bs 8 0) (by kernel_rfl) rfl rfl ⟨bt_ BK376 0, hx427_0, hx427_1⟩ (fun hHeld => ?_); refine with_tabW laws_FnHeapBook.tab46 laws_FnHeapBook.bits46 (fun HT_ HW_ => ?_)
                  generalize wr.drew = w225 at HO_4 HO_377000 BK376 HB hx427_0 hx427_1 hHeld ⊢
                  refine ps_ 1 157 (bm 8 2) HT_ ?_
                  refine ps_ 2 158 (bm 8 6) HT_ ?_
                  refine ps_ 3 159 (bm 8 14) HT_ ?_
                  refine ps_ 4 160 (bm 8 30) HT_ ?_
                  refine tk_ 0 156 (bs 8 5) HT_ HW_ hHeld ?_
                  refine tkn_ HT_ HW_ hHeld ?_
                  refine on_ 6 (some 162) (bs 8 7) HT_ (fun K hK => ?_)
                  refine gs_ Try.func45 #[.agg #[.slice Ao226 x377000_1.length co226], .int .i64 ((rd_T68 x4_1 x11_2).f1)] ?_
                  with_reducible refine (impl_HeapPlace.calls k2 _ _ x377000_1 ((rd_T68 x4_1 x11_2).f1) t428 _ ?side1 ?side2 A194.out).mono ?_
                  (case side1 => exact cr_ HO_377000)
                  (case side2 => exact (Kd.R_reads' HO_377000.out).2.1)
                  rintro e w227 ⟨rfl, hb⟩
                  have HS1_ := hc_ hb hHeld.2.1
                  have HS2_ := hc_ hb hHeld.2.2
                  refine ⟨_, rfl, ?_⟩
                  replace HO_4 := Aside0.mk (Kd.R_below (kr_ HO_4) hb); replace HO_377000 := Aside0.mk (Kd.R_below (kr_ HO_377000) hb); replace BK376 := bb_ BK376 hb; replace HB := Aside0.mk (below_step (bf_ HB) hb); (try clear hb); (try clear hb2); (try clear hk); (try clear hi)
                  refine hK.out _ _ ⟨bt_ BK376 0, HS1_, HS2_⟩ (fun hHeld => ?_)
                  clear hK K
                  refine norm_ (a' := ?_) ?_ ?_
                  rotate_left
                  ·show Act.put _ (some 162) _ = _
                   simp only [Act.put, ls0_, ls1_, ls2_, i64_w, i32_w]
                   rfl
                  refine psn_ HT_ ?_
                  refine done_ (done_of HT_.out (by kernel_rfl)) ?_
                  try go_wp2
                  replace HO_4 := Aside0.mk (Kd.R_drew HO_4.out); replace HO_377000 := Aside0.mk (Kd.R_drew HO_377000.out); replace BK376 := Aside0.mk (blk_drew BK376.out); replace HB := Aside0.mk (below_drew1 HB.out)
                  have p429 : 0 ≤ (t428 : Int) := od_
                  have q429 : t428 < (x377000_1.length : Int) := od_
                  obtain ⟨ad429, e429, hx429_0, hx429_1⟩ := at_T68 (Kd.R_reads' HO_377000.out).2.2 t428 p429 q429
                  cases e429
                  replace p429 := eq_true p429
                  replace q429 := eq_true q429
                  have p430 : 0 ≤ (x11_2 : Int) := od_
                  have q430 : x11_2 < (x4_1.length : Int) := od_
                  obtain ⟨ad430, e430, hx430_0, hx430_1⟩ := at_T68 (Kd.R_reads' HO_4.out).2.2 x11_2 p430 q430
                  obtain rfl : ad427 = ad430 := (by injection e430)
                  replace p430 := eq_true p430
                  replace q430 := eq_true q430
                  have p431 : 0 ≤ (x11_2 : Int) := od_
                  have q431 : x11_2 < (x4_1.length : Int) := od_
                  obtain ⟨ad431, e431, hx431_0, hx431_1⟩ := at_T68 (Kd.R_reads' HO_4.out).2.2 x11_2 p431 q431
                  obtain rfl : ad427 = ad431 := (by injection e431)
                  replace p431 := eq_true p431
                  replace q431 := eq_true q431
                  have p432 : 0 ≤ (0 : Int) := (by omega)
                  have q432 : 0 < (x377000_1.length : Int) := od_
                  obtain ⟨ad432, e432, hx432_0, hx432_1⟩ := at_T68 (Kd.R_reads' HO_377000.out).2.2 0 p432 q432
                  obtain rfl : ad429 = ad432 := (by injection e432)
                  have qi432 : (0 < x377000_1.length) = True := eq_true (by omega)
                  (try rw [show ((0 : Int)).toNat = 0 from rfl] at hx432_0)
                  (try rw [show 0 * 2 = 0 from rfl] at hx432_0)
                  (try rw [Addr.add_zero'] at hx432_0)
                  (try rw [show ((0 : Int)).toNat = 0 from rfl] at hx432_1)
                  (try rw [show 0 * 2 = 0 from rfl] at hx432_1)
                  (try rw [Addr.add_zero'] at hx432_1)
                  replace p432 := eq_true p432
                  replace q432 := eq_true q432
                  refine start_ (n := 32) (S := fun w' => cw_ w' gb376 0 (.slice (some ad429) x377000_1.length co226) ∧ w'.cell? (ad429.add ((t428).toNat * 2)) = some (.int .i64 ((rd_T68 x377000_1 t428).f0)) ∧ w'.cell? ⟨(ad429.add ((t428).toNat * 2)).block, (ad429.add ((t428).toNat * 2)).off + 1, none⟩ = some (.int .i64 ((rd_T68 x377000_1 t428).f1)) ∧ w'.cell? (ad427.add ((x11_2).toNat * 2)) = some (.int .i64 ((rd_T68 x4_1 x11_2).f0)) ∧ w'.cell? ⟨(ad427.add ((x11_2).toNat * 2)).block, (ad427.add ((x11_2).toNat * 2)).off + 1, none⟩ = some (.int .i64 ((rd_T68 x4_1 x11_2).f1)) ∧ w'.cell? (ad427.add ((x11_2).toNat * 2)) = some (.int .i64 ((rd_T68 x4_1 x11_2).f0)) ∧ w'.cell? ⟨(ad427.add ((x11_2).toNat * 2)).block, (ad427.add ((x11_2).toNat * 2)).off + 1, none⟩ = some (.int .i64 ((rd_T68 x4_1 x11_2).f1)) ∧ w'.cell? ad429 = some (.int .i64 ((rd_T68 x377000_1 0).f0)) ∧ w'.cell? ⟨ad429.block, ad429.off + 1, none⟩ = some (.int .i64 ((rd_T68 x377000_1 0).f1))) (ds := []) (bs 32 0) (by kernel_rfl) rfl rfl ⟨bt_ BK376 0, hx429_0, hx429_1, hx430_0, hx430_1, hx431_0, hx431_1, hx432_0, hx432_1⟩ (fun hHeld => ?_); refine with_tabW laws_FnHeapBook.tab47 laws_FnHeapBook.bits47 (fun HT_ HW_ => ?_)
                  generalize w227.drew = w228 at HO_4 HO_377000 BK376 HB hx429_0 hx429_1 hx430_0 hx430_1 hx431_0 hx431_1 hx432_0 hx432_1 hHeld ⊢
                  iterate 5 (refine psn_ HT_ ?_)
                  refine tkn_ HT_ HW_ hHeld ?_
                  iterate 5 (refine psn_ HT_ ?_)
                  refine ps_ 12 175 (bm 32 6143) HT_ ?_
                  refine ps_ 15 178 (bm 32 38911) HT_ ?_
                  refine ps_ 16 179 (bm 32 104447) HT_ ?_
                  refine ps_ 17 180 (bm 32 235519) HT_ ?_
                  refine tk_ 11 174 (bm 32 237567) HT_ HW_ hHeld ?_
                  refine ps_ 13 176 (bm 32 245759) HT_ ?_
                  refine tk_ 14 177 (bs 32 18) HT_ HW_ hHeld ?_
                  refine tkn_ HT_ HW_ hHeld ?_
                  iterate 6 (refine psn_ HT_ ?_)
                  refine ps_ 26 189 (bm 32 100663295) HT_ ?_
                  refine tk_ 25 188 (bs 32 27) HT_ HW_ hHeld ?_
                  refine tkn_ HT_ HW_ hHeld ?_
                  refine psn_ HT_ ?_
                  refine tkn_ HT_ HW_ hHeld ?_
                  refine on_ 30 (some 193) (bs 32 31) HT_ (fun K hK => ?_)
                  refine gs_ Try.func46 #[.agg #[.int .i64 ((rd_T68 x4_1 x11_2).f0), .int .i64 ((rd_T68 x4_1 x11_2).f1)], .agg #[.int .i64 ((rd_T68 x377000_1 0).f0), .int .i64 ((rd_T68 x377000_1 0).f1)]] ?_
                  with_reducible refine (spec_Ahead.calls ((rd_T68 x4_1 x11_2).f0) ((rd_T68 x4_1 x11_2).f1) ((rd_T68 x377000_1 0).f0) ((rd_T68 x377000_1 0).f1) false _ A216.out).mono ?_
                  rintro e w229 ⟨rfl, hb⟩
                  have HS1_ := hc_ hb hHeld.2.1
                  have HS2_ := hc_ hb hHeld.2.2.1
                  have HS3_ := hc_ hb hHeld.2.2.2.1
                  have HS4_ := hc_ hb hHeld.2.2.2.2.1
                  have HS5_ := hc_ hb hHeld.2.2.2.2.2.1
                  have HS6_ := hc_ hb hHeld.2.2.2.2.2.2.1
                  have HS7_ := hc_ hb hHeld.2.2.2.2.2.2.2.1
                  have HS8_ := hc_ hb hHeld.2.2.2.2.2.2.2.2
                  refine ⟨_, rfl, ?_⟩
                  replace HO_4 := Aside0.mk (Kd.R_below (kr_ HO_4) hb); replace HO_377000 := Aside0.mk (Kd.R_below (kr_ HO_377000) hb); replace BK376 := bb_ BK376 hb; replace HB := Aside0.mk (below_step (bf_ HB) hb); (try clear hb); (try clear hb2); (try clear hk); (try clear hi)
                  refine hK.out _ _ ⟨bt_ BK376 0, HS1_, HS2_, HS3_, HS4_, HS5_, HS6_, HS7_, HS8_⟩ (fun hHeld => ?_)
                  clear hK K
                  refine norm_ (a' := ?_) ?_ ?_
                  rotate_left
                  ·show Act.put _ (some 193) _ = _
                   simp only [Act.put, ls0_, ls1_, ls2_, i64_w, i32_w]
                   rfl
                  refine psn_ HT_ ?_
                  refine done_ (done_of HT_.out (by kernel_rfl)) ?_
                  try go_wp2
                  go_roundg k2
                  case measure => have := HK1.out; have := HK2.out; omega
                  case rel => exact ⟨(wrap64 (x11_2 + 1)), (by first | rfl | (simp; done) | (simp [*]; done)), H', ⟨by have := HK1.out; have := HK2.out; omega⟩, ⟨kr_ HO_4⟩, ⟨kr_ HO_377000⟩, ⟨bk_ BK376⟩, ⟨bf_ HB⟩⟩
                ·rw [if_neg c215] at H
                 exact absurd H (by simp)
              ·rw [if_neg c208] at H
               exact absurd H (by simp)
             ·rw [if_neg c207] at H
              exact absurd H (by simp)
          ·rw [if_neg c193] at H
           exact absurd H (by simp)
         ·rw [if_neg c192] at H
          have c192b0 : decide (x11_2 < (x4_1.length : Int)) = false := decide_eq_false c192
          clear c192
          replace H := Option.bind_eq_some_iff.mp H
          obtain ⟨t426, A2300, H⟩ := H
          have A230 := Aside0.mk A2300
          clear A2300
          obtain rfl := Option.some.inj H
          obtain ⟨Ao231, co231, eo231⟩ := Kd.R_slice HO_4.out
          subst eo231
          obtain ⟨hcz232_0, hfz232_0⟩ := bz1_ BK376
          obtain ⟨Ao233, co233, eo233⟩ := Kd.R_slice HO_377000.out
          subst eo233
          go_wp2_with (first | ((with_reducible refine gc_ 41 rfl ?_); refine gl_ 196 Try.func41 #[.agg #[.slice Ao233 x377000_1.length co233]] ?_; (with_reducible refine (impl_HeapOk.calls k2 _ _ x377000_1 t426 _ ?side1 ?side2 A230.out).mono ?_); (case side1 => exact cr_ HO_377000); (case side2 => exact (Kd.R_reads' HO_377000.out).2.1); rintro e w234 ⟨rfl, hb⟩; refine ⟨_, rfl, ?_⟩; replace HO_4 := Aside0.mk (Kd.R_below (kr_ HO_4) hb); replace HO_377000 := Aside0.mk (Kd.R_below (kr_ HO_377000) hb); replace BK376 := bb_ BK376 hb; replace HB := Aside0.mk (below_step (bf_ HB) hb); (try clear hb); (try clear hb2); (try clear hk); (try clear hi)))
          go_ret
          exact ⟨by first | rfl | (simp [errW_none, errW_some] <;> rfl) | (simp only [← hji17]; first | rfl | (simp [errW_none, errW_some] <;> rfl)) | (simp [*, errW_none, errW_some] <;> rfl), bf_ HB⟩
   ·rw [if_neg c7] at H
    exact absurd H (by simp)
  ·replace c6 := Bool.eq_false_iff.mpr c6
   subst c6
   rw [if_neg (show ¬ (false = true) by decide)] at H
   replace H := Option.bind_eq_some_iff.mp H
   obtain ⟨t378, A2350, H⟩ := H
   have A235 := Aside0.mk A2350
   clear A2350
   obtain rfl := Option.some.inj H
   go_enter Try.func6, Try.ntmps6
   go_wp2_with (first | ((with_reducible refine gc_ 38 rfl ?_); refine gl_ 14 Try.func38 #[.slice A0 l0.length c0] ?_; (with_reducible refine (laws_big.calls _ _ l0 false _ ?side1 ?side2 A2.out).mono ?_); (case side1 => repeat (first | exact HR0.out | (with_reducible refine Kd.C_alloc ?_ _) | (with_reducible refine Kd.C_drewN ?_ _) | (with_reducible refine Kd.C_drew ?_))); (case side2 => exact HC0.out); rintro e w' ⟨rfl, ⟨nd, rfl⟩⟩; refine ⟨_, rfl, ?_⟩) | ((with_reducible refine gc_ 39 rfl ?_); refine gl_ 16 Try.func39 #[.slice A0 l0.length c0] ?_; (with_reducible refine (spec_DrawHeapOrder.calls k _ _ l0 t373 _ ?side1 ?side2 A4.out).mono ?_); (case side1 => repeat (first | exact HR0.out | (with_reducible refine Kd.C_alloc ?_ _) | (with_reducible refine Kd.C_drewN ?_ _) | (with_reducible refine Kd.C_drew ?_))); (case side2 => exact HC0.out); rintro e w236 ⟨v374, rfl, ho0, hb⟩; refine ⟨_, rfl, ?_⟩; have HO375 := Aside0.mk (Kd.R_lower ho0 (below_size (be_ HB))); replace HB := Aside0.mk (below_step (be_ HB) hb); (try clear hb); (try clear hb2); (try clear hk); (try clear hi); (try clear ho0)) | ((with_reducible refine gd_ 3 rfl ?_); (try (refine gate_guard (by rfl) ?_; dsimp only)); refine bv_ 3 #[.slice none 0 0] 29 ?_; intro gb376 hg w237 hbox hb; replace HO375 := Aside0.mk (Kd.R_below (kr_ HO375) hb); have BK376 := Aside0.mk (hbox); have GW376 := gw_ HB hg; have GE376 := gw_ HB hg; replace HB := Aside0.mk (below_step (be_ HB) hb); clear hb hbox hg; obtain ⟨Ao238, co238, eo238⟩ := Kd.R_slice HO375.out; subst eo238; obtain ⟨hcz239_0, hfz239_0⟩ := bz1_ BK376) | ((with_reducible refine gc_ 40 rfl ?_); refine gl_ 18 Try.func40 #[.agg #[.slice Ao238 t373.length co238]] ?_; (with_reducible refine (spec_HeapOk.calls k _ _ t373 false _ ?side1 ?side2 A5.out).mono ?_); (case side1 => refine (Kd.R_reads' (e := 68) (base := w.heap.size) (ok := fun k_ => True) (n := t373.length) (c := co238) ?_).2.2; exact (by (with_reducible repeat (first | apply Kd.R_alloc | apply Kd.R_drewN | apply Kd.R_drew)); exact (rf1_ HO375 BK376 (.slice Ao238 t373.length co238)))); (case side2 => exact (Kd.R_reads' HO375.out).2.1); rintro e w240 ⟨rfl, hb⟩; refine ⟨_, rfl, ?_⟩; replace HO375 := Aside0.mk (Kd.R_below (by (with_reducible repeat (first | apply Kd.R_alloc | apply Kd.R_drewN | apply Kd.R_drew)); exact (rf1_ HO375 BK376 (.slice Ao238 t373.length co238))) hb); replace BK376 := Aside0.mk (blk_below (g := gb376) (o := .cells #[.slice Ao238 t373.length co238] 29 (0, 0)) (by (with_reducible repeat (first | refine blk_drewN ?_ _ | refine blk_drew ?_ | refine blk_alloc ?_ _)); refine blk_put (cs := #[.slice none 0 0]) ?_ 0 _ rfl; exact bk_ BK376) hb); replace HB := Aside0.mk (below_step (bf_ HB) hb); (try clear hb); (try clear hb2); (try clear hk); (try clear hi); obtain ⟨hcz241_0, hfz241_0⟩ := bz1_ BK376) | ((with_reducible refine gc_ 41 rfl ?_); refine gl_ 21 Try.func41 #[.agg #[.slice Ao238 t373.length co238]] ?_; (with_reducible refine (impl_HeapOk.calls k _ _ t373 t378 _ ?side1 ?side2 A235.out).mono ?_); (case side1 => exact cr_ HO375); (case side2 => exact (Kd.R_reads' HO375.out).2.1); rintro e w242 ⟨rfl, hb⟩; refine ⟨_, rfl, ?_⟩; replace HO375 := Aside0.mk (Kd.R_below (kr_ HO375) hb); replace BK376 := bb_ BK376 hb; replace HB := Aside0.mk (below_step (bf_ HB) hb); (try clear hb); (try clear hb2); (try clear hk); (try clear hi)))
   go_ret
   exact ⟨by first | rfl | (simp [errW_none, errW_some] <;> rfl) | (simp [*, errW_none, errW_some] <;> rfl), bf_ HB⟩

/-- THE ONE PURE STATEMENT of laws_FnHeapBook: yours. -/
def laws_FnHeapBook.Pure : Prop := ∀ (l0 : List Int), l0.length ≤ maxLen → l0.length * 1 ≤ 140737488351232 → (∀ x ∈ l0, (Lit.int .u8 x).wf = true) → ∃ k, laws_FnHeapBook.f k l0 = some true
theorem laws_FnHeapBook.walk (P : laws_FnHeapBook.Pure) (a0 : Option Addr) (len0 cap0 : Nat) (z0 : List Int) (w : World) (w0 : (a0 = none ∧ len0 = 0 ∧ cap0 = 0 ∧ z0 = []) ∨ ∃ x, a0 = some x ∧ len0 ≤ cap0 ∧ cap0 ≤ maxLen ∧ z0.length = cap0 ∧ (∀ i, i < z0.length → w.cell? (x.add i) = some (.int .u8 (z0.getD i 0))) ∧ ∀ n ∈ z0, (Lit.int .u8 n).wf = true) (y0 : len0 * 1 ≤ 140737488351232) :
  Calls Try.prog 6 #[.slice a0 len0 cap0] w fun e w' => e = .returned (.bool true) ∧ Below w.heap.size w w' := by
 obtain ⟨l0, rfl, hr0, hm0, hw0, hc0⟩ := ReadsInt.ofRowC w0
 obtain ⟨k, h⟩ := P l0 hm0 y0 hw0
 refine (laws_FnHeapBook.calls k _ _ l0 true w (Kd.C_of_reads (d := (0 : Int)) (h1 := fun _ => rfl) hr0) hc0 h).mono ?_
 rintro e w' ⟨rfl, hd⟩
 exact ⟨rfl, hd⟩

end Go.Proofs.Ytnklakficjpmoaa.PFnHeapBook
