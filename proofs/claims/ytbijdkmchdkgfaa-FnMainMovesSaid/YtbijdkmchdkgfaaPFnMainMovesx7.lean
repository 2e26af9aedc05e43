-- printed by a program of this session (wip/printx) out of the translation; Lean checks it
import Derived.Test.YtbijdkmchdkgfaaPFnMainMovesx0
import Derived.Test.YtbijdkmchdkgfaaPFnMainMovesx1
import Derived.Test.YtbijdkmchdkgfaaPFnMainMovesx2
import Derived.Test.YtbijdkmchdkgfaaPFnMainMovesx3
import Derived.Test.YtbijdkmchdkgfaaPFnMainMovesx4
import Derived.Test.YtbijdkmchdkgfaaPFnMainMovesx5
import Derived.Test.YtbijdkmchdkgfaaPFnMainMovesx6
namespace Go.Proofs.Ytbijdkmchdkgfaa.PFnMainMoves
open Go.RowKit Go.Proofs.YtbijdkmchdkgfaaW.PrintWords Go.Proofs.YtbijdkmchdkgfaaW.PrintLast Go.Proofs.YtbijdkmchdkgfaaW.PrintMore
attribute [local go_sem] max2_int min2_int max_two min_two max_three min_three max_four min_four   -- for this text's walks alone
set_option linter.unusedVariables false
set_option linter.unusedSimpArgs false

/-! ### laws_FnMainMoves: function 13 -/
mutual
def laws_FnMainMoves.j0 : Nat → Int → Int → Bool → Bool → Bool → Int → Int → Int → Int → Int → Int → Int → Int → Int → Option (Bool)
  | 0, _, _, _, _, _, _, _, _, _, _, _, _, _, _ => none
  | k + 1, x5, x7, x9, x11, x57, x358000, x358001, x358002, x359000, x359001, x359002, x377000, x377001, x377002 => if x57 = true then (some (x11 == x9)) else ((impl_Dovetail.f x377000 x377001 x377002 x7).bind fun bt378 => (laws_FnMainMoves.l0 k x5 0 x358000 x358001 x358002 x359000 x359001 x359002 bt378.1 bt378.2.1 bt378.2.2))
def laws_FnMainMoves.l0 : Nat → Int → Int → Int → Int → Int → Int → Int → Int → Int → Int → Int → Option (Bool)
  | 0, _, _, _, _, _, _, _, _, _, _, _ => none
  | k + 1, x5, x13, x358000, x358001, x358002, x359000, x359001, x359002, x382000, x382001, x382002 => if x13 < 3 then ((laws_vec.f x359000 x359001 x359002 x13).bind fun t384 => ((spec_Stride.f x5).bind fun t385 => ((laws_vec.f x359000 x359001 x359002 x13).bind fun t386 => ((spec_VecTop.f x359000 x359001 x359002).bind fun t387 => (if t386 = t387 then ((laws_vec.f x382000 x382001 x382002 x13).bind fun t388 => ((laws_vec.f x358000 x358001 x358002 x13).bind fun t389 => (if t388 = (wrap64 (t389 + (wrap64 (t384 * t385)))) then ((spec_VecTop.f x382000 x382001 x382002).bind fun t390 => ((spec_VecTop.f x358000 x358001 x358002).bind fun t391 => (if t390 > (wrap64 (t391 + (wrap64 (t384 * t385)))) then (some false) else (laws_FnMainMoves.l0 k x5 (wrap64 (x13 + 1)) x358000 x358001 x358002 x359000 x359001 x359002 x382000 x382001 x382002)))) else (some false)))) else (laws_FnMainMoves.l0 k x5 (wrap64 (x13 + 1)) x358000 x358001 x358002 x359000 x359001 x359002 x382000 x382001 x382002)))))) else ((spec_VecTop.f x382000 x382001 x382002).bind fun t382 => ((spec_VecTop.f x358000 x358001 x358002).bind fun t383 => (some (decide (t382 > t383)))))
end
def laws_FnMainMoves.f (k : Nat) (l0 : List Int) : Option (Bool) := (laws_big.f l0).bind fun t349 => (if t349 = true then (some true) else ((spec_DrawFinish.f k l0).bind fun bt350 => ((spec_DrawNarrow.f k l0).bind fun bt359 => ((spec_Dovetail.f k bt350.1 bt350.2.1 bt350.2.2.1 bt359.2.2.2).bind fun bt364 => ((spec_Finish.f k bt364.1 bt364.2.1 bt364.2.2 bt350.2.2.2.1 bt350.2.2.2.2.1 bt350.2.2.2.2.2.1 bt350.2.2.2.2.2.2).bind fun bt367 => ((impl_Finish.f k bt364.1 bt364.2.1 bt364.2.2 bt350.2.2.2.1 bt350.2.2.2.2.1 bt350.2.2.2.2.2.1 bt350.2.2.2.2.2.2).bind fun bt372 => (if (bt372.2.2.2 != bt367.2.2.2) = true then (laws_FnMainMoves.j0 k bt350.2.2.2.2.2.2 bt359.2.2.2 bt367.2.2.2 bt372.2.2.2 true bt364.1 bt364.2.1 bt364.2.2 bt350.2.2.2.1 bt350.2.2.2.2.1 bt350.2.2.2.2.2.1 bt372.1 bt372.2.1 bt372.2.2.1) else (if bt372.2.2.2 = true then ((spec_Narrow.f bt364.1 bt364.2.1 bt364.2.2 bt359.2.2.2).bind fun t377 => (laws_FnMainMoves.j0 k bt350.2.2.2.2.2.2 bt359.2.2.2 bt367.2.2.2 bt372.2.2.2 (!t377) bt364.1 bt364.2.1 bt364.2.2 bt350.2.2.2.1 bt350.2.2.2.2.1 bt350.2.2.2.2.2.1 bt372.1 bt372.2.1 bt372.2.2.1)) else (laws_FnMainMoves.j0 k bt350.2.2.2.2.2.2 bt359.2.2.2 bt367.2.2.2 bt372.2.2.2 true bt364.1 bt364.2.1 bt364.2.2 bt350.2.2.2.1 bt350.2.2.2.2.1 bt350.2.2.2.2.2.1 bt372.1 bt372.2.1 bt372.2.2.1)))))))))
theorem laws_FnMainMoves.mono_l : ∀ k, (∀ y0 y1 y2 y3 y4 y5 y6 y7 y8 y9 y10 y11 y12 y13, LeO (laws_FnMainMoves.j0 k y0 y1 y2 y3 y4 y5 y6 y7 y8 y9 y10 y11 y12 y13) (laws_FnMainMoves.j0 (k + 1) y0 y1 y2 y3 y4 y5 y6 y7 y8 y9 y10 y11 y12 y13)) ∧ (∀ y0 y1 y2 y3 y4 y5 y6 y7 y8 y9 y10, LeO (laws_FnMainMoves.l0 k y0 y1 y2 y3 y4 y5 y6 y7 y8 y9 y10) (laws_FnMainMoves.l0 (k + 1) y0 y1 y2 y3 y4 y5 y6 y7 y8 y9 y10))
 | 0 => ⟨fun _ _ _ _ _ _ _ _ _ _ _ _ _ _ r h => by simp [laws_FnMainMoves.j0] at h, fun _ _ _ _ _ _ _ _ _ _ _ r h => by simp [laws_FnMainMoves.l0] at h⟩
 | k + 1 => by
  obtain ⟨ih0, ih1⟩ := laws_FnMainMoves.mono_l k
  refine ⟨?_, ?_⟩
  ·intro y0 y1 y2 y3 y4 y5 y6 y7 y8 y9 y10 y11 y12 y13
   unfold laws_FnMainMoves.j0
   repeat' first
   | (with_reducible exact ih0 _ _ _ _ _ _ _ _ _ _ _ _ _ _)
   | (with_reducible exact ih1 _ _ _ _ _ _ _ _ _ _ _)
   | (with_reducible exact impl_Finish.mono _ _ _ _ _ _ _ _)
   | (with_reducible exact spec_Dovetail.mono _ _ _ _ _)
   | (with_reducible exact spec_DrawFinish.mono _ _)
   | (with_reducible exact spec_DrawNarrow.mono _ _)
   | (with_reducible exact spec_Finish.mono _ _ _ _ _ _ _ _)
   | (with_reducible exact LeO.refl _)
   | (with_reducible exact LeO.none _)
   | (with_reducible refine LeO.ite ?_ ?_)
   | (with_reducible refine LeO.bind ?_ (fun _ => ?_))
   | exact ih0 _ _ _ _ _ _ _ _ _ _ _ _ _ _
   | exact ih1 _ _ _ _ _ _ _ _ _ _ _
   | exact impl_Finish.mono _ _ _ _ _ _ _ _
   | exact spec_Dovetail.mono _ _ _ _ _
   | exact spec_DrawFinish.mono _ _
   | exact spec_DrawNarrow.mono _ _
   | exact spec_Finish.mono _ _ _ _ _ _ _ _
   | exact LeO.none _
   | refine LeO.ite ?_ ?_
   | refine LeO.bind ?_ (fun _ => ?_)
  ·intro y0 y1 y2 y3 y4 y5 y6 y7 y8 y9 y10
   unfold laws_FnMainMoves.l0
   repeat' first
   | (with_reducible exact ih0 _ _ _ _ _ _ _ _ _ _ _ _ _ _)
   | (with_reducible exact ih1 _ _ _ _ _ _ _ _ _ _ _)
   | (with_reducible exact impl_Finish.mono _ _ _ _ _ _ _ _)
   | (with_reducible exact spec_Dovetail.mono _ _ _ _ _)
   | (with_reducible exact spec_DrawFinish.mono _ _)
   | (with_reducible exact spec_DrawNarrow.mono _ _)
   | (with_reducible exact spec_Finish.mono _ _ _ _ _ _ _ _)
   | (with_reducible exact LeO.refl _)
   | (with_reducible exact LeO.none _)
   | (with_reducible refine LeO.ite ?_ ?_)
   | (with_reducible refine LeO.bind ?_ (fun _ => ?_))
   | exact ih0 _ _ _ _ _ _ _ _ _ _ _ _ _ _
   | exact ih1 _ _ _ _ _ _ _ _ _ _ _
   | exact impl_Finish.mono _ _ _ _ _ _ _ _
   | exact spec_Dovetail.mono _ _ _ _ _
   | exact spec_DrawFinish.mono _ _
   | exact spec_DrawNarrow.mono _ _
   | exact spec_Finish.mono _ _ _ _ _ _ _ _
   | exact LeO.none _
   | refine LeO.ite ?_ ?_
   | refine LeO.bind ?_ (fun _ => ?_)
theorem laws_FnMainMoves.mono : ∀ a0 k, LeO (laws_FnMainMoves.f k a0) (laws_FnMainMoves.f (k + 1) a0) := by
 intro a0 k
 obtain ⟨ih0, ih1⟩ := laws_FnMainMoves.mono_l k
 unfold laws_FnMainMoves.f
 repeat' first
   | (with_reducible exact ih0 _ _ _ _ _ _ _ _ _ _ _ _ _ _)
   | (with_reducible exact ih1 _ _ _ _ _ _ _ _ _ _ _)
   | (with_reducible exact impl_Finish.mono _ _ _ _ _ _ _ _)
   | (with_reducible exact spec_Dovetail.mono _ _ _ _ _)
   | (with_reducible exact spec_DrawFinish.mono _ _)
   | (with_reducible exact spec_DrawNarrow.mono _ _)
   | (with_reducible exact spec_Finish.mono _ _ _ _ _ _ _ _)
   | (with_reducible exact LeO.refl _)
   | (with_reducible exact LeO.none _)
   | (with_reducible refine LeO.ite ?_ ?_)
   | (with_reducible refine LeO.bind ?_ (fun _ => ?_))
   | exact ih0 _ _ _ _ _ _ _ _ _ _ _ _ _ _
   | exact ih1 _ _ _ _ _ _ _ _ _ _ _
   | exact impl_Finish.mono _ _ _ _ _ _ _ _
   | exact spec_Dovetail.mono _ _ _ _ _
   | exact spec_DrawFinish.mono _ _
   | exact spec_DrawNarrow.mono _ _
   | exact spec_Finish.mono _ _ _ _ _ _ _ _
   | exact LeO.none _
   | refine LeO.ite ?_ ?_
   | refine LeO.bind ?_ (fun _ => ?_)
def laws_FnMainMoves.T15 : Bool × List (List Nat × List Nat) := (true, [([], []), ([], []), ([0, 1], [0, 1]), ([], []), ([3, 2], [3]), ([2, 4], [2, 4]), ([5, 4], [5]), ([6], [6]), ([6], [6]), ([7, 8, 6, 6], [6, 7, 8]), ([6], [6]), ([6], [6]), ([10, 11, 9, 6], [6, 10, 11]), ([6], [6]), ([12, 13, 6], [6, 12, 13]), ([9, 14, 6], [6, 9, 14]), ([15, 12, 6], [6, 15]), ([16], [16]), ([17, 16, 16], [16, 17]), ([16], [16]), ([19, 18, 16], [16, 19]), ([16], [16]), ([20, 21, 16], [16, 20, 21]), ([18, 22, 16], [16, 18, 22]), ([16, 23, 6], [6, 16, 23]), ([6, 24], [6, 24])])
def laws_FnMainMoves.B15 : List Nat := [0, 0, 3, 0, 15, 31, 63, 127, 127, 511, 127, 127, 4095, 127, 16383, 32767, 65535, 131071, 262143, 131071, 1048575, 131071, 4194303, 8388607, 16777215, 33554431]
theorem laws_FnMainMoves.tab15 : rtab .any (opsOf Try.f13 15) = laws_FnMainMoves.T15 := by kernel_rfl
theorem laws_FnMainMoves.bits15 : waitsOk laws_FnMainMoves.T15.2 laws_FnMainMoves.B15 = true := by kernel_rfl
set_option maxHeartbeats 8000000 in
set_option maxRecDepth 100000 in
theorem laws_FnMainMoves.calls (k : Nat) (A0 : Option Addr) (c0 : Nat) (l0 : List Int) (r : Bool) (w : World) (hr0 : Kd.C (Kd.int .u8) w A0 l0.length l0) (hc0 : l0.length ≤ c0) (h : laws_FnMainMoves.f k l0 = some r) :
  Calls Try.prog 13 #[.slice A0 l0.length c0] w fun e w' => e = .returned (.bool r) ∧ Below w.heap.size w w' := by
 have hu35 := Try.underlying35
 have HR0 := Aside0.mk hr0
 have HC0 := Aside0.mk hc0
 clear hr0 hc0
 have HB := Aside0.mk (Below.refl w.heap.size w)
 have H : ((laws_big.f l0).bind fun t349 => (if t349 = true then (some true) else ((spec_DrawFinish.f k l0).bind fun bt350 => ((spec_DrawNarrow.f k l0).bind fun bt359 => ((spec_Dovetail.f k bt350.1 bt350.2.1 bt350.2.2.1 bt359.2.2.2).bind fun bt364 => ((spec_Finish.f k bt364.1 bt364.2.1 bt364.2.2 bt350.2.2.2.1 bt350.2.2.2.2.1 bt350.2.2.2.2.2.1 bt350.2.2.2.2.2.2).bind fun bt367 => ((impl_Finish.f k bt364.1 bt364.2.1 bt364.2.2 bt350.2.2.2.1 bt350.2.2.2.2.1 bt350.2.2.2.2.2.1 bt350.2.2.2.2.2.2).bind fun bt372 => (if (bt372.2.2.2 != bt367.2.2.2) = true then (laws_FnMainMoves.j0 k bt350.2.2.2.2.2.2 bt359.2.2.2 bt367.2.2.2 bt372.2.2.2 true bt364.1 bt364.2.1 bt364.2.2 bt350.2.2.2.1 bt350.2.2.2.2.1 bt350.2.2.2.2.2.1 bt372.1 bt372.2.1 bt372.2.2.1) else (if bt372.2.2.2 = true then ((spec_Narrow.f bt364.1 bt364.2.1 bt364.2.2 bt359.2.2.2).bind fun t377 => (laws_FnMainMoves.j0 k bt350.2.2.2.2.2.2 bt359.2.2.2 bt367.2.2.2 bt372.2.2.2 (!t377) bt364.1 bt364.2.1 bt364.2.2 bt350.2.2.2.1 bt350.2.2.2.2.1 bt350.2.2.2.2.2.1 bt372.1 bt372.2.1 bt372.2.2.1)) else (laws_FnMainMoves.j0 k bt350.2.2.2.2.2.2 bt359.2.2.2 bt367.2.2.2 bt372.2.2.2 true bt364.1 bt364.2.1 bt364.2.2 bt350.2.2.2.1 bt350.2.2.2.2.1 bt350.2.2.2.2.2.1 bt372.1 bt372.2.1 bt372.2.2.1)))))))))) = some r := h
 clear h
 replace H := Option.bind_eq_some_iff.mp H
 obtain ⟨t349, A20, H⟩ := H
 replace H : (if t349 = true then (some true) else ((spec_DrawFinish.f k l0).bind fun bt350 => ((spec_DrawNarrow.f k l0).bind fun bt359 => ((spec_Dovetail.f k bt350.1 bt350.2.1 bt350.2.2.1 bt359.2.2.2).bind fun bt364 => ((spec_Finish.f k bt364.1 bt364.2.1 bt364.2.2 bt350.2.2.2.1 bt350.2.2.2.2.1 bt350.2.2.2.2.2.1 bt350.2.2.2.2.2.2).bind fun bt367 => ((impl_Finish.f k bt364.1 bt364.2.1 bt364.2.2 bt350.2.2.2.1 bt350.2.2.2.2.1 bt350.2.2.2.2.2.1 bt350.2.2.2.2.2.2).bind fun bt372 => (if (bt372.2.2.2 != bt367.2.2.2) = true then (laws_FnMainMoves.j0 k bt350.2.2.2.2.2.2 bt359.2.2.2 bt367.2.2.2 bt372.2.2.2 true bt364.1 bt364.2.1 bt364.2.2 bt350.2.2.2.1 bt350.2.2.2.2.1 bt350.2.2.2.2.2.1 bt372.1 bt372.2.1 bt372.2.2.1) else (if bt372.2.2.2 = true then ((spec_Narrow.f bt364.1 bt364.2.1 bt364.2.2 bt359.2.2.2).bind fun t377 => (laws_FnMainMoves.j0 k bt350.2.2.2.2.2.2 bt359.2.2.2 bt367.2.2.2 bt372.2.2.2 (!t377) bt364.1 bt364.2.1 bt364.2.2 bt350.2.2.2.1 bt350.2.2.2.2.1 bt350.2.2.2.2.2.1 bt372.1 bt372.2.1 bt372.2.2.1)) else (laws_FnMainMoves.j0 k bt350.2.2.2.2.2.2 bt359.2.2.2 bt367.2.2.2 bt372.2.2.2 true bt364.1 bt364.2.1 bt364.2.2 bt350.2.2.2.1 bt350.2.2.2.2.1 bt350.2.2.2.2.2.1 bt372.1 bt372.2.1 bt372.2.2.1))))))))) = some r := H
 have A2 := Aside0.mk A20
 clear A20
 by_cases c3 : t349 = true
 ·subst c3
  have H1 : (some true) = some r := by rw [if_pos rfl] at H; exact H
  clear H
  have H := H1
  clear H1
  obtain rfl := Option.some.inj H
  go_enter Try.func13, Try.ntmps13
  go_wp2_with (first | ((with_reducible refine gate_callee (f := 18) rfl ?_); refine goesL_ (some 16) rfl rfl Try.func18 (by kernel_rfl) rfl #[.slice A0 l0.length c0] rfl mt_ ?_; (with_reducible refine (laws_big.calls _ _ l0 true _ ?side1 ?side2 A2.out).mono ?_); (case side1 => repeat (first | exact HR0.out | (with_reducible refine Kd.C_alloc ?_ _) | (with_reducible refine Kd.C_drewN ?_ _) | (with_reducible refine Kd.C_drew ?_))); (case side2 => exact HC0.out); rintro e w' ⟨rfl, ⟨nd, rfl⟩⟩; refine ⟨_, rfl, ?_⟩))
  go_ret
  exact ⟨by first | rfl | (simp [errW_none, errW_some] <;> rfl) | (simp [*, errW_none, errW_some] <;> rfl), be_ HB⟩
 ·replace c3 := Bool.eq_false_iff.mpr c3
  subst c3
  have H1 : ((spec_DrawFinish.f k l0).bind fun bt350 => ((spec_DrawNarrow.f k l0).bind fun bt359 => ((spec_Dovetail.f k bt350.1 bt350.2.1 bt350.2.2.1 bt359.2.2.2).bind fun bt364 => ((spec_Finish.f k bt364.1 bt364.2.1 bt364.2.2 bt350.2.2.2.1 bt350.2.2.2.2.1 bt350.2.2.2.2.2.1 bt350.2.2.2.2.2.2).bind fun bt367 => ((impl_Finish.f k bt364.1 bt364.2.1 bt364.2.2 bt350.2.2.2.1 bt350.2.2.2.2.1 bt350.2.2.2.2.2.1 bt350.2.2.2.2.2.2).bind fun bt372 => (if (bt372.2.2.2 != bt367.2.2.2) = true then (laws_FnMainMoves.j0 k bt350.2.2.2.2.2.2 bt359.2.2.2 bt367.2.2.2 bt372.2.2.2 true bt364.1 bt364.2.1 bt364.2.2 bt350.2.2.2.1 bt350.2.2.2.2.1 bt350.2.2.2.2.2.1 bt372.1 bt372.2.1 bt372.2.2.1) else (if bt372.2.2.2 = true then ((spec_Narrow.f bt364.1 bt364.2.1 bt364.2.2 bt359.2.2.2).bind fun t377 => (laws_FnMainMoves.j0 k bt350.2.2.2.2.2.2 bt359.2.2.2 bt367.2.2.2 bt372.2.2.2 (!t377) bt364.1 bt364.2.1 bt364.2.2 bt350.2.2.2.1 bt350.2.2.2.2.1 bt350.2.2.2.2.2.1 bt372.1 bt372.2.1 bt372.2.2.1)) else (laws_FnMainMoves.j0 k bt350.2.2.2.2.2.2 bt359.2.2.2 bt367.2.2.2 bt372.2.2.2 true bt364.1 bt364.2.1 bt364.2.2 bt350.2.2.2.1 bt350.2.2.2.2.1 bt350.2.2.2.2.2.1 bt372.1 bt372.2.1 bt372.2.2.1)))))))) = some r := by rw [if_neg (show ¬ (false = true) by decide)] at H; exact H
  clear H
  have H := H1
  clear H1
  replace H := Option.bind_eq_some_iff.mp H
  obtain ⟨⟨t350, t351, t352, t353, t354, t355, t356⟩, A40, H⟩ := H
  replace H : ((spec_DrawNarrow.f k l0).bind fun bt359 => ((spec_Dovetail.f k t350 t351 t352 bt359.2.2.2).bind fun bt364 => ((spec_Finish.f k bt364.1 bt364.2.1 bt364.2.2 t353 t354 t355 t356).bind fun bt367 => ((impl_Finish.f k bt364.1 bt364.2.1 bt364.2.2 t353 t354 t355 t356).bind fun bt372 => (if (bt372.2.2.2 != bt367.2.2.2) = true then (laws_FnMainMoves.j0 k t356 bt359.2.2.2 bt367.2.2.2 bt372.2.2.2 true bt364.1 bt364.2.1 bt364.2.2 t353 t354 t355 bt372.1 bt372.2.1 bt372.2.2.1) else (if bt372.2.2.2 = true then ((spec_Narrow.f bt364.1 bt364.2.1 bt364.2.2 bt359.2.2.2).bind fun t377 => (laws_FnMainMoves.j0 k t356 bt359.2.2.2 bt367.2.2.2 bt372.2.2.2 (!t377) bt364.1 bt364.2.1 bt364.2.2 t353 t354 t355 bt372.1 bt372.2.1 bt372.2.2.1)) else (laws_FnMainMoves.j0 k t356 bt359.2.2.2 bt367.2.2.2 bt372.2.2.2 true bt364.1 bt364.2.1 bt364.2.2 t353 t354 t355 bt372.1 bt372.2.1 bt372.2.2.1))))))) = some r := H
  have A4 := Aside0.mk A40
  clear A40
  replace H := Option.bind_eq_some_iff.mp H
  obtain ⟨⟨t359, t360, t361, t362⟩, A50, H⟩ := H
  replace H : ((spec_Dovetail.f k t350 t351 t352 t362).bind fun bt364 => ((spec_Finish.f k bt364.1 bt364.2.1 bt364.2.2 t353 t354 t355 t356).bind fun bt367 => ((impl_Finish.f k bt364.1 bt364.2.1 bt364.2.2 t353 t354 t355 t356).bind fun bt372 => (if (bt372.2.2.2 != bt367.2.2.2) = true then (laws_FnMainMoves.j0 k t356 t362 bt367.2.2.2 bt372.2.2.2 true bt364.1 bt364.2.1 bt364.2.2 t353 t354 t355 bt372.1 bt372.2.1 bt372.2.2.1) else (if bt372.2.2.2 = true then ((spec_Narrow.f bt364.1 bt364.2.1 bt364.2.2 t362).bind fun t377 => (laws_FnMainMoves.j0 k t356 t362 bt367.2.2.2 bt372.2.2.2 (!t377) bt364.1 bt364.2.1 bt364.2.2 t353 t354 t355 bt372.1 bt372.2.1 bt372.2.2.1)) else (laws_FnMainMoves.j0 k t356 t362 bt367.2.2.2 bt372.2.2.2 true bt364.1 bt364.2.1 bt364.2.2 t353 t354 t355 bt372.1 bt372.2.1 bt372.2.2.1)))))) = some r := H
  have A5 := Aside0.mk A50
  clear A50
  replace H := Option.bind_eq_some_iff.mp H
  obtain ⟨⟨t364, t365, t366⟩, A60, H⟩ := H
  replace H : ((spec_Finish.f k t364 t365 t366 t353 t354 t355 t356).bind fun bt367 => ((impl_Finish.f k t364 t365 t366 t353 t354 t355 t356).bind fun bt372 => (if (bt372.2.2.2 != bt367.2.2.2) = true then (laws_FnMainMoves.j0 k t356 t362 bt367.2.2.2 bt372.2.2.2 true t364 t365 t366 t353 t354 t355 bt372.1 bt372.2.1 bt372.2.2.1) else (if bt372.2.2.2 = true then ((spec_Narrow.f t364 t365 t366 t362).bind fun t377 => (laws_FnMainMoves.j0 k t356 t362 bt367.2.2.2 bt372.2.2.2 (!t377) t364 t365 t366 t353 t354 t355 bt372.1 bt372.2.1 bt372.2.2.1)) else (laws_FnMainMoves.j0 k t356 t362 bt367.2.2.2 bt372.2.2.2 true t364 t365 t366 t353 t354 t355 bt372.1 bt372.2.1 bt372.2.2.1))))) = some r := H
  have A6 := Aside0.mk A60
  clear A60
  replace H := Option.bind_eq_some_iff.mp H
  obtain ⟨⟨t367, t368, t369, t370⟩, A70, H⟩ := H
  replace H : ((impl_Finish.f k t364 t365 t366 t353 t354 t355 t356).bind fun bt372 => (if (bt372.2.2.2 != t370) = true then (laws_FnMainMoves.j0 k t356 t362 t370 bt372.2.2.2 true t364 t365 t366 t353 t354 t355 bt372.1 bt372.2.1 bt372.2.2.1) else (if bt372.2.2.2 = true then ((spec_Narrow.f t364 t365 t366 t362).bind fun t377 => (laws_FnMainMoves.j0 k t356 t362 t370 bt372.2.2.2 (!t377) t364 t365 t366 t353 t354 t355 bt372.1 bt372.2.1 bt372.2.2.1)) else (laws_FnMainMoves.j0 k t356 t362 t370 bt372.2.2.2 true t364 t365 t366 t353 t354 t355 bt372.1 bt372.2.1 bt372.2.2.1)))) = some r := H
  have A7 := Aside0.mk A70
  clear A70
  replace H := Option.bind_eq_some_iff.mp H
  obtain ⟨⟨t372, t373, t374, t375⟩, A80, H⟩ := H
  replace H : (if (t375 != t370) = true then (laws_FnMainMoves.j0 k t356 t362 t370 t375 true t364 t365 t366 t353 t354 t355 t372 t373 t374) else (if t375 = true then ((spec_Narrow.f t364 t365 t366 t362).bind fun t377 => (laws_FnMainMoves.j0 k t356 t362 t370 t375 (!t377) t364 t365 t366 t353 t354 t355 t372 t373 t374)) else (laws_FnMainMoves.j0 k t356 t362 t370 t375 true t364 t365 t366 t353 t354 t355 t372 t373 t374))) = some r := H
  have A8 := Aside0.mk A80
  clear A80
  have HC9 := Aside0.mk H
  clear H
  go_enter Try.func13, Try.ntmps13
  go_upto_region 8 with (first | ((with_reducible refine gate_callee (f := 18) rfl ?_); refine goesL_ (some 16) rfl rfl Try.func18 (by kernel_rfl) rfl #[.slice A0 l0.length c0] rfl mt_ ?_; (with_reducible refine (laws_big.calls _ _ l0 false _ ?side1 ?side2 A2.out).mono ?_); (case side1 => repeat (first | exact HR0.out | (with_reducible refine Kd.C_alloc ?_ _) | (with_reducible refine Kd.C_drewN ?_ _) | (with_reducible refine Kd.C_drew ?_))); (case side2 => exact HC0.out); rintro e w' ⟨rfl, ⟨nd, rfl⟩⟩; refine ⟨_, rfl, ?_⟩) | ((with_reducible refine gate_callee (f := 66) rfl ?_); refine goesL_ (some 19) rfl rfl Try.func66 (by kernel_rfl) rfl #[.slice A0 l0.length c0] rfl mt_ ?_; (with_reducible refine (spec_DrawFinish.calls k _ _ l0 t350 t351 t352 t353 t354 t355 t356 _ ?side1 ?side2 A4.out).mono ?_); (case side1 => repeat (first | exact HR0.out | (with_reducible refine Kd.C_alloc ?_ _) | (with_reducible refine Kd.C_drewN ?_ _) | (with_reducible refine Kd.C_drew ?_))); (case side2 => exact HC0.out); rintro e w10 ⟨rfl, hb⟩; refine ⟨_, rfl, ?_⟩; have n0_ := Aside0.mk (below_step (be_ HB) hb); clear HB; have HB := n0_; clear n0_; (try clear hb); (try clear hb2); (try clear hk); (try clear hi)) | ((with_reducible refine gate_dst (N := 3) rfl ?_); refine box_event ?hg (N := 3) ?hd (cs := #[.int .i64 0, .int .i64 0, .int .i64 0]) (t := 35) ?hr ?_; (case hd => rfl); (case hg => rfl); (case hr => first | (go_simp; done) | (go_simp; rfl)); intro gb357 hg w11 hbox hb; have n0_ := Aside0.mk (below_step (be_ HB) hb); have n1_ := Aside0.mk (hbox); have n2_ := Aside0.mk ((by rw [hg]; exact (below_size (be_ HB)) : w.heap.size ≤ gb357)); have n3_ := Aside0.mk ((by rw [hg]; exact (below_size (be_ HB)) : w.heap.size ≤ gb357)); clear HB; have HB := n0_; have BK357 := n1_; have GW357 := n2_; have GE357 := n3_; clear n0_ n1_ n2_ n3_; clear hb hbox hg) | ((with_reducible refine gate_dst (N := 4) rfl ?_); refine box_event ?hg (N := 4) ?hd (cs := #[.int .i64 0, .int .i64 0, .int .i64 0]) (t := 35) ?hr ?_; (case hd => rfl); (case hg => rfl); (case hr => first | (go_simp; done) | (go_simp; rfl)); intro gb358 hg w12 hbox hb; have n0_ := Aside0.mk (blk_below (g := gb357) (o := .cells #[.int .i64 0, .int .i64 0, .int .i64 0] 35 (0, 0)) (bk_ BK357) hb); have n1_ := Aside0.mk (below_step (by repeat (first | (with_reducible first | exact HB.out | apply below_alloc | apply pw_below_drewN | apply below_drew1 | refine below_set ?_ GE357.out) | exact HB.out)) hb); have n2_ := Aside0.mk (hbox); have n3_ := Aside0.mk ((by rw [hg]; exact (below_size (by repeat (first | (with_reducible first | exact HB.out | apply below_alloc | apply pw_below_drewN | apply below_drew1 | refine below_set ?_ GE357.out) | exact HB.out))) : w.heap.size ≤ gb358)); have n4_ := Aside0.mk ((by rw [hg]; exact (below_size (by repeat (first | (with_reducible first | exact HB.out | apply below_alloc | apply pw_below_drewN | apply below_drew1 | refine below_set ?_ GE357.out) | exact HB.out))) : w.heap.size ≤ gb358)); have n5_ := Aside0.mk ((by rw [hg]; exact Nat.ne_of_lt (blk_lt (g := gb357) (o := .cells #[.int .i64 0, .int .i64 0, .int .i64 0] 35 (0, 0)) (bk_ BK357)) : gb357 ≠ gb358)); have n6_ := Aside0.mk ((by rw [hg]; exact Nat.ne_of_gt (blk_lt (g := gb357) (o := .cells #[.int .i64 0, .int .i64 0, .int .i64 0] 35 (0, 0)) (bk_ BK357)) : gb358 ≠ gb357)); clear BK357; clear HB; have BK357 := n0_; have HB := n1_; have BK358 := n2_; have GW358 := n3_; have GE358 := n4_; have NB357_358 := n5_; have NB358_357 := n6_; clear n0_ n1_ n2_ n3_ n4_ n5_ n6_; clear hb hbox hg; have hnb13 := NB357_358.out; have hnc13 := NB358_357.out; have hcz14_0 : w12.cell? ⟨gb357, 0, none⟩ = some (.int .i64 0) := (blk_cell BK357.out 0).trans rfl; have hcz14_1 : w12.cell? ⟨gb357, 1, none⟩ = some (.int .i64 0) := (blk_cell BK357.out 1).trans rfl; have hcz14_2 : w12.cell? ⟨gb357, 2, none⟩ = some (.int .i64 0) := (blk_cell BK357.out 2).trans rfl; have hfz14_0 := blk_frozen BK357.out 0; have hfz14_1 := blk_frozen BK357.out 1; have hfz14_2 := blk_frozen BK357.out 2; have hcz15_0 : w12.cell? ⟨gb358, 0, none⟩ = some (.int .i64 0) := (blk_cell BK358.out 0).trans rfl; have hcz15_1 : w12.cell? ⟨gb358, 1, none⟩ = some (.int .i64 0) := (blk_cell BK358.out 1).trans rfl; have hcz15_2 : w12.cell? ⟨gb358, 2, none⟩ = some (.int .i64 0) := (blk_cell BK358.out 2).trans rfl; have hfz15_0 := blk_frozen BK358.out 0; have hfz15_1 := blk_frozen BK358.out 1; have hfz15_2 := blk_frozen BK358.out 2) | ((with_reducible refine gate_callee (f := 67) rfl ?_); refine goesL_ (some 25) rfl rfl Try.func67 (by kernel_rfl) rfl #[.slice A0 l0.length c0] rfl mt_ ?_; (with_reducible refine (spec_DrawNarrow.calls k _ _ l0 t359 t360 t361 t362 _ ?side1 ?side2 A5.out).mono ?_); (case side1 => exact Kd.C_below HR0.out (by repeat (first | (with_reducible first | exact HB.out | apply below_alloc | apply pw_below_drewN | apply below_drew1 | refine below_set ?_ GE357.out | refine below_set ?_ GE358.out) | exact HB.out))); (case side2 => exact HC0.out); rintro e w16 ⟨rfl, hb⟩; refine ⟨_, rfl, ?_⟩; have n0_ := Aside0.mk (blk_below (g := gb357) (o := .cells #[.int .i64 t350, .int .i64 t351, .int .i64 t352] 35 (0, 0)) (by (with_reducible repeat (first | refine blk_drewN ?_ _ | refine blk_drew ?_ | refine blk_alloc ?_ _)); refine blk_far ?_ NB357_358.out _; (with_reducible repeat (first | refine blk_drewN ?_ _ | refine blk_drew ?_ | refine blk_alloc ?_ _)); refine blk_far ?_ NB357_358.out _; (with_reducible repeat (first | refine blk_drewN ?_ _ | refine blk_drew ?_ | refine blk_alloc ?_ _)); refine blk_far ?_ NB357_358.out _; (with_reducible repeat (first | refine blk_drewN ?_ _ | refine blk_drew ?_ | refine blk_alloc ?_ _)); refine blk_put (cs := #[.int .i64 t350, .int .i64 t351, .int .i64 0]) ?_ 2 _ rfl; (with_reducible repeat (first | refine blk_drewN ?_ _ | refine blk_drew ?_ | refine blk_alloc ?_ _)); refine blk_put (cs := #[.int .i64 t350, .int .i64 0, .int .i64 0]) ?_ 1 _ rfl; (with_reducible repeat (first | refine blk_drewN ?_ _ | refine blk_drew ?_ | refine blk_alloc ?_ _)); refine blk_put (cs := #[.int .i64 0, .int .i64 0, .int .i64 0]) ?_ 0 _ rfl; exact bk_ BK357) hb); have n1_ := Aside0.mk (blk_below (g := gb358) (o := .cells #[.int .i64 t353, .int .i64 t354, .int .i64 t355] 35 (0, 0)) (by (with_reducible repeat (first | refine blk_drewN ?_ _ | refine blk_drew ?_ | refine blk_alloc ?_ _)); refine blk_put (cs := #[.int .i64 t353, .int .i64 t354, .int .i64 0]) ?_ 2 _ rfl; (with_reducible repeat (first | refine blk_drewN ?_ _ | refine blk_drew ?_ | refine blk_alloc ?_ _)); refine blk_put (cs := #[.int .i64 t353, .int .i64 0, .int .i64 0]) ?_ 1 _ rfl; (with_reducible repeat (first | refine blk_drewN ?_ _ | refine blk_drew ?_ | refine blk_alloc ?_ _)); refine blk_put (cs := #[.int .i64 0, .int .i64 0, .int .i64 0]) ?_ 0 _ rfl; (with_reducible repeat (first | refine blk_drewN ?_ _ | refine blk_drew ?_ | refine blk_alloc ?_ _)); refine blk_far ?_ NB358_357.out _; (with_reducible repeat (first | refine blk_drewN ?_ _ | refine blk_drew ?_ | refine blk_alloc ?_ _)); refine blk_far ?_ NB358_357.out _; (with_reducible repeat (first | refine blk_drewN ?_ _ | refine blk_drew ?_ | refine blk_alloc ?_ _)); refine blk_far ?_ NB358_357.out _; exact bk_ BK358) hb); have n2_ := Aside0.mk (below_step (by repeat (first | (with_reducible first | exact HB.out | apply below_alloc | apply pw_below_drewN | apply below_drew1 | refine below_set ?_ GE357.out | refine below_set ?_ GE358.out) | exact HB.out)) hb); clear BK357; clear BK358; clear HB; have BK357 := n0_; have BK358 := n1_; have HB := n2_; clear n0_ n1_ n2_; (try clear hb); (try clear hb2); (try clear hk); (try clear hi)) | ((with_reducible refine gate_dst (N := 6) rfl ?_); refine box_event ?hg (N := 6) ?hd (cs := #[.int .i64 0, .int .i64 0, .int .i64 0]) (t := 35) ?hr ?_; (case hd => rfl); (case hg => rfl); (case hr => first | (go_simp; done) | (go_simp; rfl)); intro gb363 hg w17 hbox hb; have n0_ := Aside0.mk (blk_below (g := gb357) (o := .cells #[.int .i64 t350, .int .i64 t351, .int .i64 t352] 35 (0, 0)) (bk_ BK357) hb); have n1_ := Aside0.mk (blk_below (g := gb358) (o := .cells #[.int .i64 t353, .int .i64 t354, .int .i64 t355] 35 (0, 0)) (bk_ BK358) hb); have n2_ := Aside0.mk (below_step (by repeat (first | (with_reducible first | exact HB.out | apply below_alloc | apply pw_below_drewN | apply below_drew1 | refine below_set ?_ GE357.out | refine below_set ?_ GE358.out) | exact HB.out)) hb); have n3_ := Aside0.mk (hbox); have n4_ := Aside0.mk ((by rw [hg]; exact (below_size (by repeat (first | (with_reducible first | exact HB.out | apply below_alloc | apply pw_below_drewN | apply below_drew1 | refine below_set ?_ GE357.out | refine below_set ?_ GE358.out) | exact HB.out))) : w.heap.size ≤ gb363)); have n5_ := Aside0.mk ((by rw [hg]; exact (below_size (by repeat (first | (with_reducible first | exact HB.out | apply below_alloc | apply pw_below_drewN | apply below_drew1 | refine below_set ?_ GE357.out | refine below_set ?_ GE358.out) | exact HB.out))) : w.heap.size ≤ gb363)); have n6_ := Aside0.mk ((by rw [hg]; exact Nat.ne_of_lt (blk_lt (g := gb357) (o := .cells #[.int .i64 t350, .int .i64 t351, .int .i64 t352] 35 (0, 0)) (bk_ BK357)) : gb357 ≠ gb363)); have n7_ := Aside0.mk ((by rw [hg]; exact Nat.ne_of_gt (blk_lt (g := gb357) (o := .cells #[.int .i64 t350, .int .i64 t351, .int .i64 t352] 35 (0, 0)) (bk_ BK357)) : gb363 ≠ gb357)); have n8_ := Aside0.mk ((by rw [hg]; exact Nat.ne_of_lt (blk_lt (g := gb358) (o := .cells #[.int .i64 t353, .int .i64 t354, .int .i64 t355] 35 (0, 0)) (bk_ BK358)) : gb358 ≠ gb363)); have n9_ := Aside0.mk ((by rw [hg]; exact Nat.ne_of_gt (blk_lt (g := gb358) (o := .cells #[.int .i64 t353, .int .i64 t354, .int .i64 t355] 35 (0, 0)) (bk_ BK358)) : gb363 ≠ gb358)); clear BK357; clear BK358; clear HB; have BK357 := n0_; have BK358 := n1_; have HB := n2_; have BK363 := n3_; have GW363 := n4_; have GE363 := n5_; have NB357_363 := n6_; have NB363_357 := n7_; have NB358_363 := n8_; have NB363_358 := n9_; clear n0_ n1_ n2_ n3_ n4_ n5_ n6_ n7_ n8_ n9_; clear hb hbox hg; have hnb18 := NB363_357.out; have hnc18 := NB357_363.out; have hnb19 := NB363_358.out; have hnc19 := NB358_363.out; have hcz20_0 : w17.cell? ⟨gb363, 0, none⟩ = some (.int .i64 0) := (blk_cell BK363.out 0).trans rfl; have hcz20_1 : w17.cell? ⟨gb363, 1, none⟩ = some (.int .i64 0) := (blk_cell BK363.out 1).trans rfl; have hcz20_2 : w17.cell? ⟨gb363, 2, none⟩ = some (.int .i64 0) := (blk_cell BK363.out 2).trans rfl; have hfz20_0 := blk_frozen BK363.out 0; have hfz20_1 := blk_frozen BK363.out 1; have hfz20_2 := blk_frozen BK363.out 2; have hcz21_0 : w17.cell? ⟨gb357, 0, none⟩ = some (.int .i64 t350) := (blk_cell BK357.out 0).trans rfl; have hcz21_1 : w17.cell? ⟨gb357, 1, none⟩ = some (.int .i64 t351) := (blk_cell BK357.out 1).trans rfl; have hcz21_2 : w17.cell? ⟨gb357, 2, none⟩ = some (.int .i64 t352) := (blk_cell BK357.out 2).trans rfl; have hfz21_0 := blk_frozen BK357.out 0; have hfz21_1 := blk_frozen BK357.out 1; have hfz21_2 := blk_frozen BK357.out 2) | ((with_reducible refine gate_callee (f := 44) rfl ?_); refine goesL_ (some 30) rfl rfl Try.func44 (by kernel_rfl) rfl #[.agg #[.int .i64 t350, .int .i64 t351, .int .i64 t352], .int .i64 t362] rfl mt_ ?_; (with_reducible refine (spec_Dovetail.calls k t350 t351 t352 t362 t364 t365 t366 _ A6.out).mono ?_); rintro e w22 ⟨rfl, hb⟩; refine ⟨_, rfl, ?_⟩; have n0_ := Aside0.mk (blk_below (g := gb357) (o := .cells #[.int .i64 t350, .int .i64 t351, .int .i64 t352] 35 (0, 0)) (by (with_reducible repeat (first | refine blk_drewN ?_ _ | refine blk_drew ?_ | refine blk_alloc ?_ _)); refine blk_far ?_ NB357_363.out _; (with_reducible repeat (first | refine blk_drewN ?_ _ | refine blk_drew ?_ | refine blk_alloc ?_ _)); refine blk_far ?_ NB357_363.out _; (with_reducible repeat (first | refine blk_drewN ?_ _ | refine blk_drew ?_ | refine blk_alloc ?_ _)); refine blk_far ?_ NB357_363.out _; exact bk_ BK357) hb); have n1_ := Aside0.mk (blk_below (g := gb358) (o := .cells #[.int .i64 t353, .int .i64 t354, .int .i64 t355] 35 (0, 0)) (by (with_reducible repeat (first | refine blk_drewN ?_ _ | refine blk_drew ?_ | refine blk_alloc ?_ _)); refine blk_far ?_ NB358_363.out _; (with_reducible repeat (first | refine blk_drewN ?_ _ | refine blk_drew ?_ | refine blk_alloc ?_ _)); refine blk_far ?_ NB358_363.out _; (with_reducible repeat (first | refine blk_drewN ?_ _ | refine blk_drew ?_ | refine blk_alloc ?_ _)); refine blk_far ?_ NB358_363.out _; exact bk_ BK358) hb); have n2_ := Aside0.mk (blk_below (g := gb363) (o := .cells #[.int .i64 t359, .int .i64 t360, .int .i64 t361] 35 (0, 0)) (by (with_reducible repeat (first | refine blk_drewN ?_ _ | refine blk_drew ?_ | refine blk_alloc ?_ _)); refine blk_put (cs := #[.int .i64 t359, .int .i64 t360, .int .i64 0]) ?_ 2 _ rfl; (with_reducible repeat (first | refine blk_drewN ?_ _ | refine blk_drew ?_ | refine blk_alloc ?_ _)); refine blk_put (cs := #[.int .i64 t359, .int .i64 0, .int .i64 0]) ?_ 1 _ rfl; (with_reducible repeat (first | refine blk_drewN ?_ _ | refine blk_drew ?_ | refine blk_alloc ?_ _)); refine blk_put (cs := #[.int .i64 0, .int .i64 0, .int .i64 0]) ?_ 0 _ rfl; exact bk_ BK363) hb); have n3_ := Aside0.mk (below_step (by repeat (first | (with_reducible first | exact HB.out | apply below_alloc | apply pw_below_drewN | apply below_drew1 | refine below_set ?_ GE357.out | refine below_set ?_ GE358.out | refine below_set ?_ GE363.out) | exact HB.out)) hb); clear BK357; clear BK358; clear BK363; clear HB; have BK357 := n0_; have BK358 := n1_; have BK363 := n2_; have HB := n3_; clear n0_ n1_ n2_ n3_; (try clear hb); (try clear hb2); (try clear hk); (try clear hi); have hcz23_0 : w22.cell? ⟨gb357, 0, none⟩ = some (.int .i64 t350) := (blk_cell BK357.out 0).trans rfl; have hcz23_1 : w22.cell? ⟨gb357, 1, none⟩ = some (.int .i64 t351) := (blk_cell BK357.out 1).trans rfl; have hcz23_2 : w22.cell? ⟨gb357, 2, none⟩ = some (.int .i64 t352) := (blk_cell BK357.out 2).trans rfl; have hfz23_0 := blk_frozen BK357.out 0; have hfz23_1 := blk_frozen BK357.out 1; have hfz23_2 := blk_frozen BK357.out 2; have hcz24_0 : w22.cell? ⟨gb358, 0, none⟩ = some (.int .i64 t353) := (blk_cell BK358.out 0).trans rfl; have hcz24_1 : w22.cell? ⟨gb358, 1, none⟩ = some (.int .i64 t354) := (blk_cell BK358.out 1).trans rfl; have hcz24_2 : w22.cell? ⟨gb358, 2, none⟩ = some (.int .i64 t355) := (blk_cell BK358.out 2).trans rfl; have hfz24_0 := blk_frozen BK358.out 0; have hfz24_1 := blk_frozen BK358.out 1; have hfz24_2 := blk_frozen BK358.out 2) | ((with_reducible refine gate_callee (f := 68) rfl ?_); refine goesL_ (some 35) rfl rfl Try.func68 (by kernel_rfl) rfl #[.agg #[.int .i64 t364, .int .i64 t365, .int .i64 t366], .agg #[.int .i64 t353, .int .i64 t354, .int .i64 t355], .int .i64 t356] rfl mt_ ?_; (with_reducible refine (spec_Finish.calls k t364 t365 t366 t353 t354 t355 t356 t367 t368 t369 t370 _ A7.out).mono ?_); rintro e w25 ⟨rfl, hb⟩; refine ⟨_, rfl, ?_⟩; have n0_ := Aside0.mk (blk_below (g := gb357) (o := .cells #[.int .i64 t364, .int .i64 t365, .int .i64 t366] 35 (0, 0)) (by (with_reducible repeat (first | refine blk_drewN ?_ _ | refine blk_drew ?_ | refine blk_alloc ?_ _)); refine blk_put (cs := #[.int .i64 t364, .int .i64 t365, .int .i64 t352]) ?_ 2 _ rfl; (with_reducible repeat (first | refine blk_drewN ?_ _ | refine blk_drew ?_ | refine blk_alloc ?_ _)); refine blk_put (cs := #[.int .i64 t364, .int .i64 t351, .int .i64 t352]) ?_ 1 _ rfl; (with_reducible repeat (first | refine blk_drewN ?_ _ | refine blk_drew ?_ | refine blk_alloc ?_ _)); refine blk_put (cs := #[.int .i64 t350, .int .i64 t351, .int .i64 t352]) ?_ 0 _ rfl; exact bk_ BK357) hb); have n1_ := Aside0.mk (blk_below (g := gb358) (o := .cells #[.int .i64 t353, .int .i64 t354, .int .i64 t355] 35 (0, 0)) (by (with_reducible repeat (first | refine blk_drewN ?_ _ | refine blk_drew ?_ | refine blk_alloc ?_ _)); refine blk_far ?_ NB358_357.out _; (with_reducible repeat (first | refine blk_drewN ?_ _ | refine blk_drew ?_ | refine blk_alloc ?_ _)); refine blk_far ?_ NB358_357.out _; (with_reducible repeat (first | refine blk_drewN ?_ _ | refine blk_drew ?_ | refine blk_alloc ?_ _)); refine blk_far ?_ NB358_357.out _; exact bk_ BK358) hb); have n2_ := Aside0.mk (blk_below (g := gb363) (o := .cells #[.int .i64 t359, .int .i64 t360, .int .i64 t361] 35 (0, 0)) (by (with_reducible repeat (first | refine blk_drewN ?_ _ | refine blk_drew ?_ | refine blk_alloc ?_ _)); refine blk_far ?_ NB363_357.out _; (with_reducible repeat (first | refine blk_drewN ?_ _ | refine blk_drew ?_ | refine blk_alloc ?_ _)); refine blk_far ?_ NB363_357.out _; (with_reducible repeat (first | refine blk_drewN ?_ _ | refine blk_drew ?_ | refine blk_alloc ?_ _)); refine blk_far ?_ NB363_357.out _; exact bk_ BK363) hb); have n3_ := Aside0.mk (below_step (by repeat (first | (with_reducible first | exact HB.out | apply below_alloc | apply pw_below_drewN | apply below_drew1 | refine below_set ?_ GE357.out | refine below_set ?_ GE358.out | refine below_set ?_ GE363.out) | exact HB.out)) hb); clear BK357; clear BK358; clear BK363; clear HB; have BK357 := n0_; have BK358 := n1_; have BK363 := n2_; have HB := n3_; clear n0_ n1_ n2_ n3_; (try clear hb); (try clear hb2); (try clear hk); (try clear hi)) | ((with_reducible refine gate_dst (N := 8) rfl ?_); refine box_event ?hg (N := 8) ?hd (cs := #[.int .i64 0, .int .i64 0, .int .i64 0]) (t := 35) ?hr ?_; (case hd => rfl); (case hg => rfl); (case hr => first | (go_simp; done) | (go_simp; rfl)); intro gb371 hg w26 hbox hb; have n0_ := Aside0.mk (blk_below (g := gb357) (o := .cells #[.int .i64 t364, .int .i64 t365, .int .i64 t366] 35 (0, 0)) (bk_ BK357) hb); have n1_ := Aside0.mk (blk_below (g := gb358) (o := .cells #[.int .i64 t353, .int .i64 t354, .int .i64 t355] 35 (0, 0)) (bk_ BK358) hb); have n2_ := Aside0.mk (blk_below (g := gb363) (o := .cells #[.int .i64 t359, .int .i64 t360, .int .i64 t361] 35 (0, 0)) (bk_ BK363) hb); have n3_ := Aside0.mk (below_step (by repeat (first | (with_reducible first | exact HB.out | apply below_alloc | apply pw_below_drewN | apply below_drew1 | refine below_set ?_ GE357.out | refine below_set ?_ GE358.out | refine below_set ?_ GE363.out) | exact HB.out)) hb); have n4_ := Aside0.mk (hbox); have n5_ := Aside0.mk ((by rw [hg]; exact (below_size (by repeat (first | (with_reducible first | exact HB.out | apply below_alloc | apply pw_below_drewN | apply below_drew1 | refine below_set ?_ GE357.out | refine below_set ?_ GE358.out | refine below_set ?_ GE363.out) | exact HB.out))) : w.heap.size ≤ gb371)); have n6_ := Aside0.mk ((by rw [hg]; exact (below_size (by repeat (first | (with_reducible first | exact HB.out | apply below_alloc | apply pw_below_drewN | apply below_drew1 | refine below_set ?_ GE357.out | refine below_set ?_ GE358.out | refine below_set ?_ GE363.out) | exact HB.out))) : w.heap.size ≤ gb371)); have n7_ := Aside0.mk ((by rw [hg]; exact Nat.ne_of_lt (blk_lt (g := gb357) (o := .cells #[.int .i64 t364, .int .i64 t365, .int .i64 t366] 35 (0, 0)) (bk_ BK357)) : gb357 ≠ gb371)); have n8_ := Aside0.mk ((by rw [hg]; exact Nat.ne_of_gt (blk_lt (g := gb357) (o := .cells #[.int .i64 t364, .int .i64 t365, .int .i64 t366] 35 (0, 0)) (bk_ BK357)) : gb371 ≠ gb357)); have n9_ := Aside0.mk ((by rw [hg]; exact Nat.ne_of_lt (blk_lt (g := gb358) (o := .cells #[.int .i64 t353, .int .i64 t354, .int .i64 t355] 35 (0, 0)) (bk_ BK358)) : gb358 ≠ gb371)); have n10_ := Aside0.mk ((by rw [hg]; exact Nat.ne_of_gt (blk_lt (g := gb358) (o := .cells #[.int .i64 t353, .int .i64 t354, .int .i64 t355] 35 (0, 0)) (bk_ BK358)) : gb371 ≠ gb358)); have n11_ := Aside0.mk ((by rw [hg]; exact Nat.ne_of_lt (blk_lt (g := gb363) (o := .cells #[.int .i64 t359, .int .i64 t360, .int .i64 t361] 35 (0, 0)) (bk_ BK363)) : gb363 ≠ gb371)); have n12_ := Aside0.mk ((by rw [hg]; exact Nat.ne_of_gt (blk_lt (g := gb363) (o := .cells #[.int .i64 t359, .int .i64 t360, .int .i64 t361] 35 (0, 0)) (bk_ BK363)) : gb371 ≠ gb363)); clear BK357; clear BK358; clear BK363; clear HB; have BK357 := n0_; have BK358 := n1_; have BK363 := n2_; have HB := n3_; have BK371 := n4_; have GW371 := n5_; have GE371 := n6_; have NB357_371 := n7_; have NB371_357 := n8_; have NB358_371 := n9_; have NB371_358 := n10_; have NB363_371 := n11_; have NB371_363 := n12_; clear n0_ n1_ n2_ n3_ n4_ n5_ n6_ n7_ n8_ n9_ n10_ n11_ n12_; clear hb hbox hg; have hnb27 := NB371_357.out; have hnc27 := NB357_371.out; have hnb28 := NB371_358.out; have hnc28 := NB358_371.out; have hnb29 := NB371_363.out; have hnc29 := NB363_371.out; have hcz30_0 : w26.cell? ⟨gb371, 0, none⟩ = some (.int .i64 0) := (blk_cell BK371.out 0).trans rfl; have hcz30_1 : w26.cell? ⟨gb371, 1, none⟩ = some (.int .i64 0) := (blk_cell BK371.out 1).trans rfl; have hcz30_2 : w26.cell? ⟨gb371, 2, none⟩ = some (.int .i64 0) := (blk_cell BK371.out 2).trans rfl; have hfz30_0 := blk_frozen BK371.out 0; have hfz30_1 := blk_frozen BK371.out 1; have hfz30_2 := blk_frozen BK371.out 2; have hcz31_0 : w26.cell? ⟨gb357, 0, none⟩ = some (.int .i64 t364) := (blk_cell BK357.out 0).trans rfl; have hcz31_1 : w26.cell? ⟨gb357, 1, none⟩ = some (.int .i64 t365) := (blk_cell BK357.out 1).trans rfl; have hcz31_2 : w26.cell? ⟨gb357, 2, none⟩ = some (.int .i64 t366) := (blk_cell BK357.out 2).trans rfl; have hfz31_0 := blk_frozen BK357.out 0; have hfz31_1 := blk_frozen BK357.out 1; have hfz31_2 := blk_frozen BK357.out 2; have hcz32_0 : w26.cell? ⟨gb358, 0, none⟩ = some (.int .i64 t353) := (blk_cell BK358.out 0).trans rfl; have hcz32_1 : w26.cell? ⟨gb358, 1, none⟩ = some (.int .i64 t354) := (blk_cell BK358.out 1).trans rfl; have hcz32_2 : w26.cell? ⟨gb358, 2, none⟩ = some (.int .i64 t355) := (blk_cell BK358.out 2).trans rfl; have hfz32_0 := blk_frozen BK358.out 0; have hfz32_1 := blk_frozen BK358.out 1; have hfz32_2 := blk_frozen BK358.out 2) | ((with_reducible refine gate_callee (f := 69) rfl ?_); refine goesL_ (some 42) rfl rfl Try.func69 (by kernel_rfl) rfl #[.agg #[.int .i64 t364, .int .i64 t365, .int .i64 t366], .agg #[.int .i64 t353, .int .i64 t354, .int .i64 t355], .int .i64 t356] rfl mt_ ?_; (with_reducible refine (impl_Finish.calls k t364 t365 t366 t353 t354 t355 t356 t372 t373 t374 t375 _ A8.out).mono ?_); rintro e w33 ⟨rfl, hb⟩; refine ⟨_, rfl, ?_⟩; have n0_ := Aside0.mk (blk_below (g := gb357) (o := .cells #[.int .i64 t364, .int .i64 t365, .int .i64 t366] 35 (0, 0)) (by (with_reducible repeat (first | refine blk_drewN ?_ _ | refine blk_drew ?_ | refine blk_alloc ?_ _)); refine blk_far ?_ NB357_371.out _; (with_reducible repeat (first | refine blk_drewN ?_ _ | refine blk_drew ?_ | refine blk_alloc ?_ _)); refine blk_far ?_ NB357_371.out _; (with_reducible repeat (first | refine blk_drewN ?_ _ | refine blk_drew ?_ | refine blk_alloc ?_ _)); refine blk_far ?_ NB357_371.out _; exact bk_ BK357) hb); have n1_ := Aside0.mk (blk_below (g := gb358) (o := .cells #[.int .i64 t353, .int .i64 t354, .int .i64 t355] 35 (0, 0)) (by (with_reducible repeat (first | refine blk_drewN ?_ _ | refine blk_drew ?_ | refine blk_alloc ?_ _)); refine blk_far ?_ NB358_371.out _; (with_reducible repeat (first | refine blk_drewN ?_ _ | refine blk_drew ?_ | refine blk_alloc ?_ _)); refine blk_far ?_ NB358_371.out _; (with_reducible repeat (first | refine blk_drewN ?_ _ | refine blk_drew ?_ | refine blk_alloc ?_ _)); refine blk_far ?_ NB358_371.out _; exact bk_ BK358) hb); have n2_ := Aside0.mk (blk_below (g := gb363) (o := .cells #[.int .i64 t359, .int .i64 t360, .int .i64 t361] 35 (0, 0)) (by (with_reducible repeat (first | refine blk_drewN ?_ _ | refine blk_drew ?_ | refine blk_alloc ?_ _)); refine blk_far ?_ NB363_371.out _; (with_reducible repeat (first | refine blk_drewN ?_ _ | refine blk_drew ?_ | refine blk_alloc ?_ _)); refine blk_far ?_ NB363_371.out _; (with_reducible repeat (first | refine blk_drewN ?_ _ | refine blk_drew ?_ | refine blk_alloc ?_ _)); refine blk_far ?_ NB363_371.out _; exact bk_ BK363) hb); have n3_ := Aside0.mk (blk_below (g := gb371) (o := .cells #[.int .i64 t367, .int .i64 t368, .int .i64 t369] 35 (0, 0)) (by (with_reducible repeat (first | refine blk_drewN ?_ _ | refine blk_drew ?_ | refine blk_alloc ?_ _)); refine blk_put (cs := #[.int .i64 t367, .int .i64 t368, .int .i64 0]) ?_ 2 _ rfl; (with_reducible repeat (first | refine blk_drewN ?_ _ | refine blk_drew ?_ | refine blk_alloc ?_ _)); refine blk_put (cs := #[.int .i64 t367, .int .i64 0, .int .i64 0]) ?_ 1 _ rfl; (with_reducible repeat (first | refine blk_drewN ?_ _ | refine blk_drew ?_ | refine blk_alloc ?_ _)); refine blk_put (cs := #[.int .i64 0, .int .i64 0, .int .i64 0]) ?_ 0 _ rfl; exact bk_ BK371) hb); have n4_ := Aside0.mk (below_step (by repeat (first | (with_reducible first | exact HB.out | apply below_alloc | apply pw_below_drewN | apply below_drew1 | refine below_set ?_ GE357.out | refine below_set ?_ GE358.out | refine below_set ?_ GE363.out | refine below_set ?_ GE371.out) | exact HB.out)) hb); clear BK357; clear BK358; clear BK363; clear BK371; clear HB; have BK357 := n0_; have BK358 := n1_; have BK363 := n2_; have BK371 := n3_; have HB := n4_; clear n0_ n1_ n2_ n3_ n4_; (try clear hb); (try clear hb2); (try clear hk); (try clear hi)) | ((with_reducible refine gate_dst (N := 10) rfl ?_); refine box_event ?hg (N := 10) ?hd (cs := #[.int .i64 0, .int .i64 0, .int .i64 0]) (t := 35) ?hr ?_; (case hd => rfl); (case hg => rfl); (case hr => first | (go_simp; done) | (go_simp; rfl)); intro gb376 hg w34 hbox hb; have n0_ := Aside0.mk (blk_below (g := gb357) (o := .cells #[.int .i64 t364, .int .i64 t365, .int .i64 t366] 35 (0, 0)) (bk_ BK357) hb); have n1_ := Aside0.mk (blk_below (g := gb358) (o := .cells #[.int .i64 t353, .int .i64 t354, .int .i64 t355] 35 (0, 0)) (bk_ BK358) hb); have n2_ := Aside0.mk (blk_below (g := gb363) (o := .cells #[.int .i64 t359, .int .i64 t360, .int .i64 t361] 35 (0, 0)) (bk_ BK363) hb); have n3_ := Aside0.mk (blk_below (g := gb371) (o := .cells #[.int .i64 t367, .int .i64 t368, .int .i64 t369] 35 (0, 0)) (bk_ BK371) hb); have n4_ := Aside0.mk (below_step (by repeat (first | (with_reducible first | exact HB.out | apply below_alloc | apply pw_below_drewN | apply below_drew1 | refine below_set ?_ GE357.out | refine below_set ?_ GE358.out | refine below_set ?_ GE363.out | refine below_set ?_ GE371.out) | exact HB.out)) hb); have n5_ := Aside0.mk (hbox); have n6_ := Aside0.mk ((by rw [hg]; exact (below_size (by repeat (first | (with_reducible first | exact HB.out | apply below_alloc | apply pw_below_drewN | apply below_drew1 | refine below_set ?_ GE357.out | refine below_set ?_ GE358.out | refine below_set ?_ GE363.out | refine below_set ?_ GE371.out) | exact HB.out))) : w.heap.size ≤ gb376)); have n7_ := Aside0.mk ((by rw [hg]; exact (below_size (by repeat (first | (with_reducible first | exact HB.out | apply below_alloc | apply pw_below_drewN | apply below_drew1 | refine below_set ?_ GE357.out | refine below_set ?_ GE358.out | refine below_set ?_ GE363.out | refine below_set ?_ GE371.out) | exact HB.out))) : w.heap.size ≤ gb376)); have n8_ := Aside0.mk ((by rw [hg]; exact Nat.ne_of_lt (blk_lt (g := gb357) (o := .cells #[.int .i64 t364, .int .i64 t365, .int .i64 t366] 35 (0, 0)) (bk_ BK357)) : gb357 ≠ gb376)); have n9_ := Aside0.mk ((by rw [hg]; exact Nat.ne_of_gt (blk_lt (g := gb357) (o := .cells #[.int .i64 t364, .int .i64 t365, .int .i64 t366] 35 (0, 0)) (bk_ BK357)) : gb376 ≠ gb357)); have n10_ := Aside0.mk ((by rw [hg]; exact Nat.ne_of_lt (blk_lt (g := gb358) (o := .cells #[.int .i64 t353, .int .i64 t354, .int .i64 t355] 35 (0, 0)) (bk_ BK358)) : gb358 ≠ gb376)); have n11_ := Aside0.mk ((by rw [hg]; exact Nat.ne_of_gt (blk_lt (g := gb358) (o := .cells #[.int .i64 t353, .int .i64 t354, .int .i64 t355] 35 (0, 0)) (bk_ BK358)) : gb376 ≠ gb358)); have n12_ := Aside0.mk ((by rw [hg]; exact Nat.ne_of_lt (blk_lt (g := gb363) (o := .cells #[.int .i64 t359, .int .i64 t360, .int .i64 t361] 35 (0, 0)) (bk_ BK363)) : gb363 ≠ gb376)); have n13_ := Aside0.mk ((by rw [hg]; exact Nat.ne_of_gt (blk_lt (g := gb363) (o := .cells #[.int .i64 t359, .int .i64 t360, .int .i64 t361] 35 (0, 0)) (bk_ BK363)) : gb376 ≠ gb363)); have n14_ := Aside0.mk ((by rw [hg]; exact Nat.ne_of_lt (blk_lt (g := gb371) (o := .cells #[.int .i64 t367, .int .i64 t368, .int .i64 t369] 35 (0, 0)) (bk_ BK371)) : gb371 ≠ gb376)); have n15_ := Aside0.mk ((by rw [hg]; exact Nat.ne_of_gt (blk_lt (g := gb371) (o := .cells #[.int .i64 t367, .int .i64 t368, .int .i64 t369] 35 (0, 0)) (bk_ BK371)) : gb376 ≠ gb371)); clear BK357; clear BK358; clear BK363; clear BK371; clear HB; have BK357 := n0_; have BK358 := n1_; have BK363 := n2_; have BK371 := n3_; have HB := n4_; have BK376 := n5_; have GW376 := n6_; have GE376 := n7_; have NB357_376 := n8_; have NB376_357 := n9_; have NB358_376 := n10_; have NB376_358 := n11_; have NB363_376 := n12_; have NB376_363 := n13_; have NB371_376 := n14_; have NB376_371 := n15_; clear n0_ n1_ n2_ n3_ n4_ n5_ n6_ n7_ n8_ n9_ n10_ n11_ n12_ n13_ n14_ n15_; clear hb hbox hg; have hnb35 := NB376_357.out; have hnc35 := NB357_376.out; have hnb36 := NB376_358.out; have hnc36 := NB358_376.out; have hnb37 := NB376_363.out; have hnc37 := NB363_376.out; have hnb38 := NB376_371.out; have hnc38 := NB371_376.out; have hcz39_0 : w34.cell? ⟨gb376, 0, none⟩ = some (.int .i64 0) := (blk_cell BK376.out 0).trans rfl; have hcz39_1 : w34.cell? ⟨gb376, 1, none⟩ = some (.int .i64 0) := (blk_cell BK376.out 1).trans rfl; have hcz39_2 : w34.cell? ⟨gb376, 2, none⟩ = some (.int .i64 0) := (blk_cell BK376.out 2).trans rfl; have hfz39_0 := blk_frozen BK376.out 0; have hfz39_1 := blk_frozen BK376.out 1; have hfz39_2 := blk_frozen BK376.out 2))
  (try simp only [Act.put, List.setIfInBounds_toArray, List.set_cons_zero, List.set_cons_succ])
  go_cut [57] (fun v57 wc => ∃ (kq : Nat) (x57_8 : Bool), v57 = .bool x57_8 ∧ Aside0 (laws_FnMainMoves.j0 kq t356 t362 t370 t375 x57_8 t364 t365 t366 t353 t354 t355 t372 t373 t374 = some r) ∧ Aside0 (kq ≤ k) ∧ Aside0 (wc.heap[gb357]? = some (.cells #[.int .i64 t364, .int .i64 t365, .int .i64 t366] 35 (0, 0))) ∧ Aside0 (wc.heap[gb358]? = some (.cells #[.int .i64 t353, .int .i64 t354, .int .i64 t355] 35 (0, 0))) ∧ Aside0 (wc.heap[gb363]? = some (.cells #[.int .i64 t359, .int .i64 t360, .int .i64 t361] 35 (0, 0))) ∧ Aside0 (wc.heap[gb371]? = some (.cells #[.int .i64 t367, .int .i64 t368, .int .i64 t369] 35 (0, 0))) ∧ Aside0 (wc.heap[gb376]? = some (.cells #[.int .i64 t372, .int .i64 t373, .int .i64 t374] 35 (0, 0))) ∧ Aside0 (Below w.heap.size w wc))
  case first =>
   have H := HC9.out
   clear HC9
   by_cases c40 : (t375 != t370) = true
   ·rw [if_pos c40] at H
    have c40b0 : (t375 != t370) = true := c40
    (try (have c40b1 : decide (t375 = t370) = false := by simpa using c40))
    (try (have c40b2 : (t375 == t370) = false := by simpa using c40))
    (try (have c40b3 : ¬ (t375 = t370) := by simpa using c40))
    clear c40
    (first | rw [c40b0] | (simp only [i64_w, i32_w]; rw [c40b0]) | skip)
    have H' := Aside0.mk H
    clear H
    go_wp2
    go_meet
    case rel => exact ⟨_, (true), (by first | rfl | (simp; done) | (simp [*]; done)), H', ⟨by first | omega | exact Nat.le_refl _⟩, ⟨by (with_reducible repeat (first | refine blk_drewN ?_ _ | refine blk_drew ?_ | refine blk_alloc ?_ _)); refine blk_far ?_ NB357_376.out _; (with_reducible repeat (first | refine blk_drewN ?_ _ | refine blk_drew ?_ | refine blk_alloc ?_ _)); refine blk_far ?_ NB357_376.out _; (with_reducible repeat (first | refine blk_drewN ?_ _ | refine blk_drew ?_ | refine blk_alloc ?_ _)); refine blk_far ?_ NB357_376.out _; exact bk_ BK357⟩, ⟨by (with_reducible repeat (first | refine blk_drewN ?_ _ | refine blk_drew ?_ | refine blk_alloc ?_ _)); refine blk_far ?_ NB358_376.out _; (with_reducible repeat (first | refine blk_drewN ?_ _ | refine blk_drew ?_ | refine blk_alloc ?_ _)); refine blk_far ?_ NB358_376.out _; (with_reducible repeat (first | refine blk_drewN ?_ _ | refine blk_drew ?_ | refine blk_alloc ?_ _)); refine blk_far ?_ NB358_376.out _; exact bk_ BK358⟩, ⟨by (with_reducible repeat (first | refine blk_drewN ?_ _ | refine blk_drew ?_ | refine blk_alloc ?_ _)); refine blk_far ?_ NB363_376.out _; (with_reducible repeat (first | refine blk_drewN ?_ _ | refine blk_drew ?_ | refine blk_alloc ?_ _)); refine blk_far ?_ NB363_376.out _; (with_reducible repeat (first | refine blk_drewN ?_ _ | refine blk_drew ?_ | refine blk_alloc ?_ _)); refine blk_far ?_ NB363_376.out _; exact bk_ BK363⟩, ⟨by (with_reducible repeat (first | refine blk_drewN ?_ _ | refine blk_drew ?_ | refine blk_alloc ?_ _)); refine blk_far ?_ NB371_376.out _; (with_reducible repeat (first | refine blk_drewN ?_ _ | refine blk_drew ?_ | refine blk_alloc ?_ _)); refine blk_far ?_ NB371_376.out _; (with_reducible repeat (first | refine blk_drewN ?_ _ | refine blk_drew ?_ | refine blk_alloc ?_ _)); refine blk_far ?_ NB371_376.out _; exact bk_ BK371⟩, ⟨by (with_reducible repeat (first | refine blk_drewN ?_ _ | refine blk_drew ?_ | refine blk_alloc ?_ _)); refine blk_put (cs := #[.int .i64 t372, .int .i64 t373, .int .i64 0]) ?_ 2 _ rfl; (with_reducible repeat (first | refine blk_drewN ?_ _ | refine blk_drew ?_ | refine blk_alloc ?_ _)); refine blk_put (cs := #[.int .i64 t372, .int .i64 0, .int .i64 0]) ?_ 1 _ rfl; (with_reducible repeat (first | refine blk_drewN ?_ _ | refine blk_drew ?_ | refine blk_alloc ?_ _)); refine blk_put (cs := #[.int .i64 0, .int .i64 0, .int .i64 0]) ?_ 0 _ rfl; exact bk_ BK376⟩, ⟨by repeat (first | (with_reducible first | exact HB.out | apply below_alloc | apply pw_below_drewN | apply below_drew1 | refine below_set ?_ GE357.out | refine below_set ?_ GE358.out | refine below_set ?_ GE363.out | refine below_set ?_ GE371.out | refine below_set ?_ GE376.out) | exact HB.out)⟩⟩
   ·rw [if_neg c40] at H
    have c40b0 : (t375 != t370) = false := by simpa using c40
    (try (have c40b1 : decide (t375 = t370) = true := by simpa using c40))
    (try (have c40b2 : (t375 == t370) = true := by simpa using c40))
    clear c40
    (first | rw [c40b0] | (simp only [i64_w, i32_w]; rw [c40b0]) | skip)
    by_cases c41 : t375 = true
    ·subst c41
     have H1 : ((spec_Narrow.f t364 t365 t366 t362).bind fun t377 => (laws_FnMainMoves.j0 k t356 t362 t370 true (!t377) t364 t365 t366 t353 t354 t355 t372 t373 t374)) = some r := by rw [if_pos rfl] at H; exact H
     clear H
     have H := H1
     clear H1
     replace H := Option.bind_eq_some_iff.mp H
     obtain ⟨t377, A420, H⟩ := H
     replace H : (laws_FnMainMoves.j0 k t356 t362 t370 true (!t377) t364 t365 t366 t353 t354 t355 t372 t373 t374) = some r := H
     have A42 := Aside0.mk A420
     clear A420
     have H' := Aside0.mk H
     clear H
     have hnb43 := NB357_358.out
     have hnc43 := NB358_357.out
     have hnb44 := NB357_363.out
     have hnc44 := NB363_357.out
     have hnb45 := NB357_371.out
     have hnc45 := NB371_357.out
     have hnb46 := NB357_376.out
     have hnc46 := NB376_357.out
     have hcz47_0 : w34.cell? ⟨gb357, 0, none⟩ = some (.int .i64 t364) := (blk_cell BK357.out 0).trans rfl
     have hcz47_1 : w34.cell? ⟨gb357, 1, none⟩ = some (.int .i64 t365) := (blk_cell BK357.out 1).trans rfl
     have hcz47_2 : w34.cell? ⟨gb357, 2, none⟩ = some (.int .i64 t366) := (blk_cell BK357.out 2).trans rfl
     have hfz47_0 := blk_frozen BK357.out 0
     have hfz47_1 := blk_frozen BK357.out 1
     have hfz47_2 := blk_frozen BK357.out 2
     go_wp2_with (first | (go_at_call 27; (with_reducible refine (spec_Narrow.calls t364 t365 t366 t362 t377 _ A42.out).mono ?_); rintro e w48 ⟨rfl, hb⟩; have n0_ := Aside0.mk (blk_below (g := gb357) (o := .cells #[.int .i64 t364, .int .i64 t365, .int .i64 t366] 35 (0, 0)) (by (with_reducible repeat (first | refine blk_drewN ?_ _ | refine blk_drew ?_ | refine blk_alloc ?_ _)); refine blk_far ?_ NB357_376.out _; (with_reducible repeat (first | refine blk_drewN ?_ _ | refine blk_drew ?_ | refine blk_alloc ?_ _)); refine blk_far ?_ NB357_376.out _; (with_reducible repeat (first | refine blk_drewN ?_ _ | refine blk_drew ?_ | refine blk_alloc ?_ _)); refine blk_far ?_ NB357_376.out _; exact bk_ BK357) hb); have n1_ := Aside0.mk (blk_below (g := gb358) (o := .cells #[.int .i64 t353, .int .i64 t354, .int .i64 t355] 35 (0, 0)) (by (with_reducible repeat (first | refine blk_drewN ?_ _ | refine blk_drew ?_ | refine blk_alloc ?_ _)); refine blk_far ?_ NB358_376.out _; (with_reducible repeat (first | refine blk_drewN ?_ _ | refine blk_drew ?_ | refine blk_alloc ?_ _)); refine blk_far ?_ NB358_376.out _; (with_reducible repeat (first | refine blk_drewN ?_ _ | refine blk_drew ?_ | refine blk_alloc ?_ _)); refine blk_far ?_ NB358_376.out _; exact bk_ BK358) hb); have n2_ := Aside0.mk (blk_below (g := gb363) (o := .cells #[.int .i64 t359, .int .i64 t360, .int .i64 t361] 35 (0, 0)) (by (with_reducible repeat (first | refine blk_drewN ?_ _ | refine blk_drew ?_ | refine blk_alloc ?_ _)); refine blk_far ?_ NB363_376.out _; (with_reducible repeat (first | refine blk_drewN ?_ _ | refine blk_drew ?_ | refine blk_alloc ?_ _)); refine blk_far ?_ NB363_376.out _; (with_reducible repeat (first | refine blk_drewN ?_ _ | refine blk_drew ?_ | refine blk_alloc ?_ _)); refine blk_far ?_ NB363_376.out _; exact bk_ BK363) hb); have n3_ := Aside0.mk (blk_below (g := gb371) (o := .cells #[.int .i64 t367, .int .i64 t368, .int .i64 t369] 35 (0, 0)) (by (with_reducible repeat (first | refine blk_drewN ?_ _ | refine blk_drew ?_ | refine blk_alloc ?_ _)); refine blk_far ?_ NB371_376.out _; (with_reducible repeat (first | refine blk_drewN ?_ _ | refine blk_drew ?_ | refine blk_alloc ?_ _)); refine blk_far ?_ NB371_376.out _; (with_reducible repeat (first | refine blk_drewN ?_ _ | refine blk_drew ?_ | refine blk_alloc ?_ _)); refine blk_far ?_ NB371_376.out _; exact bk_ BK371) hb); have n4_ := Aside0.mk (blk_below (g := gb376) (o := .cells #[.int .i64 t372, .int .i64 t373, .int .i64 t374] 35 (0, 0)) (by (with_reducible repeat (first | refine blk_drewN ?_ _ | refine blk_drew ?_ | refine blk_alloc ?_ _)); refine blk_put (cs := #[.int .i64 t372, .int .i64 t373, .int .i64 0]) ?_ 2 _ rfl; (with_reducible repeat (first | refine blk_drewN ?_ _ | refine blk_drew ?_ | refine blk_alloc ?_ _)); refine blk_put (cs := #[.int .i64 t372, .int .i64 0, .int .i64 0]) ?_ 1 _ rfl; (with_reducible repeat (first | refine blk_drewN ?_ _ | refine blk_drew ?_ | refine blk_alloc ?_ _)); refine blk_put (cs := #[.int .i64 0, .int .i64 0, .int .i64 0]) ?_ 0 _ rfl; exact bk_ BK376) hb); have n5_ := Aside0.mk (below_step (by repeat (first | (with_reducible first | exact HB.out | apply below_alloc | apply pw_below_drewN | apply below_drew1 | refine below_set ?_ GE357.out | refine below_set ?_ GE358.out | refine below_set ?_ GE363.out | refine below_set ?_ GE371.out | refine below_set ?_ GE376.out) | exact HB.out)) hb); clear BK357; clear BK358; clear BK363; clear BK371; clear BK376; clear HB; have BK357 := n0_; have BK358 := n1_; have BK363 := n2_; have BK371 := n3_; have BK376 := n4_; have HB := n5_; clear n0_ n1_ n2_ n3_ n4_ n5_; (try clear hb); (try clear hb2); (try clear hk); (try clear hi)))
     go_meet
     case rel => exact ⟨_, (!t377), (by first | rfl | (simp; done) | (simp [*]; done)), H', ⟨by first | omega | exact Nat.le_refl _⟩, ⟨bk_ BK357⟩, ⟨bk_ BK358⟩, ⟨bk_ BK363⟩, ⟨bk_ BK371⟩, ⟨bk_ BK376⟩, ⟨by repeat (first | (with_reducible first | exact HB.out | apply below_alloc | apply pw_below_drewN | apply below_drew1 | refine below_set ?_ GE357.out | refine below_set ?_ GE358.out | refine below_set ?_ GE363.out | refine below_set ?_ GE371.out | refine below_set ?_ GE376.out) | exact HB.out)⟩⟩
    ·replace c41 := Bool.eq_false_iff.mpr c41
     subst c41
     have H1 : (laws_FnMainMoves.j0 k t356 t362 t370 false true t364 t365 t366 t353 t354 t355 t372 t373 t374) = some r := by rw [if_neg (show ¬ (false = true) by decide)] at H; exact H
     clear H
     have H := H1
     clear H1
     have H' := Aside0.mk H
     clear H
     go_wp2
     go_meet
     case rel => exact ⟨_, (true), (by first | rfl | (simp; done) | (simp [*]; done)), H', ⟨by first | omega | exact Nat.le_refl _⟩, ⟨by (with_reducible repeat (first | refine blk_drewN ?_ _ | refine blk_drew ?_ | refine blk_alloc ?_ _)); refine blk_far ?_ NB357_376.out _; (with_reducible repeat (first | refine blk_drewN ?_ _ | refine blk_drew ?_ | refine blk_alloc ?_ _)); refine blk_far ?_ NB357_376.out _; (with_reducible repeat (first | refine blk_drewN ?_ _ | refine blk_drew ?_ | refine blk_alloc ?_ _)); refine blk_far ?_ NB357_376.out _; exact bk_ BK357⟩, ⟨by (with_reducible repeat (first | refine blk_drewN ?_ _ | refine blk_drew ?_ | refine blk_alloc ?_ _)); refine blk_far ?_ NB358_376.out _; (with_reducible repeat (first | refine blk_drewN ?_ _ | refine blk_drew ?_ | refine blk_alloc ?_ _)); refine blk_far ?_ NB358_376.out _; (with_reducible repeat (first | refine blk_drewN ?_ _ | refine blk_drew ?_ | refine blk_alloc ?_ _)); refine blk_far ?_ NB358_376.out _; exact bk_ BK358⟩, ⟨by (with_reducible repeat (first | refine blk_drewN ?_ _ | refine blk_drew ?_ | refine blk_alloc ?_ _)); refine blk_far ?_ NB363_376.out _; (with_reducible repeat (first | refine blk_drewN ?_ _ | refine blk_drew ?_ | refine blk_alloc ?_ _)); refine blk_far ?_ NB363_376.out _; (with_reducible repeat (first | refine blk_drewN ?_ _ | refine blk_drew ?_ | refine blk_alloc ?_ _)); refine blk_far ?_ NB363_376.out _; exact bk_ BK363⟩, ⟨by (with_reducible repeat (first | refine blk_drewN ?_ _ | refine blk_drew ?_ | refine blk_alloc ?_ _)); refine blk_far ?_ NB371_376.out _; (with_reducible repeat (first | refine blk_drewN ?_ _ | refine blk_drew ?_ | refine blk_alloc ?_ _)); refine blk_far ?_ NB371_376.out _; (with_reducible repeat (first | refine blk_drewN ?_ _ | refine blk_drew ?_ | refine blk_alloc ?_ _)); refine blk_far ?_ NB371_376.out _; exact bk_ BK371⟩, ⟨by (with_reducible repeat (first | refine blk_drewN ?_ _ | refine blk_drew ?_ | refine blk_alloc ?_ _)); refine blk_put (cs := #[.int .i64 t372, .int .i64 t373, .int .i64 0]) ?_ 2 _ rfl; (with_reducible repeat (first | refine blk_drewN ?_ _ | refine blk_drew ?_ | refine blk_alloc ?_ _)); refine blk_put (cs := #[.int .i64 t372, .int .i64 0, .int .i64 0]) ?_ 1 _ rfl; (with_reducible repeat (first | refine blk_drewN ?_ _ | refine blk_drew ?_ | refine blk_alloc ?_ _)); refine blk_put (cs := #[.int .i64 0, .int .i64 0, .int .i64 0]) ?_ 0 _ rfl; exact bk_ BK376⟩, ⟨by repeat (first | (with_reducible first | exact HB.out | apply below_alloc | apply pw_below_drewN | apply below_drew1 | refine below_set ?_ GE357.out | refine below_set ?_ GE358.out | refine below_set ?_ GE363.out | refine below_set ?_ GE371.out | refine below_set ?_ GE376.out) | exact HB.out)⟩⟩
  case rest =>
   clear HC9
   try clear c1
   try clear c2
   try clear p2
   try clear c3
   try clear c4
   try clear c6
   try clear c13
   try clear c18
   try clear c19
   try clear c27
   try clear c28
   try clear c29
   try clear c35
   try clear c36
   try clear c37
   try clear c38
   try clear c40
   try clear c40b0
   try clear c40b1
   try clear c40b2
   try clear c41
   try clear c43
   try clear c44
   try clear c45
   try clear c46
   try clear hcz14_0
   try clear hcz14_1
   try clear hcz14_2
   try clear hcz15_0
   try clear hcz15_1
   try clear hcz15_2
   try clear hcz20_0
   try clear hcz20_1
   try clear hcz20_2
   try clear hcz21_0
   try clear hcz21_1
   try clear hcz21_2
   try clear hcz23_0
   try clear hcz23_1
   try clear hcz23_2
   try clear hcz24_0
   try clear hcz24_1
   try clear hcz24_2
   try clear hcz30_0
   try clear hcz30_1
   try clear hcz30_2
   try clear hcz31_0
   try clear hcz31_1
   try clear hcz31_2
   try clear hcz32_0
   try clear hcz32_1
   try clear hcz32_2
   try clear hcz39_0
   try clear hcz39_1
   try clear hcz39_2
   try clear hcz47_0
   try clear hcz47_1
   try clear hcz47_2
   try clear hfz14_0
   try clear hfz14_1
   try clear hfz14_2
   try clear hfz15_0
   try clear hfz15_1
   try clear hfz15_2
   try clear hfz20_0
   try clear hfz20_1
   try clear hfz20_2
   try clear hfz21_0
   try clear hfz21_1
   try clear hfz21_2
   try clear hfz23_0
   try clear hfz23_1
   try clear hfz23_2
   try clear hfz24_0
   try clear hfz24_1
   try clear hfz24_2
   try clear hfz30_0
   try clear hfz30_1
   try clear hfz30_2
   try clear hfz31_0
   try clear hfz31_1
   try clear hfz31_2
   try clear hfz32_0
   try clear hfz32_1
   try clear hfz32_2
   try clear hfz39_0
   try clear hfz39_1
   try clear hfz39_2
   try clear hfz47_0
   try clear hfz47_1
   try clear hfz47_2
   obtain ⟨kq, x57_8, rfl, HA, HJ8, BK357, BK358, BK363, BK371, BK376, HB⟩ := hcut
   cases kq with
   | zero => exact absurd HA.out (by simp [laws_FnMainMoves.j0])
   | succ kj8 =>
    have H := HA.out
    clear HA
    simp only [laws_FnMainMoves.j0] at H
    by_cases c49 : x57_8 = true
    ·subst c49
     have H1 : (some (t375 == t370)) = some r := by rw [if_pos rfl] at H; exact H
     clear H
     have H := H1
     clear H1
     obtain rfl := Option.some.inj H
     go_wp2
     go_ret
     exact ⟨by first | rfl | (simp [errW_none, errW_some] <;> rfl) | (simp [*, errW_none, errW_some] <;> rfl), by repeat (first | (with_reducible first | exact HB.out | apply below_alloc | apply pw_below_drewN | apply below_drew1 | refine below_set ?_ GE357.out | refine below_set ?_ GE358.out | refine below_set ?_ GE363.out | refine below_set ?_ GE371.out | refine below_set ?_ GE376.out) | exact HB.out)⟩
    ·replace c49 := Bool.eq_false_iff.mpr c49
     subst c49
     have H1 : ((impl_Dovetail.f t372 t373 t374 t362).bind fun bt378 => (laws_FnMainMoves.l0 kj8 t356 0 t364 t365 t366 t353 t354 t355 bt378.1 bt378.2.1 bt378.2.2)) = some r := by rw [if_neg (show ¬ (false = true) by decide)] at H; exact H
     clear H
     have H := H1
     clear H1
     replace H := Option.bind_eq_some_iff.mp H
     obtain ⟨⟨t378, t379, t380⟩, A500, H⟩ := H
     replace H : (laws_FnMainMoves.l0 kj8 t356 0 t364 t365 t366 t353 t354 t355 t378 t379 t380) = some r := H
     have A50 := Aside0.mk A500
     clear A500
     have H' := Aside0.mk H
     clear H
     have hnb51 := NB376_357.out
     have hnc51 := NB357_376.out
     have hnb52 := NB376_358.out
     have hnc52 := NB358_376.out
     have hnb53 := NB376_363.out
     have hnc53 := NB363_376.out
     have hnb54 := NB376_371.out
     have hnc54 := NB371_376.out
     have hcz55_0 : wc.cell? ⟨gb376, 0, none⟩ = some (.int .i64 t372) := (blk_cell BK376.out 0).trans rfl
     have hcz55_1 : wc.cell? ⟨gb376, 1, none⟩ = some (.int .i64 t373) := (blk_cell BK376.out 1).trans rfl
     have hcz55_2 : wc.cell? ⟨gb376, 2, none⟩ = some (.int .i64 t374) := (blk_cell BK376.out 2).trans rfl
     have hfz55_0 := blk_frozen BK376.out 0
     have hfz55_1 := blk_frozen BK376.out 1
     have hfz55_2 := blk_frozen BK376.out 2
     go_wp2_with (first | ((with_reducible refine gate_callee (f := 24) rfl ?_); refine goesL_ (some 63) rfl rfl Try.func24 (by kernel_rfl) rfl #[.agg #[.int .i64 t372, .int .i64 t373, .int .i64 t374], .int .i64 t362] rfl mt_ ?_; (with_reducible refine (impl_Dovetail.calls t372 t373 t374 t362 t378 t379 t380 _ A50.out).mono ?_); rintro e w56 ⟨rfl, hb⟩; refine ⟨_, rfl, ?_⟩; have n0_ := Aside0.mk (blk_below (g := gb357) (o := .cells #[.int .i64 t364, .int .i64 t365, .int .i64 t366] 35 (0, 0)) (bk_ BK357) hb); have n1_ := Aside0.mk (blk_below (g := gb358) (o := .cells #[.int .i64 t353, .int .i64 t354, .int .i64 t355] 35 (0, 0)) (bk_ BK358) hb); have n2_ := Aside0.mk (blk_below (g := gb363) (o := .cells #[.int .i64 t359, .int .i64 t360, .int .i64 t361] 35 (0, 0)) (bk_ BK363) hb); have n3_ := Aside0.mk (blk_below (g := gb371) (o := .cells #[.int .i64 t367, .int .i64 t368, .int .i64 t369] 35 (0, 0)) (bk_ BK371) hb); have n4_ := Aside0.mk (blk_below (g := gb376) (o := .cells #[.int .i64 t372, .int .i64 t373, .int .i64 t374] 35 (0, 0)) (bk_ BK376) hb); have n5_ := Aside0.mk (below_step (by repeat (first | (with_reducible first | exact HB.out | apply below_alloc | apply pw_below_drewN | apply below_drew1 | refine below_set ?_ GE357.out | refine below_set ?_ GE358.out | refine below_set ?_ GE363.out | refine below_set ?_ GE371.out | refine below_set ?_ GE376.out) | exact HB.out)) hb); clear BK357; clear BK358; clear BK363; clear BK371; clear BK376; clear HB; have BK357 := n0_; have BK358 := n1_; have BK363 := n2_; have BK371 := n3_; have BK376 := n4_; have HB := n5_; clear n0_ n1_ n2_ n3_ n4_ n5_; (try clear hb); (try clear hb2); (try clear hk); (try clear hi)) | ((with_reducible refine gate_dst (N := 12) rfl ?_); refine box_event ?hg (N := 12) ?hd (cs := #[.int .i64 0, .int .i64 0, .int .i64 0]) (t := 35) ?hr ?_; (case hd => rfl); (case hg => rfl); (case hr => first | (go_simp; done) | (go_simp; rfl)); intro gb381 hg w57 hbox hb; have n0_ := Aside0.mk (blk_below (g := gb357) (o := .cells #[.int .i64 t364, .int .i64 t365, .int .i64 t366] 35 (0, 0)) (bk_ BK357) hb); have n1_ := Aside0.mk (blk_below (g := gb358) (o := .cells #[.int .i64 t353, .int .i64 t354, .int .i64 t355] 35 (0, 0)) (bk_ BK358) hb); have n2_ := Aside0.mk (blk_below (g := gb363) (o := .cells #[.int .i64 t359, .int .i64 t360, .int .i64 t361] 35 (0, 0)) (bk_ BK363) hb); have n3_ := Aside0.mk (blk_below (g := gb371) (o := .cells #[.int .i64 t367, .int .i64 t368, .int .i64 t369] 35 (0, 0)) (bk_ BK371) hb); have n4_ := Aside0.mk (blk_below (g := gb376) (o := .cells #[.int .i64 t372, .int .i64 t373, .int .i64 t374] 35 (0, 0)) (bk_ BK376) hb); have n5_ := Aside0.mk (below_step (by repeat (first | (with_reducible first | exact HB.out | apply below_alloc | apply pw_below_drewN | apply below_drew1 | refine below_set ?_ GE357.out | refine below_set ?_ GE358.out | refine below_set ?_ GE363.out | refine below_set ?_ GE371.out | refine below_set ?_ GE376.out) | exact HB.out)) hb); have n6_ := Aside0.mk (hbox); have n7_ := Aside0.mk ((by rw [hg]; exact (below_size (by repeat (first | (with_reducible first | exact HB.out | apply below_alloc | apply pw_below_drewN | apply below_drew1 | refine below_set ?_ GE357.out | refine below_set ?_ GE358.out | refine below_set ?_ GE363.out | refine below_set ?_ GE371.out | refine below_set ?_ GE376.out) | exact HB.out))) : w.heap.size ≤ gb381)); have n8_ := Aside0.mk ((by rw [hg]; exact (below_size (by repeat (first | (with_reducible first | exact HB.out | apply below_alloc | apply pw_below_drewN | apply below_drew1 | refine below_set ?_ GE357.out | refine below_set ?_ GE358.out | refine below_set ?_ GE363.out | refine below_set ?_ GE371.out | refine below_set ?_ GE376.out) | exact HB.out))) : w.heap.size ≤ gb381)); have n9_ := Aside0.mk ((by rw [hg]; exact Nat.ne_of_lt (blk_lt (g := gb357) (o := .cells #[.int .i64 t364, .int .i64 t365, .int .i64 t366] 35 (0, 0)) (bk_ BK357)) : gb357 ≠ gb381)); have n10_ := Aside0.mk ((by rw [hg]; exact Nat.ne_of_gt (blk_lt (g := gb357) (o := .cells #[.int .i64 t364, .int .i64 t365, .int .i64 t366] 35 (0, 0)) (bk_ BK357)) : gb381 ≠ gb357)); have n11_ := Aside0.mk ((by rw [hg]; exact Nat.ne_of_lt (blk_lt (g := gb358) (o := .cells #[.int .i64 t353, .int .i64 t354, .int .i64 t355] 35 (0, 0)) (bk_ BK358)) : gb358 ≠ gb381)); have n12_ := Aside0.mk ((by rw [hg]; exact Nat.ne_of_gt (blk_lt (g := gb358) (o := .cells #[.int .i64 t353, .int .i64 t354, .int .i64 t355] 35 (0, 0)) (bk_ BK358)) : gb381 ≠ gb358)); have n13_ := Aside0.mk ((by rw [hg]; exact Nat.ne_of_lt (blk_lt (g := gb363) (o := .cells #[.int .i64 t359, .int .i64 t360, .int .i64 t361] 35 (0, 0)) (bk_ BK363)) : gb363 ≠ gb381)); have n14_ := Aside0.mk ((by rw [hg]; exact Nat.ne_of_gt (blk_lt (g := gb363) (o := .cells #[.int .i64 t359, .int .i64 t360, .int .i64 t361] 35 (0, 0)) (bk_ BK363)) : gb381 ≠ gb363)); have n15_ := Aside0.mk ((by rw [hg]; exact Nat.ne_of_lt (blk_lt (g := gb371) (o := .cells #[.int .i64 t367, .int .i64 t368, .int .i64 t369] 35 (0, 0)) (bk_ BK371)) : gb371 ≠ gb381)); have n16_ := Aside0.mk ((by rw [hg]; exact Nat.ne_of_gt (blk_lt (g := gb371) (o := .cells #[.int .i64 t367, .int .i64 t368, .int .i64 t369] 35 (0, 0)) (bk_ BK371)) : gb381 ≠ gb371)); have n17_ := Aside0.mk ((by rw [hg]; exact Nat.ne_of_lt (blk_lt (g := gb376) (o := .cells #[.int .i64 t372, .int .i64 t373, .int .i64 t374] 35 (0, 0)) (bk_ BK376)) : gb376 ≠ gb381)); have n18_ := Aside0.mk ((by rw [hg]; exact Nat.ne_of_gt (blk_lt (g := gb376) (o := .cells #[.int .i64 t372, .int .i64 t373, .int .i64 t374] 35 (0, 0)) (bk_ BK376)) : gb381 ≠ gb376)); clear BK357; clear BK358; clear BK363; clear BK371; clear BK376; clear HB; have BK357 := n0_; have BK358 := n1_; have BK363 := n2_; have BK371 := n3_; have BK376 := n4_; have HB := n5_; have BK381 := n6_; have GW381 := n7_; have GE381 := n8_; have NB357_381 := n9_; have NB381_357 := n10_; have NB358_381 := n11_; have NB381_358 := n12_; have NB363_381 := n13_; have NB381_363 := n14_; have NB371_381 := n15_; have NB381_371 := n16_; have NB376_381 := n17_; have NB381_376 := n18_; clear n0_ n1_ n2_ n3_ n4_ n5_ n6_ n7_ n8_ n9_ n10_ n11_ n12_ n13_ n14_ n15_ n16_ n17_ n18_; clear hb hbox hg; have hnb58 := NB381_357.out; have hnc58 := NB357_381.out; have hnb59 := NB381_358.out; have hnc59 := NB358_381.out; have hnb60 := NB381_363.out; have hnc60 := NB363_381.out; have hnb61 := NB381_371.out; have hnc61 := NB371_381.out; have hnb62 := NB381_376.out; have hnc62 := NB376_381.out; have hcz63_0 : w57.cell? ⟨gb381, 0, none⟩ = some (.int .i64 0) := (blk_cell BK381.out 0).trans rfl; have hcz63_1 : w57.cell? ⟨gb381, 1, none⟩ = some (.int .i64 0) := (blk_cell BK381.out 1).trans rfl; have hcz63_2 : w57.cell? ⟨gb381, 2, none⟩ = some (.int .i64 0) := (blk_cell BK381.out 2).trans rfl; have hfz63_0 := blk_frozen BK381.out 0; have hfz63_1 := blk_frozen BK381.out 1; have hfz63_2 := blk_frozen BK381.out 2))
     go_loopg [13] kj8 (fun kq v13 w' => ∃ (x13_2 : Int), v13 = .int .i64 x13_2 ∧ Aside0 (laws_FnMainMoves.l0 kq t356 x13_2 t364 t365 t366 t353 t354 t355 t378 t379 t380 = some r) ∧ Aside0 (kq ≤ kj8) ∧ Aside0 (w'.heap[gb357]? = some (.cells #[.int .i64 t364, .int .i64 t365, .int .i64 t366] 35 (0, 0))) ∧ Aside0 (w'.heap[gb358]? = some (.cells #[.int .i64 t353, .int .i64 t354, .int .i64 t355] 35 (0, 0))) ∧ Aside0 (w'.heap[gb363]? = some (.cells #[.int .i64 t359, .int .i64 t360, .int .i64 t361] 35 (0, 0))) ∧ Aside0 (w'.heap[gb371]? = some (.cells #[.int .i64 t367, .int .i64 t368, .int .i64 t369] 35 (0, 0))) ∧ Aside0 (w'.heap[gb376]? = some (.cells #[.int .i64 t372, .int .i64 t373, .int .i64 t374] 35 (0, 0))) ∧ Aside0 (w'.heap[gb381]? = some (.cells #[.int .i64 t378, .int .i64 t379, .int .i64 t380] 35 (0, 0))) ∧ Aside0 (Below w.heap.size w w'))
     case atStart => exact ⟨(0), (by first | rfl | (simp; done) | (simp [*]; done)), H', ⟨Nat.le_refl _⟩, ⟨by (with_reducible repeat (first | refine blk_drewN ?_ _ | refine blk_drew ?_ | refine blk_alloc ?_ _)); refine blk_far ?_ NB357_381.out _; (with_reducible repeat (first | refine blk_drewN ?_ _ | refine blk_drew ?_ | refine blk_alloc ?_ _)); refine blk_far ?_ NB357_381.out _; (with_reducible repeat (first | refine blk_drewN ?_ _ | refine blk_drew ?_ | refine blk_alloc ?_ _)); refine blk_far ?_ NB357_381.out _; exact bk_ BK357⟩, ⟨by (with_reducible repeat (first | refine blk_drewN ?_ _ | refine blk_drew ?_ | refine blk_alloc ?_ _)); refine blk_far ?_ NB358_381.out _; (with_reducible repeat (first | refine blk_drewN ?_ _ | refine blk_drew ?_ | refine blk_alloc ?_ _)); refine blk_far ?_ NB358_381.out _; (with_reducible repeat (first | refine blk_drewN ?_ _ | refine blk_drew ?_ | refine blk_alloc ?_ _)); refine blk_far ?_ NB358_381.out _; exact bk_ BK358⟩, ⟨by (with_reducible repeat (first | refine blk_drewN ?_ _ | refine blk_drew ?_ | refine blk_alloc ?_ _)); refine blk_far ?_ NB363_381.out _; (with_reducible repeat (first | refine blk_drewN ?_ _ | refine blk_drew ?_ | refine blk_alloc ?_ _)); refine blk_far ?_ NB363_381.out _; (with_reducible repeat (first | refine blk_drewN ?_ _ | refine blk_drew ?_ | refine blk_alloc ?_ _)); refine blk_far ?_ NB363_381.out _; exact bk_ BK363⟩, ⟨by (with_reducible repeat (first | refine blk_drewN ?_ _ | refine blk_drew ?_ | refine blk_alloc ?_ _)); refine blk_far ?_ NB371_381.out _; (with_reducible repeat (first | refine blk_drewN ?_ _ | refine blk_drew ?_ | refine blk_alloc ?_ _)); refine blk_far ?_ NB371_381.out _; (with_reducible repeat (first | refine blk_drewN ?_ _ | refine blk_drew ?_ | refine blk_alloc ?_ _)); refine blk_far ?_ NB371_381.out _; exact bk_ BK371⟩, ⟨by (with_reducible repeat (first | refine blk_drewN ?_ _ | refine blk_drew ?_ | refine blk_alloc ?_ _)); refine blk_far ?_ NB376_381.out _; (with_reducible repeat (first | refine blk_drewN ?_ _ | refine blk_drew ?_ | refine blk_alloc ?_ _)); refine blk_far ?_ NB376_381.out _; (with_reducible repeat (first | refine blk_drewN ?_ _ | refine blk_drew ?_ | refine blk_alloc ?_ _)); refine blk_far ?_ NB376_381.out _; exact bk_ BK376⟩, ⟨by (with_reducible repeat (first | refine blk_drewN ?_ _ | refine blk_drew ?_ | refine blk_alloc ?_ _)); refine blk_put (cs := #[.int .i64 t378, .int .i64 t379, .int .i64 0]) ?_ 2 _ rfl; (with_reducible repeat (first | refine blk_drewN ?_ _ | refine blk_drew ?_ | refine blk_alloc ?_ _)); refine blk_put (cs := #[.int .i64 t378, .int .i64 0, .int .i64 0]) ?_ 1 _ rfl; (with_reducible repeat (first | refine blk_drewN ?_ _ | refine blk_drew ?_ | refine blk_alloc ?_ _)); refine blk_put (cs := #[.int .i64 0, .int .i64 0, .int .i64 0]) ?_ 0 _ rfl; exact bk_ BK381⟩, ⟨by repeat (first | (with_reducible first | exact HB.out | apply below_alloc | apply pw_below_drewN | apply below_drew1 | refine below_set ?_ GE357.out | refine below_set ?_ GE358.out | refine below_set ?_ GE363.out | refine below_set ?_ GE371.out | refine below_set ?_ GE376.out | refine below_set ?_ GE381.out) | exact HB.out)⟩⟩
     case round =>
      clear H'
      try clear c1
      try clear c2
      try clear p2
      try clear c3
      try clear c4
      try clear c5
      try clear c6
      try clear c13
      try clear c18
      try clear c19
      try clear c24
      try clear c27
      try clear c28
      try clear c29
      try clear c35
      try clear c36
      try clear c37
      try clear c38
      try clear c40
      try clear c40b0
      try clear c40b1
      try clear c40b2
      try clear c41
      try clear c43
      try clear c44
      try clear c45
      try clear c46
      try clear c49
      try clear c51
      try clear c52
      try clear c53
      try clear c54
      try clear c58
      try clear c59
      try clear c60
      try clear c61
      try clear c62
      try clear hcz14_0
      try clear hcz14_1
      try clear hcz14_2
      try clear hcz15_0
      try clear hcz15_1
      try clear hcz15_2
      try clear hcz20_0
      try clear hcz20_1
      try clear hcz20_2
      try clear hcz21_0
      try clear hcz21_1
      try clear hcz21_2
      try clear hcz23_0
      try clear hcz23_1
      try clear hcz23_2
      try clear hcz24_0
      try clear hcz24_1
      try clear hcz24_2
      try clear hcz30_0
      try clear hcz30_1
      try clear hcz30_2
      try clear hcz31_0
      try clear hcz31_1
      try clear hcz31_2
      try clear hcz32_0
      try clear hcz32_1
      try clear hcz32_2
      try clear hcz39_0
      try clear hcz39_1
      try clear hcz39_2
      try clear hcz47_0
      try clear hcz47_1
      try clear hcz47_2
      try clear hcz55_0
      try clear hcz55_1
      try clear hcz55_2
      try clear hcz63_0
      try clear hcz63_1
      try clear hcz63_2
      try clear hfz14_0
      try clear hfz14_1
      try clear hfz14_2
      try clear hfz15_0
      try clear hfz15_1
      try clear hfz15_2
      try clear hfz20_0
      try clear hfz20_1
      try clear hfz20_2
      try clear hfz21_0
      try clear hfz21_1
      try clear hfz21_2
      try clear hfz23_0
      try clear hfz23_1
      try clear hfz23_2
      try clear hfz24_0
      try clear hfz24_1
      try clear hfz24_2
      try clear hfz30_0
      try clear hfz30_1
      try clear hfz30_2
      try clear hfz31_0
      try clear hfz31_1
      try clear hfz31_2
      try clear hfz32_0
      try clear hfz32_1
      try clear hfz32_2
      try clear hfz39_0
      try clear hfz39_1
      try clear hfz39_2
      try clear hfz47_0
      try clear hfz47_1
      try clear hfz47_2
      try clear hfz55_0
      try clear hfz55_1
      try clear hfz55_2
      try clear hfz63_0
      try clear hfz63_1
      try clear hfz63_2
      try clear p2
      obtain ⟨x13_2, rfl, HA, HK2, BK357, BK358, BK363, BK371, BK376, BK381, HB⟩ := hrel
      cases gk with
      | zero => exact absurd HA.out (by simp [laws_FnMainMoves.l0])
      | succ k2 =>
       have H := HA.out
       clear HA
       simp only [laws_FnMainMoves.l0] at H
       by_cases c64 : x13_2 < 3
       ·rw [if_pos c64] at H
        have c64b0 : decide (x13_2 < 3) = true := decide_eq_true c64
        clear c64
        replace H := Option.bind_eq_some_iff.mp H
        obtain ⟨t384, A650, H⟩ := H
        replace H : ((spec_Stride.f t356).bind fun t385 => ((laws_vec.f t353 t354 t355 x13_2).bind fun t386 => ((spec_VecTop.f t353 t354 t355).bind fun t387 => (if t386 = t387 then ((laws_vec.f t378 t379 t380 x13_2).bind fun t388 => ((laws_vec.f t364 t365 t366 x13_2).bind fun t389 => (if t388 = (wrap64 (t389 + (wrap64 (t384 * t385)))) then ((spec_VecTop.f t378 t379 t380).bind fun t390 => ((spec_VecTop.f t364 t365 t366).bind fun t391 => (if t390 > (wrap64 (t391 + (wrap64 (t384 * t385)))) then (some false) else (laws_FnMainMoves.l0 k2 t356 (wrap64 (x13_2 + 1)) t364 t365 t366 t353 t354 t355 t378 t379 t380)))) else (some false)))) else (laws_FnMainMoves.l0 k2 t356 (wrap64 (x13_2 + 1)) t364 t365 t366 t353 t354 t355 t378 t379 t380))))) = some r := H
        have A65 := Aside0.mk A650
        clear A650
        replace H := Option.bind_eq_some_iff.mp H
        obtain ⟨t385, A660, H⟩ := H
        replace H : ((laws_vec.f t353 t354 t355 x13_2).bind fun t386 => ((spec_VecTop.f t353 t354 t355).bind fun t387 => (if t386 = t387 then ((laws_vec.f t378 t379 t380 x13_2).bind fun t388 => ((laws_vec.f t364 t365 t366 x13_2).bind fun t389 => (if t388 = (wrap64 (t389 + (wrap64 (t384 * t385)))) then ((spec_VecTop.f t378 t379 t380).bind fun t390 => ((spec_VecTop.f t364 t365 t366).bind fun t391 => (if t390 > (wrap64 (t391 + (wrap64 (t384 * t385)))) then (some false) else (laws_FnMainMoves.l0 k2 t356 (wrap64 (x13_2 + 1)) t364 t365 t366 t353 t354 t355 t378 t379 t380)))) else (some false)))) else (laws_FnMainMoves.l0 k2 t356 (wrap64 (x13_2 + 1)) t364 t365 t366 t353 t354 t355 t378 t379 t380)))) = some r := H
        have A66 := Aside0.mk A660
        clear A660
        replace H := Option.bind_eq_some_iff.mp H
        obtain ⟨t386, A670, H⟩ := H
        replace H : ((spec_VecTop.f t353 t354 t355).bind fun t387 => (if t386 = t387 then ((laws_vec.f t378 t379 t380 x13_2).bind fun t388 => ((laws_vec.f t364 t365 t366 x13_2).bind fun t389 => (if t388 = (wrap64 (t389 + (wrap64 (t384 * t385)))) then ((spec_VecTop.f t378 t379 t380).bind fun t390 => ((spec_VecTop.f t364 t365 t366).bind fun t391 => (if t390 > (wrap64 (t391 + (wrap64 (t384 * t385)))) then (some false) else (laws_FnMainMoves.l0 k2 t356 (wrap64 (x13_2 + 1)) t364 t365 t366 t353 t354 t355 t378 t379 t380)))) else (some false)))) else (laws_FnMainMoves.l0 k2 t356 (wrap64 (x13_2 + 1)) t364 t365 t366 t353 t354 t355 t378 t379 t380))) = some r := H
        have A67 := Aside0.mk A670
        clear A670
        replace H := Option.bind_eq_some_iff.mp H
        obtain ⟨t387, A680, H⟩ := H
        replace H : (if t386 = t387 then ((laws_vec.f t378 t379 t380 x13_2).bind fun t388 => ((laws_vec.f t364 t365 t366 x13_2).bind fun t389 => (if t388 = (wrap64 (t389 + (wrap64 (t384 * t385)))) then ((spec_VecTop.f t378 t379 t380).bind fun t390 => ((spec_VecTop.f t364 t365 t366).bind fun t391 => (if t390 > (wrap64 (t391 + (wrap64 (t384 * t385)))) then (some false) else (laws_FnMainMoves.l0 k2 t356 (wrap64 (x13_2 + 1)) t364 t365 t366 t353 t354 t355 t378 t379 t380)))) else (some false)))) else (laws_FnMainMoves.l0 k2 t356 (wrap64 (x13_2 + 1)) t364 t365 t366 t353 t354 t355 t378 t379 t380)) = some r := H
        have A68 := Aside0.mk A680
        clear A680
        by_cases c69 : t386 = t387
        ·rw [if_pos c69] at H
         have c69b0 : (t386 == t387) = true := beq_iff_eq.mpr c69
         have c69b1 : (t386 != t387) = false := bne_eq_false_iff_eq.mpr c69
         clear c69
         replace H := Option.bind_eq_some_iff.mp H
         obtain ⟨t388, A700, H⟩ := H
         replace H : ((laws_vec.f t364 t365 t366 x13_2).bind fun t389 => (if t388 = (wrap64 (t389 + (wrap64 (t384 * t385)))) then ((spec_VecTop.f t378 t379 t380).bind fun t390 => ((spec_VecTop.f t364 t365 t366).bind fun t391 => (if t390 > (wrap64 (t391 + (wrap64 (t384 * t385)))) then (some false) else (laws_FnMainMoves.l0 k2 t356 (wrap64 (x13_2 + 1)) t364 t365 t366 t353 t354 t355 t378 t379 t380)))) else (some false))) = some r := H
         have A70 := Aside0.mk A700
         clear A700
         replace H := Option.bind_eq_some_iff.mp H
         obtain ⟨t389, A710, H⟩ := H
         replace H : (if t388 = (wrap64 (t389 + (wrap64 (t384 * t385)))) then ((spec_VecTop.f t378 t379 t380).bind fun t390 => ((spec_VecTop.f t364 t365 t366).bind fun t391 => (if t390 > (wrap64 (t391 + (wrap64 (t384 * t385)))) then (some false) else (laws_FnMainMoves.l0 k2 t356 (wrap64 (x13_2 + 1)) t364 t365 t366 t353 t354 t355 t378 t379 t380)))) else (some false)) = some r := H
         have A71 := Aside0.mk A710
         clear A710
         by_cases c72 : t388 = (wrap64 (t389 + (wrap64 (t384 * t385))))
         ·rw [if_pos c72] at H
          have c72b0 : (t388 == (wrap64 (t389 + (wrap64 (t384 * t385))))) = true := beq_iff_eq.mpr c72
          have c72b1 : (t388 != (wrap64 (t389 + (wrap64 (t384 * t385))))) = false := bne_eq_false_iff_eq.mpr c72
          clear c72
          replace H := Option.bind_eq_some_iff.mp H
          obtain ⟨t390, A730, H⟩ := H
          replace H : ((spec_VecTop.f t364 t365 t366).bind fun t391 => (if t390 > (wrap64 (t391 + (wrap64 (t384 * t385)))) then (some false) else (laws_FnMainMoves.l0 k2 t356 (wrap64 (x13_2 + 1)) t364 t365 t366 t353 t354 t355 t378 t379 t380))) = some r := H
          have A73 := Aside0.mk A730
          clear A730
          replace H := Option.bind_eq_some_iff.mp H
          obtain ⟨t391, A740, H⟩ := H
          replace H : (if t390 > (wrap64 (t391 + (wrap64 (t384 * t385)))) then (some false) else (laws_FnMainMoves.l0 k2 t356 (wrap64 (x13_2 + 1)) t364 t365 t366 t353 t354 t355 t378 t379 t380)) = some r := H
          have A74 := Aside0.mk A740
          clear A740
          by_cases c75 : t390 > (wrap64 (t391 + (wrap64 (t384 * t385))))
          ·rw [if_pos c75] at H
           have c75b0 : decide ((wrap64 (t391 + (wrap64 (t384 * t385)))) < t390) = true := decide_eq_true c75
           clear c75
           obtain rfl := Option.some.inj H
           have hnb76 := NB358_357.out
           have hnc76 := NB357_358.out
           have hnb77 := NB358_363.out
           have hnc77 := NB363_358.out
           have hnb78 := NB358_371.out
           have hnc78 := NB371_358.out
           have hnb79 := NB358_376.out
           have hnc79 := NB376_358.out
           have hnb80 := NB358_381.out
           have hnc80 := NB381_358.out
           have hcz81_0 : wr.cell? ⟨gb358, 0, none⟩ = some (.int .i64 t353) := (blk_cell BK358.out 0).trans rfl
           have hcz81_1 : wr.cell? ⟨gb358, 1, none⟩ = some (.int .i64 t354) := (blk_cell BK358.out 1).trans rfl
           have hcz81_2 : wr.cell? ⟨gb358, 2, none⟩ = some (.int .i64 t355) := (blk_cell BK358.out 2).trans rfl
           have hfz81_0 := blk_frozen BK358.out 0
           have hfz81_1 := blk_frozen BK358.out 1
           have hfz81_2 := blk_frozen BK358.out 2
           try go_wp2_with (first | ((with_reducible refine gate_callee (f := 35) rfl ?_); refine goesL_ (some 70) rfl rfl Try.func35 (by kernel_rfl) rfl #[.agg #[.int .i64 t353, .int .i64 t354, .int .i64 t355], .int .i64 x13_2] rfl mt_ ?_; (with_reducible refine (laws_vec.calls t353 t354 t355 x13_2 t384 _ A65.out).mono ?_); rintro e w82 ⟨rfl, hb⟩; refine ⟨_, rfl, ?_⟩; have n0_ := Aside0.mk (blk_below (g := gb357) (o := .cells #[.int .i64 t364, .int .i64 t365, .int .i64 t366] 35 (0, 0)) (bk_ BK357) hb); have n1_ := Aside0.mk (blk_below (g := gb358) (o := .cells #[.int .i64 t353, .int .i64 t354, .int .i64 t355] 35 (0, 0)) (bk_ BK358) hb); have n2_ := Aside0.mk (blk_below (g := gb363) (o := .cells #[.int .i64 t359, .int .i64 t360, .int .i64 t361] 35 (0, 0)) (bk_ BK363) hb); have n3_ := Aside0.mk (blk_below (g := gb371) (o := .cells #[.int .i64 t367, .int .i64 t368, .int .i64 t369] 35 (0, 0)) (bk_ BK371) hb); have n4_ := Aside0.mk (blk_below (g := gb376) (o := .cells #[.int .i64 t372, .int .i64 t373, .int .i64 t374] 35 (0, 0)) (bk_ BK376) hb); have n5_ := Aside0.mk (blk_below (g := gb381) (o := .cells #[.int .i64 t378, .int .i64 t379, .int .i64 t380] 35 (0, 0)) (bk_ BK381) hb); have n6_ := Aside0.mk (below_step (by repeat (first | (with_reducible first | exact HB.out | apply below_alloc | apply pw_below_drewN | apply below_drew1 | refine below_set ?_ GE357.out | refine below_set ?_ GE358.out | refine below_set ?_ GE363.out | refine below_set ?_ GE371.out | refine below_set ?_ GE376.out | refine below_set ?_ GE381.out) | exact HB.out)) hb); clear BK357; clear BK358; clear BK363; clear BK371; clear BK376; clear BK381; clear HB; have BK357 := n0_; have BK358 := n1_; have BK363 := n2_; have BK371 := n3_; have BK376 := n4_; have BK381 := n5_; have HB := n6_; clear n0_ n1_ n2_ n3_ n4_ n5_ n6_; (try clear hb); (try clear hb2); (try clear hk); (try clear hi)) | ((with_reducible refine gate_callee (f := 70) rfl ?_); refine goesL_ (some 72) rfl rfl Try.func70 (by kernel_rfl) rfl #[.int .i64 t356] rfl mt_ ?_; (with_reducible refine (spec_Stride.calls t356 t385 _ A66.out).mono ?_); rintro e w' ⟨rfl, ⟨nd, rfl⟩⟩; refine ⟨_, rfl, ?_⟩))
           (try (rw [drewN_self w82]; generalize hq_ : World.drewN w82 _ = w82; have n0_ : Aside0 (w82.heap[gb357]? = some (.cells #[.int .i64 t364, .int .i64 t365, .int .i64 t366] 35 (0, 0))) := ⟨by rw [← hq_]; exact (bk_ BK357)⟩; have n1_ : Aside0 (w82.heap[gb358]? = some (.cells #[.int .i64 t353, .int .i64 t354, .int .i64 t355] 35 (0, 0))) := ⟨by rw [← hq_]; exact (bk_ BK358)⟩; have n2_ : Aside0 (w82.heap[gb363]? = some (.cells #[.int .i64 t359, .int .i64 t360, .int .i64 t361] 35 (0, 0))) := ⟨by rw [← hq_]; exact (bk_ BK363)⟩; have n3_ : Aside0 (w82.heap[gb371]? = some (.cells #[.int .i64 t367, .int .i64 t368, .int .i64 t369] 35 (0, 0))) := ⟨by rw [← hq_]; exact (bk_ BK371)⟩; have n4_ : Aside0 (w82.heap[gb376]? = some (.cells #[.int .i64 t372, .int .i64 t373, .int .i64 t374] 35 (0, 0))) := ⟨by rw [← hq_]; exact (bk_ BK376)⟩; have n5_ : Aside0 (w82.heap[gb381]? = some (.cells #[.int .i64 t378, .int .i64 t379, .int .i64 t380] 35 (0, 0))) := ⟨by rw [← hq_]; exact (bk_ BK381)⟩; have n6_ : Aside0 (Below w.heap.size w w82) := ⟨by rw [← hq_]; exact (by repeat (first | (with_reducible first | exact HB.out | apply below_alloc | apply pw_below_drewN | apply below_drew1 | refine below_set ?_ GE357.out | refine below_set ?_ GE358.out | refine below_set ?_ GE363.out | refine below_set ?_ GE371.out | refine below_set ?_ GE376.out | refine below_set ?_ GE381.out) | exact HB.out))⟩; clear BK357 BK358 BK363 BK371 BK376 BK381 HB hq_; have BK357 := n0_; have BK358 := n1_; have BK363 := n2_; have BK371 := n3_; have BK376 := n4_; have BK381 := n5_; have HB := n6_; clear n0_ n1_ n2_ n3_ n4_ n5_ n6_))
           have n0_ := Aside0.mk (blk_drew BK357.out)
           have n1_ := Aside0.mk (blk_drew BK358.out)
           have n2_ := Aside0.mk (blk_drew BK363.out)
           have n3_ := Aside0.mk (blk_drew BK371.out)
           have n4_ := Aside0.mk (blk_drew BK376.out)
           have n5_ := Aside0.mk (blk_drew BK381.out)
           have n6_ := Aside0.mk (below_drew1 HB.out)
           clear BK357
           clear BK358
           clear BK363
           clear BK371
           clear BK376
           clear BK381
           clear HB
           have BK357 := n0_
           have BK358 := n1_
           have BK363 := n2_
           have BK371 := n3_
           have BK376 := n4_
           have BK381 := n5_
           have HB := n6_
           clear n0_ n1_ n2_ n3_ n4_ n5_ n6_
           refine start_ (n := 26) (S := fun w' => w'.cell? ⟨gb358, 0, none⟩ = some (.int .i64 t353) ∧ w'.cell? ⟨gb358, 1, none⟩ = some (.int .i64 t354) ∧ w'.cell? ⟨gb358, 2, none⟩ = some (.int .i64 t355) ∧ w'.cell? ⟨gb381, 0, none⟩ = some (.int .i64 t378) ∧ w'.cell? ⟨gb381, 1, none⟩ = some (.int .i64 t379) ∧ w'.cell? ⟨gb381, 2, none⟩ = some (.int .i64 t380) ∧ w'.cell? ⟨gb357, 0, none⟩ = some (.int .i64 t364) ∧ w'.cell? ⟨gb357, 1, none⟩ = some (.int .i64 t365) ∧ w'.cell? ⟨gb357, 2, none⟩ = some (.int .i64 t366)) (ds := []) (bs 26 0) (by kernel_rfl) rfl rfl ⟨(blk_cell BK358.out 0).trans rfl, (blk_cell BK358.out 1).trans rfl, (blk_cell BK358.out 2).trans rfl, (blk_cell BK381.out 0).trans rfl, (blk_cell BK381.out 1).trans rfl, (blk_cell BK381.out 2).trans rfl, (blk_cell BK357.out 0).trans rfl, (blk_cell BK357.out 1).trans rfl, (blk_cell BK357.out 2).trans rfl⟩ (fun hHeld => ?_); refine with_tabW laws_FnMainMoves.tab15 laws_FnMainMoves.bits15 (fun HT_ HW_ => ?_)
           generalize w82.drew = w83 at BK357 BK358 BK363 BK371 BK376 BK381 HB hHeld ⊢
           refine pure_s (i := 1) (N := some 75) #[oF,oT,oF,oF,oF,oF,oF,oF,oF,oF,oF,oF,oF,oF,oF,oF,oF,oF,oF,oF,oF,oF,oF,oF,oF,oF] (any_of HT_.out (by kernel_rfl)) (h := ?_)
           refine take_ (i := 0) (N := some 74) (v := ?_) (a' := ?_) (bs 26 2) rfl rfl (take_ofW HT_.out HW_.out (by kernel_rfl)) (fun _ _ _ h => h) (Or.inl ⟨by rfl, ?_⟩) hHeld ?_ ?_
           rotate_left
           ·rintro w' ⟨s0, s1, s2, s3, s4, s5, s6, s7, s8⟩
            go_simp
            with_reducible rfl
           rotate_left
           ·simp only [Act.put, List.setIfInBounds_toArray, List.set_cons_zero, List.set_cons_succ, i64_w, i32_w]
            rfl
           refine take_ (i := 3) (N := some 77) (v := ?_) (a' := ?_) #[oT,oT,oF,oT,oF,oF,oF,oF,oF,oF,oF,oF,oF,oF,oF,oF,oF,oF,oF,oF,oF,oF,oF,oF,oF,oF] rfl rfl (take_ofW HT_.out HW_.out (by kernel_rfl)) (fun _ _ _ h => h) (Or.inl ⟨by rfl, ?_⟩) hHeld ?_ ?_
           rotate_left
           ·rintro w' ⟨s0, s1, s2, s3, s4, s5, s6, s7, s8⟩
            go_simp
            with_reducible rfl
           rotate_left
           ·simp only [Act.put, List.setIfInBounds_toArray, List.set_cons_zero, List.set_cons_succ, i64_w, i32_w]
            rfl
           refine one_ (i := 2) (N := some 76) (bs 26 4) rfl rfl (one_of HT_.out (by kernel_rfl)) (by decide) (fun K hK => ?_)
           refine goes_ Try.func35 (by kernel_rfl) rfl #[.agg #[.int .i64 t353, .int .i64 t354, .int .i64 t355], .int .i64 x13_2] (by rfl) rfl rfl mt_ ?_
           with_reducible refine (laws_vec.calls t353 t354 t355 x13_2 t386 _ A67.out).mono ?_
           rintro e w84 ⟨rfl, hb⟩
           refine ⟨_, rfl, ?_⟩
           have n0_ := Aside0.mk (blk_below (g := gb357) (o := .cells #[.int .i64 t364, .int .i64 t365, .int .i64 t366] 35 (0, 0)) (bk_ BK357) hb)
           have n1_ := Aside0.mk (blk_below (g := gb358) (o := .cells #[.int .i64 t353, .int .i64 t354, .int .i64 t355] 35 (0, 0)) (bk_ BK358) hb)
           have n2_ := Aside0.mk (blk_below (g := gb363) (o := .cells #[.int .i64 t359, .int .i64 t360, .int .i64 t361] 35 (0, 0)) (bk_ BK363) hb)
           have n3_ := Aside0.mk (blk_below (g := gb371) (o := .cells #[.int .i64 t367, .int .i64 t368, .int .i64 t369] 35 (0, 0)) (bk_ BK371) hb)
           have n4_ := Aside0.mk (blk_below (g := gb376) (o := .cells #[.int .i64 t372, .int .i64 t373, .int .i64 t374] 35 (0, 0)) (bk_ BK376) hb)
           have n5_ := Aside0.mk (blk_below (g := gb381) (o := .cells #[.int .i64 t378, .int .i64 t379, .int .i64 t380] 35 (0, 0)) (bk_ BK381) hb)
           have n6_ := Aside0.mk (below_step (by repeat (first | (with_reducible first | exact HB.out | apply below_alloc | apply pw_below_drewN | apply below_drew1 | refine below_set ?_ GE357.out | refine below_set ?_ GE358.out | refine below_set ?_ GE363.out | refine below_set ?_ GE371.out | refine below_set ?_ GE376.out | refine below_set ?_ GE381.out) | exact HB.out)) hb)
           clear BK357
           clear BK358
           clear BK363
           clear BK371
           clear BK376
           clear BK381
           clear HB
           have BK357 := n0_
           have BK358 := n1_
           have BK363 := n2_
           have BK371 := n3_
           have BK376 := n4_
           have BK381 := n5_
           have HB := n6_
           clear n0_ n1_ n2_ n3_ n4_ n5_ n6_
           (try clear hb)
           (try clear hb2)
           (try clear hk)
           (try clear hi)
           refine hK.out _ _ ⟨(blk_cell BK358.out 0).trans rfl, (blk_cell BK358.out 1).trans rfl, (blk_cell BK358.out 2).trans rfl, (blk_cell BK381.out 0).trans rfl, (blk_cell BK381.out 1).trans rfl, (blk_cell BK381.out 2).trans rfl, (blk_cell BK357.out 0).trans rfl, (blk_cell BK357.out 1).trans rfl, (blk_cell BK357.out 2).trans rfl⟩ (fun hHeld => ?_)
           clear hK K
           refine norm_ (a' := ?_) ?_ ?_
           rotate_left
           ·show Act.put _ (some 76) _ = _
            simp only [Act.put, List.setIfInBounds_toArray, List.set_cons_zero, List.set_cons_succ, i64_w, i32_w]
            rfl
           refine one_ (i := 4) (N := some 78) (bs 26 5) rfl rfl (one_of HT_.out (by kernel_rfl)) (by decide) (fun K hK => ?_)
           refine goes_ Try.func29 (by kernel_rfl) rfl #[.agg #[.int .i64 t353, .int .i64 t354, .int .i64 t355]] (by rfl) rfl rfl mt_ ?_
           with_reducible refine (spec_VecTop.calls t353 t354 t355 t387 _ A68.out).mono ?_
           rintro e w85 ⟨rfl, hb⟩
           refine ⟨_, rfl, ?_⟩
           have n0_ := Aside0.mk (blk_below (g := gb357) (o := .cells #[.int .i64 t364, .int .i64 t365, .int .i64 t366] 35 (0, 0)) (bk_ BK357) hb)
           have n1_ := Aside0.mk (blk_below (g := gb358) (o := .cells #[.int .i64 t353, .int .i64 t354, .int .i64 t355] 35 (0, 0)) (bk_ BK358) hb)
           have n2_ := Aside0.mk (blk_below (g := gb363) (o := .cells #[.int .i64 t359, .int .i64 t360, .int .i64 t361] 35 (0, 0)) (bk_ BK363) hb)
           have n3_ := Aside0.mk (blk_below (g := gb371) (o := .cells #[.int .i64 t367, .int .i64 t368, .int .i64 t369] 35 (0, 0)) (bk_ BK371) hb)
           have n4_ := Aside0.mk (blk_below (g := gb376) (o := .cells #[.int .i64 t372, .int .i64 t373, .int .i64 t374] 35 (0, 0)) (bk_ BK376) hb)
           have n5_ := Aside0.mk (blk_below (g := gb381) (o := .cells #[.int .i64 t378, .int .i64 t379, .int .i64 t380] 35 (0, 0)) (bk_ BK381) hb)
           have n6_ := Aside0.mk (below_step (by repeat (first | (with_reducible first | exact HB.out | apply below_alloc | apply pw_below_drewN | apply below_drew1 | refine below_set ?_ GE357.out | refine below_set ?_ GE358.out | refine below_set ?_ GE363.out | refine below_set ?_ GE371.out | refine below_set ?_ GE376.out | refine below_set ?_ GE381.out) | exact HB.out)) hb)
           clear BK357
           clear BK358
           clear BK363
           clear BK371
           clear BK376
           clear BK381
           clear HB
           have BK357 := n0_
           have BK358 := n1_
           have BK363 := n2_
           have BK371 := n3_
           have BK376 := n4_
           have BK381 := n5_
           have HB := n6_
           clear n0_ n1_ n2_ n3_ n4_ n5_ n6_
           (try clear hb)
           (try clear hb2)
           (try clear hk)
           (try clear hi)
           refine hK.out _ _ ⟨(blk_cell BK358.out 0).trans rfl, (blk_cell BK358.out 1).trans rfl, (blk_cell BK358.out 2).trans rfl, (blk_cell BK381.out 0).trans rfl, (blk_cell BK381.out 1).trans rfl, (blk_cell BK381.out 2).trans rfl, (blk_cell BK357.out 0).trans rfl, (blk_cell BK357.out 1).trans rfl, (blk_cell BK357.out 2).trans rfl⟩ (fun hHeld => ?_)
           clear hK K
           refine norm_ (a' := ?_) ?_ ?_
           rotate_left
           ·show Act.put _ (some 78) _ = _
            simp only [Act.put, List.setIfInBounds_toArray, List.set_cons_zero, List.set_cons_succ, i64_w, i32_w]
            rfl
           refine pure_s (i := 5) (N := some 79) (bs 26 6) (any_of HT_.out (by kernel_rfl)) (h := ?_)
           refine pure_s (i := 6) (N := some 80) (bs 26 7) (any_of HT_.out (by kernel_rfl)) (h := ?_)
           refine pure_s (i := 8) (N := some 82) #[oT,oT,oT,oT,oT,oT,oT,oF,oT,oF,oF,oF,oF,oF,oF,oF,oF,oF,oF,oF,oF,oF,oF,oF,oF,oF] (any_of HT_.out (by kernel_rfl)) (h := ?_)
           refine pure_s (i := 11) (N := some 85) #[oT,oT,oT,oT,oT,oT,oT,oF,oT,oF,oF,oT,oF,oF,oF,oF,oF,oF,oF,oF,oF,oF,oF,oF,oF,oF] (any_of HT_.out (by kernel_rfl)) (h := ?_)
           refine pure_s (i := 13) (N := some 87) #[oT,oT,oT,oT,oT,oT,oT,oF,oT,oF,oF,oT,oF,oT,oF,oF,oF,oF,oF,oF,oF,oF,oF,oF,oF,oF] (any_of HT_.out (by kernel_rfl)) (h := ?_)
           refine take_ (i := 7) (N := some 81) (v := ?_) (a' := ?_) #[oT,oT,oT,oT,oT,oT,oT,oT,oT,oF,oF,oT,oF,oT,oF,oF,oF,oF,oF,oF,oF,oF,oF,oF,oF,oF] rfl rfl (take_ofW HT_.out HW_.out (by kernel_rfl)) (fun _ _ _ h => h) (Or.inl ⟨by rfl, ?_⟩) hHeld ?_ ?_
           rotate_left
           ·rintro w' ⟨s0, s1, s2, s3, s4, s5, s6, s7, s8⟩
            go_simp
            with_reducible rfl
           rotate_left
           ·simp only [Act.put, List.setIfInBounds_toArray, List.set_cons_zero, List.set_cons_succ, i64_w, i32_w]
            rfl
           refine take_ (i := 10) (N := some 84) (v := ?_) (a' := ?_) #[oT,oT,oT,oT,oT,oT,oT,oT,oT,oF,oT,oT,oF,oT,oF,oF,oF,oF,oF,oF,oF,oF,oF,oF,oF,oF] rfl rfl (take_ofW HT_.out HW_.out (by kernel_rfl)) (fun _ _ _ h => h) (Or.inl ⟨by rfl, ?_⟩) hHeld ?_ ?_
           rotate_left
           ·rintro w' ⟨s0, s1, s2, s3, s4, s5, s6, s7, s8⟩
            go_simp
            with_reducible rfl
           rotate_left
           ·simp only [Act.put, List.setIfInBounds_toArray, List.set_cons_zero, List.set_cons_succ, i64_w, i32_w]
            rfl
           refine one_ (i := 9) (N := some 83) #[oT,oT,oT,oT,oT,oT,oT,oT,oT,oT,oT,oT,oF,oT,oF,oF,oF,oF,oF,oF,oF,oF,oF,oF,oF,oF] rfl rfl (one_of HT_.out (by kernel_rfl)) (by decide) (fun K hK => ?_)
           refine goes_ Try.func35 (by kernel_rfl) rfl #[.agg #[.int .i64 t378, .int .i64 t379, .int .i64 t380], .int .i64 x13_2] (by rfl) rfl rfl mt_ ?_
           with_reducible refine (laws_vec.calls t378 t379 t380 x13_2 t388 _ A70.out).mono ?_
           rintro e w86 ⟨rfl, hb⟩
           refine ⟨_, rfl, ?_⟩
           have n0_ := Aside0.mk (blk_below (g := gb357) (o := .cells #[.int .i64 t364, .int .i64 t365, .int .i64 t366] 35 (0, 0)) (bk_ BK357) hb)
           have n1_ := Aside0.mk (blk_below (g := gb358) (o := .cells #[.int .i64 t353, .int .i64 t354, .int .i64 t355] 35 (0, 0)) (bk_ BK358) hb)
           have n2_ := Aside0.mk (blk_below (g := gb363) (o := .cells #[.int .i64 t359, .int .i64 t360, .int .i64 t361] 35 (0, 0)) (bk_ BK363) hb)
           have n3_ := Aside0.mk (blk_below (g := gb371) (o := .cells #[.int .i64 t367, .int .i64 t368, .int .i64 t369] 35 (0, 0)) (bk_ BK371) hb)
           have n4_ := Aside0.mk (blk_below (g := gb376) (o := .cells #[.int .i64 t372, .int .i64 t373, .int .i64 t374] 35 (0, 0)) (bk_ BK376) hb)
           have n5_ := Aside0.mk (blk_below (g := gb381) (o := .cells #[.int .i64 t378, .int .i64 t379, .int .i64 t380] 35 (0, 0)) (bk_ BK381) hb)
           have n6_ := Aside0.mk (below_step (by repeat (first | (with_reducible first | exact HB.out | apply below_alloc | apply pw_below_drewN | apply below_drew1 | refine below_set ?_ GE357.out | refine below_set ?_ GE358.out | refine below_set ?_ GE363.out | refine below_set ?_ GE371.out | refine below_set ?_ GE376.out | refine below_set ?_ GE381.out) | exact HB.out)) hb)
           clear BK357
           clear BK358
           clear BK363
           clear BK371
           clear BK376
           clear BK381
           clear HB
           have BK357 := n0_
           have BK358 := n1_
           have BK363 := n2_
           have BK371 := n3_
           have BK376 := n4_
           have BK381 := n5_
           have HB := n6_
           clear n0_ n1_ n2_ n3_ n4_ n5_ n6_
           (try clear hb)
           (try clear hb2)
           (try clear hk)
           (try clear hi)
           refine hK.out _ _ ⟨(blk_cell BK358.out 0).trans rfl, (blk_cell BK358.out 1).trans rfl, (blk_cell BK358.out 2).trans rfl, (blk_cell BK381.out 0).trans rfl, (blk_cell BK381.out 1).trans rfl, (blk_cell BK381.out 2).trans rfl, (blk_cell BK357.out 0).trans rfl, (blk_cell BK357.out 1).trans rfl, (blk_cell BK357.out 2).trans rfl⟩ (fun hHeld => ?_)
           clear hK K
           refine norm_ (a' := ?_) ?_ ?_
           rotate_left
           ·show Act.put _ (some 83) _ = _
            simp only [Act.put, List.setIfInBounds_toArray, List.set_cons_zero, List.set_cons_succ, i64_w, i32_w]
            rfl
           refine one_ (i := 12) (N := some 86) (bs 26 14) rfl rfl (one_of HT_.out (by kernel_rfl)) (by decide) (fun K hK => ?_)
           refine goes_ Try.func35 (by kernel_rfl) rfl #[.agg #[.int .i64 t364, .int .i64 t365, .int .i64 t366], .int .i64 x13_2] (by rfl) rfl rfl mt_ ?_
           with_reducible refine (laws_vec.calls t364 t365 t366 x13_2 t389 _ A71.out).mono ?_
           rintro e w87 ⟨rfl, hb⟩
           refine ⟨_, rfl, ?_⟩
           have n0_ := Aside0.mk (blk_below (g := gb357) (o := .cells #[.int .i64 t364, .int .i64 t365, .int .i64 t366] 35 (0, 0)) (bk_ BK357) hb)
           have n1_ := Aside0.mk (blk_below (g := gb358) (o := .cells #[.int .i64 t353, .int .i64 t354, .int .i64 t355] 35 (0, 0)) (bk_ BK358) hb)
           have n2_ := Aside0.mk (blk_below (g := gb363) (o := .cells #[.int .i64 t359, .int .i64 t360, .int .i64 t361] 35 (0, 0)) (bk_ BK363) hb)
           have n3_ := Aside0.mk (blk_below (g := gb371) (o := .cells #[.int .i64 t367, .int .i64 t368, .int .i64 t369] 35 (0, 0)) (bk_ BK371) hb)
           have n4_ := Aside0.mk (blk_below (g := gb376) (o := .cells #[.int .i64 t372, .int .i64 t373, .int .i64 t374] 35 (0, 0)) (bk_ BK376) hb)
           have n5_ := Aside0.mk (blk_below (g := gb381) (o := .cells #[.int .i64 t378, .int .i64 t379, .int .i64 t380] 35 (0, 0)) (bk_ BK381) hb)
           have n6_ := Aside0.mk (below_step (by repeat (first | (with_reducible first | exact HB.out | apply below_alloc | apply pw_below_drewN | apply below_drew1 | refine below_set ?_ GE357.out | refine below_set ?_ GE358.out | refine below_set ?_ GE363.out | refine below_set ?_ GE371.out | refine below_set ?_ GE376.out | refine below_set ?_ GE381.out) | exact HB.out)) hb)
           clear BK357
           clear BK358
           clear BK363
           clear BK371
           clear BK376
           clear BK381
           clear HB
           have BK357 := n0_
           have BK358 := n1_
           have BK363 := n2_
           have BK371 := n3_
           have BK376 := n4_
           have BK381 := n5_
           have HB := n6_
           clear n0_ n1_ n2_ n3_ n4_ n5_ n6_
           (try clear hb)
           (try clear hb2)
           (try clear hk)
           (try clear hi)
           refine hK.out _ _ ⟨(blk_cell BK358.out 0).trans rfl, (blk_cell BK358.out 1).trans rfl, (blk_cell BK358.out 2).trans rfl, (blk_cell BK381.out 0).trans rfl, (blk_cell BK381.out 1).trans rfl, (blk_cell BK381.out 2).trans rfl, (blk_cell BK357.out 0).trans rfl, (blk_cell BK357.out 1).trans rfl, (blk_cell BK357.out 2).trans rfl⟩ (fun hHeld => ?_)
           clear hK K
           refine norm_ (a' := ?_) ?_ ?_
           rotate_left
           ·show Act.put _ (some 86) _ = _
            simp only [Act.put, List.setIfInBounds_toArray, List.set_cons_zero, List.set_cons_succ, i64_w, i32_w]
            rfl
           refine pure_s (i := 14) (N := some 88) (bs 26 15) (any_of HT_.out (by kernel_rfl)) (h := ?_)
           refine pure_s (i := 15) (N := some 89) (bs 26 16) (any_of HT_.out (by kernel_rfl)) (h := ?_)
           refine pure_s (i := 16) (N := some 90) (bs 26 17) (any_of HT_.out (by kernel_rfl)) (h := ?_)
           refine pure_s (i := 21) (N := some 95) #[oT,oT,oT,oT,oT,oT,oT,oT,oT,oT,oT,oT,oT,oT,oT,oT,oT,oF,oF,oF,oF,oT,oF,oF,oF,oF] (any_of HT_.out (by kernel_rfl)) (h := ?_)
           refine take_ (i := 17) (N := some 91) (v := ?_) (a' := ?_) #[oT,oT,oT,oT,oT,oT,oT,oT,oT,oT,oT,oT,oT,oT,oT,oT,oT,oT,oF,oF,oF,oT,oF,oF,oF,oF] rfl rfl (take_ofW HT_.out HW_.out (by kernel_rfl)) (fun _ _ _ h => h) (Or.inl ⟨by rfl, ?_⟩) hHeld ?_ ?_
           rotate_left
           ·rintro w' ⟨s0, s1, s2, s3, s4, s5, s6, s7, s8⟩
            go_simp
            with_reducible rfl
           rotate_left
           ·simp only [Act.put, List.setIfInBounds_toArray, List.set_cons_zero, List.set_cons_succ, i64_w, i32_w]
            rfl
           refine take_ (i := 19) (N := some 93) (v := ?_) (a' := ?_) #[oT,oT,oT,oT,oT,oT,oT,oT,oT,oT,oT,oT,oT,oT,oT,oT,oT,oT,oF,oT,oF,oT,oF,oF,oF,oF] rfl rfl (take_ofW HT_.out HW_.out (by kernel_rfl)) (fun _ _ _ h => h) (Or.inl ⟨by rfl, ?_⟩) hHeld ?_ ?_
           rotate_left
           ·rintro w' ⟨s0, s1, s2, s3, s4, s5, s6, s7, s8⟩
            go_simp
            with_reducible rfl
           rotate_left
           ·simp only [Act.put, List.setIfInBounds_toArray, List.set_cons_zero, List.set_cons_succ, i64_w, i32_w]
            rfl
           refine one_ (i := 18) (N := some 92) #[oT,oT,oT,oT,oT,oT,oT,oT,oT,oT,oT,oT,oT,oT,oT,oT,oT,oT,oT,oT,oF,oT,oF,oF,oF,oF] rfl rfl (one_of HT_.out (by kernel_rfl)) (by decide) (fun K hK => ?_)
           refine goes_ Try.func29 (by kernel_rfl) rfl #[.agg #[.int .i64 t378, .int .i64 t379, .int .i64 t380]] (by rfl) rfl rfl mt_ ?_
           with_reducible refine (spec_VecTop.calls t378 t379 t380 t390 _ A73.out).mono ?_
           rintro e w88 ⟨rfl, hb⟩
           refine ⟨_, rfl, ?_⟩
           have n0_ := Aside0.mk (blk_below (g := gb357) (o := .cells #[.int .i64 t364, .int .i64 t365, .int .i64 t366] 35 (0, 0)) (bk_ BK357) hb)
           have n1_ := Aside0.mk (blk_below (g := gb358) (o := .cells #[.int .i64 t353, .int .i64 t354, .int .i64 t355] 35 (0, 0)) (bk_ BK358) hb)
           have n2_ := Aside0.mk (blk_below (g := gb363) (o := .cells #[.int .i64 t359, .int .i64 t360, .int .i64 t361] 35 (0, 0)) (bk_ BK363) hb)
           have n3_ := Aside0.mk (blk_below (g := gb371) (o := .cells #[.int .i64 t367, .int .i64 t368, .int .i64 t369] 35 (0, 0)) (bk_ BK371) hb)
           have n4_ := Aside0.mk (blk_below (g := gb376) (o := .cells #[.int .i64 t372, .int .i64 t373, .int .i64 t374] 35 (0, 0)) (bk_ BK376) hb)
           have n5_ := Aside0.mk (blk_below (g := gb381) (o := .cells #[.int .i64 t378, .int .i64 t379, .int .i64 t380] 35 (0, 0)) (bk_ BK381) hb)
           have n6_ := Aside0.mk (below_step (by repeat (first | (with_reducible first | exact HB.out | apply below_alloc | apply pw_below_drewN | apply below_drew1 | refine below_set ?_ GE357.out | refine below_set ?_ GE358.out | refine below_set ?_ GE363.out | refine below_set ?_ GE371.out | refine below_set ?_ GE376.out | refine below_set ?_ GE381.out) | exact HB.out)) hb)
           clear BK357
           clear BK358
           clear BK363
           clear BK371
           clear BK376
           clear BK381
           clear HB
           have BK357 := n0_
           have BK358 := n1_
           have BK363 := n2_
           have BK371 := n3_
           have BK376 := n4_
           have BK381 := n5_
           have HB := n6_
           clear n0_ n1_ n2_ n3_ n4_ n5_ n6_
           (try clear hb)
           (try clear hb2)
           (try clear hk)
           (try clear hi)
           refine hK.out _ _ ⟨(blk_cell BK358.out 0).trans rfl, (blk_cell BK358.out 1).trans rfl, (blk_cell BK358.out 2).trans rfl, (blk_cell BK381.out 0).trans rfl, (blk_cell BK381.out 1).trans rfl, (blk_cell BK381.out 2).trans rfl, (blk_cell BK357.out 0).trans rfl, (blk_cell BK357.out 1).trans rfl, (blk_cell BK357.out 2).trans rfl⟩ (fun hHeld => ?_)
           clear hK K
           refine norm_ (a' := ?_) ?_ ?_
           rotate_left
           ·show Act.put _ (some 92) _ = _
            simp only [Act.put, List.setIfInBounds_toArray, List.set_cons_zero, List.set_cons_succ, i64_w, i32_w]
            rfl
           refine one_ (i := 20) (N := some 94) (bs 26 22) rfl rfl (one_of HT_.out (by kernel_rfl)) (by decide) (fun K hK => ?_)
           refine goes_ Try.func29 (by kernel_rfl) rfl #[.agg #[.int .i64 t364, .int .i64 t365, .int .i64 t366]] (by rfl) rfl rfl mt_ ?_
           with_reducible refine (spec_VecTop.calls t364 t365 t366 t391 _ A74.out).mono ?_
           rintro e w89 ⟨rfl, hb⟩
           refine ⟨_, rfl, ?_⟩
           have n0_ := Aside0.mk (blk_below (g := gb357) (o := .cells #[.int .i64 t364, .int .i64 t365, .int .i64 t366] 35 (0, 0)) (bk_ BK357) hb)
           have n1_ := Aside0.mk (blk_below (g := gb358) (o := .cells #[.int .i64 t353, .int .i64 t354, .int .i64 t355] 35 (0, 0)) (bk_ BK358) hb)
           have n2_ := Aside0.mk (blk_below (g := gb363) (o := .cells #[.int .i64 t359, .int .i64 t360, .int .i64 t361] 35 (0, 0)) (bk_ BK363) hb)
           have n3_ := Aside0.mk (blk_below (g := gb371) (o := .cells #[.int .i64 t367, .int .i64 t368, .int .i64 t369] 35 (0, 0)) (bk_ BK371) hb)
           have n4_ := Aside0.mk (blk_below (g := gb376) (o := .cells #[.int .i64 t372, .int .i64 t373, .int .i64 t374] 35 (0, 0)) (bk_ BK376) hb)
           have n5_ := Aside0.mk (blk_below (g := gb381) (o := .cells #[.int .i64 t378, .int .i64 t379, .int .i64 t380] 35 (0, 0)) (bk_ BK381) hb)
           have n6_ := Aside0.mk (below_step (by repeat (first | (with_reducible first | exact HB.out | apply below_alloc | apply pw_below_drewN | apply below_drew1 | refine below_set ?_ GE357.out | refine below_set ?_ GE358.out | refine below_set ?_ GE363.out | refine below_set ?_ GE371.out | refine below_set ?_ GE376.out | refine below_set ?_ GE381.out) | exact HB.out)) hb)
           clear BK357
           clear BK358
           clear BK363
           clear BK371
           clear BK376
           clear BK381
           clear HB
           have BK357 := n0_
           have BK358 := n1_
           have BK363 := n2_
           have BK371 := n3_
           have BK376 := n4_
           have BK381 := n5_
           have HB := n6_
           clear n0_ n1_ n2_ n3_ n4_ n5_ n6_
           (try clear hb)
           (try clear hb2)
           (try clear hk)
           (try clear hi)
           refine hK.out _ _ ⟨(blk_cell BK358.out 0).trans rfl, (blk_cell BK358.out 1).trans rfl, (blk_cell BK358.out 2).trans rfl, (blk_cell BK381.out 0).trans rfl, (blk_cell BK381.out 1).trans rfl, (blk_cell BK381.out 2).trans rfl, (blk_cell BK357.out 0).trans rfl, (blk_cell BK357.out 1).trans rfl, (blk_cell BK357.out 2).trans rfl⟩ (fun hHeld => ?_)
           clear hK K
           refine norm_ (a' := ?_) ?_ ?_
           rotate_left
           ·show Act.put _ (some 94) _ = _
            simp only [Act.put, List.setIfInBounds_toArray, List.set_cons_zero, List.set_cons_succ, i64_w, i32_w]
            rfl
           refine pure_s (i := 22) (N := some 96) (bs 26 23) (any_of HT_.out (by kernel_rfl)) (h := ?_)
           refine pure_s (i := 23) (N := some 97) (bs 26 24) (any_of HT_.out (by kernel_rfl)) (h := ?_)
           refine pure_s (i := 24) (N := some 98) (bs 26 25) (any_of HT_.out (by kernel_rfl)) (h := ?_)
           refine pure_s (i := 25) (N := some 99) (bs 26 26) (any_of HT_.out (by kernel_rfl)) (h := ?_)
           refine done_ (done_of HT_.out (by kernel_rfl)) ?_
           try go_wp2
           go_ret
           exact ⟨by first | rfl | (simp [errW_none, errW_some] <;> rfl) | (simp [*, errW_none, errW_some] <;> rfl), by repeat (first | (with_reducible first | exact HB.out | apply below_alloc | apply pw_below_drewN | apply below_drew1 | refine below_set ?_ GE357.out | refine below_set ?_ GE358.out | refine below_set ?_ GE363.out | refine below_set ?_ GE371.out | refine below_set ?_ GE376.out | refine below_set ?_ GE381.out) | exact HB.out)⟩
          ·rw [if_neg c75] at H
           have c75b0 : decide ((wrap64 (t391 + (wrap64 (t384 * t385)))) < t390) = false := decide_eq_false c75
           clear c75
           have H' := Aside0.mk H
           clear H
           have hnb90 := NB358_357.out
           have hnc90 := NB357_358.out
           have hnb91 := NB358_363.out
           have hnc91 := NB363_358.out
           have hnb92 := NB358_371.out
           have hnc92 := NB371_358.out
           have hnb93 := NB358_376.out
           have hnc93 := NB376_358.out
           have hnb94 := NB358_381.out
           have hnc94 := NB381_358.out
           have hcz95_0 : wr.cell? ⟨gb358, 0, none⟩ = some (.int .i64 t353) := (blk_cell BK358.out 0).trans rfl
           have hcz95_1 : wr.cell? ⟨gb358, 1, none⟩ = some (.int .i64 t354) := (blk_cell BK358.out 1).trans rfl
           have hcz95_2 : wr.cell? ⟨gb358, 2, none⟩ = some (.int .i64 t355) := (blk_cell BK358.out 2).trans rfl
           have hfz95_0 := blk_frozen BK358.out 0
           have hfz95_1 := blk_frozen BK358.out 1
           have hfz95_2 := blk_frozen BK358.out 2
           try go_wp2_with (first | ((with_reducible refine gate_callee (f := 35) rfl ?_); refine goesL_ (some 70) rfl rfl Try.func35 (by kernel_rfl) rfl #[.agg #[.int .i64 t353, .int .i64 t354, .int .i64 t355], .int .i64 x13_2] rfl mt_ ?_; (with_reducible refine (laws_vec.calls t353 t354 t355 x13_2 t384 _ A65.out).mono ?_); rintro e w96 ⟨rfl, hb⟩; refine ⟨_, rfl, ?_⟩; have n0_ := Aside0.mk (blk_below (g := gb357) (o := .cells #[.int .i64 t364, .int .i64 t365, .int .i64 t366] 35 (0, 0)) (bk_ BK357) hb); have n1_ := Aside0.mk (blk_below (g := gb358) (o := .cells #[.int .i64 t353, .int .i64 t354, .int .i64 t355] 35 (0, 0)) (bk_ BK358) hb); have n2_ := Aside0.mk (blk_below (g := gb363) (o := .cells #[.int .i64 t359, .int .i64 t360, .int .i64 t361] 35 (0, 0)) (bk_ BK363) hb); have n3_ := Aside0.mk (blk_below (g := gb371) (o := .cells #[.int .i64 t367, .int .i64 t368, .int .i64 t369] 35 (0, 0)) (bk_ BK371) hb); have n4_ := Aside0.mk (blk_below (g := gb376) (o := .cells #[.int .i64 t372, .int .i64 t373, .int .i64 t374] 35 (0, 0)) (bk_ BK376) hb); have n5_ := Aside0.mk (blk_below (g := gb381) (o := .cells #[.int .i64 t378, .int .i64 t379, .int .i64 t380] 35 (0, 0)) (bk_ BK381) hb); have n6_ := Aside0.mk (below_step (by repeat (first | (with_reducible first | exact HB.out | apply below_alloc | apply pw_below_drewN | apply below_drew1 | refine below_set ?_ GE357.out | refine below_set ?_ GE358.out | refine below_set ?_ GE363.out | refine below_set ?_ GE371.out | refine below_set ?_ GE376.out | refine below_set ?_ GE381.out) | exact HB.out)) hb); clear BK357; clear BK358; clear BK363; clear BK371; clear BK376; clear BK381; clear HB; have BK357 := n0_; have BK358 := n1_; have BK363 := n2_; have BK371 := n3_; have BK376 := n4_; have BK381 := n5_; have HB := n6_; clear n0_ n1_ n2_ n3_ n4_ n5_ n6_; (try clear hb); (try clear hb2); (try clear hk); (try clear hi)) | ((with_reducible refine gate_callee (f := 70) rfl ?_); refine goesL_ (some 72) rfl rfl Try.func70 (by kernel_rfl) rfl #[.int .i64 t356] rfl mt_ ?_; (with_reducible refine (spec_Stride.calls t356 t385 _ A66.out).mono ?_); rintro e w' ⟨rfl, ⟨nd, rfl⟩⟩; refine ⟨_, rfl, ?_⟩))
           (try (rw [drewN_self w96]; generalize hq_ : World.drewN w96 _ = w96; have n0_ : Aside0 (w96.heap[gb357]? = some (.cells #[.int .i64 t364, .int .i64 t365, .int .i64 t366] 35 (0, 0))) := ⟨by rw [← hq_]; exact (bk_ BK357)⟩; have n1_ : Aside0 (w96.heap[gb358]? = some (.cells #[.int .i64 t353, .int .i64 t354, .int .i64 t355] 35 (0, 0))) := ⟨by rw [← hq_]; exact (bk_ BK358)⟩; have n2_ : Aside0 (w96.heap[gb363]? = some (.cells #[.int .i64 t359, .int .i64 t360, .int .i64 t361] 35 (0, 0))) := ⟨by rw [← hq_]; exact (bk_ BK363)⟩; have n3_ : Aside0 (w96.heap[gb371]? = some (.cells #[.int .i64 t367, .int .i64 t368, .int .i64 t369] 35 (0, 0))) := ⟨by rw [← hq_]; exact (bk_ BK371)⟩; have n4_ : Aside0 (w96.heap[gb376]? = some (.cells #[.int .i64 t372, .int .i64 t373, .int .i64 t374] 35 (0, 0))) := ⟨by rw [← hq_]; exact (bk_ BK376)⟩; have n5_ : Aside0 (w96.heap[gb381]? = some (.cells #[.int .i64 t378, .int .i64 t379, .int .i64 t380] 35 (0, 0))) := ⟨by rw [← hq_]; exact (bk_ BK381)⟩; have n6_ : Aside0 (Below w.heap.size w w96) := ⟨by rw [← hq_]; exact (by repeat (first | (with_reducible first | exact HB.out | apply below_alloc | apply pw_below_drewN | apply below_drew1 | refine below_set ?_ GE357.out | refine below_set ?_ GE358.out | refine below_set ?_ GE363.out | refine below_set ?_ GE371.out | refine below_set ?_ GE376.out | refine below_set ?_ GE381.out) | exact HB.out))⟩; clear BK357 BK358 BK363 BK371 BK376 BK381 HB hq_; have BK357 := n0_; have BK358 := n1_; have BK363 := n2_; have BK371 := n3_; have BK376 := n4_; have BK381 := n5_; have HB := n6_; clear n0_ n1_ n2_ n3_ n4_ n5_ n6_))
           have n0_ := Aside0.mk (blk_drew BK357.out)
           have n1_ := Aside0.mk (blk_drew BK358.out)
           have n2_ := Aside0.mk (blk_drew BK363.out)
           have n3_ := Aside0.mk (blk_drew BK371.out)
           have n4_ := Aside0.mk (blk_drew BK376.out)
           have n5_ := Aside0.mk (blk_drew BK381.out)
           have n6_ := Aside0.mk (below_drew1 HB.out)
           clear BK357
           clear BK358
           clear BK363
           clear BK371
           clear BK376
           clear BK381
           clear HB
           have BK357 := n0_
           have BK358 := n1_
           have BK363 := n2_
           have BK371 := n3_
           have BK376 := n4_
           have BK381 := n5_
           have HB := n6_
           clear n0_ n1_ n2_ n3_ n4_ n5_ n6_
           refine start_ (n := 26) (S := fun w' => w'.cell? ⟨gb358, 0, none⟩ = some (.int .i64 t353) ∧ w'.cell? ⟨gb358, 1, none⟩ = some (.int .i64 t354) ∧ w'.cell? ⟨gb358, 2, none⟩ = some (.int .i64 t355) ∧ w'.cell? ⟨gb381, 0, none⟩ = some (.int .i64 t378) ∧ w'.cell? ⟨gb381, 1, none⟩ = some (.int .i64 t379) ∧ w'.cell? ⟨gb381, 2, none⟩ = some (.int .i64 t380) ∧ w'.cell? ⟨gb357, 0, none⟩ = some (.int .i64 t364) ∧ w'.cell? ⟨gb357, 1, none⟩ = some (.int .i64 t365) ∧ w'.cell? ⟨gb357, 2, none⟩ = some (.int .i64 t366)) (ds := []) (bs 26 0) (by kernel_rfl) rfl rfl ⟨(blk_cell BK358.out 0).trans rfl, (blk_cell BK358.out 1).trans rfl, (blk_cell BK358.out 2).trans rfl, (blk_cell BK381.out 0).trans rfl, (blk_cell BK381.out 1).trans rfl, (blk_cell BK381.out 2).trans rfl, (blk_cell BK357.out 0).trans rfl, (blk_cell BK357.out 1).trans rfl, (blk_cell BK357.out 2).trans rfl⟩ (fun hHeld => ?_); refine with_tabW laws_FnMainMoves.tab15 laws_FnMainMoves.bits15 (fun HT_ HW_ => ?_)
           generalize w96.drew = w97 at BK357 BK358 BK363 BK371 BK376 BK381 HB hHeld ⊢
           refine pure_s (i := 1) (N := some 75) #[oF,oT,oF,oF,oF,oF,oF,oF,oF,oF,oF,oF,oF,oF,oF,oF,oF,oF,oF,oF,oF,oF,oF,oF,oF,oF] (any_of HT_.out (by kernel_rfl)) (h := ?_)
           refine take_ (i := 0) (N := some 74) (v := ?_) (a' := ?_) (bs 26 2) rfl rfl (take_ofW HT_.out HW_.out (by kernel_rfl)) (fun _ _ _ h => h) (Or.inl ⟨by rfl, ?_⟩) hHeld ?_ ?_
           rotate_left
           ·rintro w' ⟨s0, s1, s2, s3, s4, s5, s6, s7, s8⟩
            go_simp
            with_reducible rfl
           rotate_left
           ·simp only [Act.put, List.setIfInBounds_toArray, List.set_cons_zero, List.set_cons_succ, i64_w, i32_w]
            rfl
           refine take_ (i := 3) (N := some 77) (v := ?_) (a' := ?_) #[oT,oT,oF,oT,oF,oF,oF,oF,oF,oF,oF,oF,oF,oF,oF,oF,oF,oF,oF,oF,oF,oF,oF,oF,oF,oF] rfl rfl (take_ofW HT_.out HW_.out (by kernel_rfl)) (fun _ _ _ h => h) (Or.inl ⟨by rfl, ?_⟩) hHeld ?_ ?_
           rotate_left
           ·rintro w' ⟨s0, s1, s2, s3, s4, s5, s6, s7, s8⟩
            go_simp
            with_reducible rfl
           rotate_left
           ·simp only [Act.put, List.setIfInBounds_toArray, List.set_cons_zero, List.set_cons_succ, i64_w, i32_w]
            rfl
           refine one_ (i := 2) (N := some 76) (bs 26 4) rfl rfl (one_of HT_.out (by kernel_rfl)) (by decide) (fun K hK => ?_)
           refine goes_ Try.func35 (by kernel_rfl) rfl #[.agg #[.int .i64 t353, .int .i64 t354, .int .i64 t355], .int .i64 x13_2] (by rfl) rfl rfl mt_ ?_
           with_reducible refine (laws_vec.calls t353 t354 t355 x13_2 t386 _ A67.out).mono ?_
           rintro e w98 ⟨rfl, hb⟩
           refine ⟨_, rfl, ?_⟩
           have n0_ := Aside0.mk (blk_below (g := gb357) (o := .cells #[.int .i64 t364, .int .i64 t365, .int .i64 t366] 35 (0, 0)) (bk_ BK357) hb)
           have n1_ := Aside0.mk (blk_below (g := gb358) (o := .cells #[.int .i64 t353, .int .i64 t354, .int .i64 t355] 35 (0, 0)) (bk_ BK358) hb)
           have n2_ := Aside0.mk (blk_below (g := gb363) (o := .cells #[.int .i64 t359, .int .i64 t360, .int .i64 t361] 35 (0, 0)) (bk_ BK363) hb)
           have n3_ := Aside0.mk (blk_below (g := gb371) (o := .cells #[.int .i64 t367, .int .i64 t368, .int .i64 t369] 35 (0, 0)) (bk_ BK371) hb)
           have n4_ := Aside0.mk (blk_below (g := gb376) (o := .cells #[.int .i64 t372, .int .i64 t373, .int .i64 t374] 35 (0, 0)) (bk_ BK376) hb)
           have n5_ := Aside0.mk (blk_below (g := gb381) (o := .cells #[.int .i64 t378, .int .i64 t379, .int .i64 t380] 35 (0, 0)) (bk_ BK381) hb)
           have n6_ := Aside0.mk (below_step (by repeat (first | (with_reducible first | exact HB.out | apply below_alloc | apply pw_below_drewN | apply below_drew1 | refine below_set ?_ GE357.out | refine below_set ?_ GE358.out | refine below_set ?_ GE363.out | refine below_set ?_ GE371.out | refine below_set ?_ GE376.out | refine below_set ?_ GE381.out) | exact HB.out)) hb)
           clear BK357
           clear BK358
           clear BK363
           clear BK371
           clear BK376
           clear BK381
           clear HB
           have BK357 := n0_
           have BK358 := n1_
           have BK363 := n2_
           have BK371 := n3_
           have BK376 := n4_
           have BK381 := n5_
           have HB := n6_
           clear n0_ n1_ n2_ n3_ n4_ n5_ n6_
           (try clear hb)
           (try clear hb2)
           (try clear hk)
           (try clear hi)
           refine hK.out _ _ ⟨(blk_cell BK358.out 0).trans rfl, (blk_cell BK358.out 1).trans rfl, (blk_cell BK358.out 2).trans rfl, (blk_cell BK381.out 0).trans rfl, (blk_cell BK381.out 1).trans rfl, (blk_cell BK381.out 2).trans rfl, (blk_cell BK357.out 0).trans rfl, (blk_cell BK357.out 1).trans rfl, (blk_cell BK357.out 2).trans rfl⟩ (fun hHeld => ?_)
           clear hK K
           refine norm_ (a' := ?_) ?_ ?_
           rotate_left
           ·show Act.put _ (some 76) _ = _
            simp only [Act.put, List.setIfInBounds_toArray, List.set_cons_zero, List.set_cons_succ, i64_w, i32_w]
            rfl
           refine one_ (i := 4) (N := some 78) (bs 26 5) rfl rfl (one_of HT_.out (by kernel_rfl)) (by decide) (fun K hK => ?_)
           refine goes_ Try.func29 (by kernel_rfl) rfl #[.agg #[.int .i64 t353, .int .i64 t354, .int .i64 t355]] (by rfl) rfl rfl mt_ ?_
           with_reducible refine (spec_VecTop.calls t353 t354 t355 t387 _ A68.out).mono ?_
           rintro e w99 ⟨rfl, hb⟩
           refine ⟨_, rfl, ?_⟩
           have n0_ := Aside0.mk (blk_below (g := gb357) (o := .cells #[.int .i64 t364, .int .i64 t365, .int .i64 t366] 35 (0, 0)) (bk_ BK357) hb)
           have n1_ := Aside0.mk (blk_below (g := gb358) (o := .cells #[.int .i64 t353, .int .i64 t354, .int .i64 t355] 35 (0, 0)) (bk_ BK358) hb)
           have n2_ := Aside0.mk (blk_below (g := gb363) (o := .cells #[.int .i64 t359, .int .i64 t360, .int .i64 t361] 35 (0, 0)) (bk_ BK363) hb)
           have n3_ := Aside0.mk (blk_below (g := gb371) (o := .cells #[.int .i64 t367, .int .i64 t368, .int .i64 t369] 35 (0, 0)) (bk_ BK371) hb)
           have n4_ := Aside0.mk (blk_below (g := gb376) (o := .cells #[.int .i64 t372, .int .i64 t373, .int .i64 t374] 35 (0, 0)) (bk_ BK376) hb)
           have n5_ := Aside0.mk (blk_below (g := gb381) (o := .cells #[.int .i64 t378, .int .i64 t379, .int .i64 t380] 35 (0, 0)) (bk_ BK381) hb)
           have n6_ := Aside0.mk (below_step (by repeat (first | (with_reducible first | exact HB.out | apply below_alloc | apply pw_below_drewN | apply below_drew1 | refine below_set ?_ GE357.out | refine below_set ?_ GE358.out | refine below_set ?_ GE363.out | refine below_set ?_ GE371.out | refine below_set ?_ GE376.out | refine below_set ?_ GE381.out) | exact HB.out)) hb)
           clear BK357
           clear BK358
           clear BK363
           clear BK371
           clear BK376
           clear BK381
           clear HB
           have BK357 := n0_
           have BK358 := n1_
           have BK363 := n2_
           have BK371 := n3_
           have BK376 := n4_
           have BK381 := n5_
           have HB := n6_
           clear n0_ n1_ n2_ n3_ n4_ n5_ n6_
           (try clear hb)
           (try clear hb2)
           (try clear hk)
           (try clear hi)
           refine hK.out _ _ ⟨(blk_cell BK358.out 0).trans rfl, (blk_cell BK358.out 1).trans rfl, (blk_cell BK358.out 2).trans rfl, (blk_cell BK381.out 0).trans rfl, (blk_cell BK381.out 1).trans rfl, (blk_cell BK381.out 2).trans rfl, (blk_cell BK357.out 0).trans rfl, (blk_cell BK357.out 1).trans rfl, (blk_cell BK357.out 2).trans rfl⟩ (fun hHeld => ?_)
           clear hK K
           refine norm_ (a' := ?_) ?_ ?_
           rotate_left
           ·show Act.put _ (some 78) _ = _
            simp only [Act.put, List.setIfInBounds_toArray, List.set_cons_zero, List.set_cons_succ, i64_w, i32_w]
            rfl
           refine pure_s (i := 5) (N := some 79) (bs 26 6) (any_of HT_.out (by kernel_rfl)) (h := ?_)
           refine pure_s (i := 6) (N := some 80) (bs 26 7) (any_of HT_.out (by kernel_rfl)) (h := ?_)
           refine pure_s (i := 8) (N := some 82) #[oT,oT,oT,oT,oT,oT,oT,oF,oT,oF,oF,oF,oF,oF,oF,oF,oF,oF,oF,oF,oF,oF,oF,oF,oF,oF] (any_of HT_.out (by kernel_rfl)) (h := ?_)
           refine pure_s (i := 11) (N := some 85) #[oT,oT,oT,oT,oT,oT,oT,oF,oT,oF,oF,oT,oF,oF,oF,oF,oF,oF,oF,oF,oF,oF,oF,oF,oF,oF] (any_of HT_.out (by kernel_rfl)) (h := ?_)
           refine pure_s (i := 13) (N := some 87) #[oT,oT,oT,oT,oT,oT,oT,oF,oT,oF,oF,oT,oF,oT,oF,oF,oF,oF,oF,oF,oF,oF,oF,oF,oF,oF] (any_of HT_.out (by kernel_rfl)) (h := ?_)
           refine take_ (i := 7) (N := some 81) (v := ?_) (a' := ?_) #[oT,oT,oT,oT,oT,oT,oT,oT,oT,oF,oF,oT,oF,oT,oF,oF,oF,oF,oF,oF,oF,oF,oF,oF,oF,oF] rfl rfl (take_ofW HT_.out HW_.out (by kernel_rfl)) (fun _ _ _ h => h) (Or.inl ⟨by rfl, ?_⟩) hHeld ?_ ?_
           rotate_left
           ·rintro w' ⟨s0, s1, s2, s3, s4, s5, s6, s7, s8⟩
            go_simp
            with_reducible rfl
           rotate_left
           ·simp only [Act.put, List.setIfInBounds_toArray, List.set_cons_zero, List.set_cons_succ, i64_w, i32_w]
            rfl
           refine take_ (i := 10) (N := some 84) (v := ?_) (a' := ?_) #[oT,oT,oT,oT,oT,oT,oT,oT,oT,oF,oT,oT,oF,oT,oF,oF,oF,oF,oF,oF,oF,oF,oF,oF,oF,oF] rfl rfl (take_ofW HT_.out HW_.out (by kernel_rfl)) (fun _ _ _ h => h) (Or.inl ⟨by rfl, ?_⟩) hHeld ?_ ?_
           rotate_left
           ·rintro w' ⟨s0, s1, s2, s3, s4, s5, s6, s7, s8⟩
            go_simp
            with_reducible rfl
           rotate_left
           ·simp only [Act.put, List.setIfInBounds_toArray, List.set_cons_zero, List.set_cons_succ, i64_w, i32_w]
            rfl
           refine one_ (i := 9) (N := some 83) #[oT,oT,oT,oT,oT,oT,oT,oT,oT,oT,oT,oT,oF,oT,oF,oF,oF,oF,oF,oF,oF,oF,oF,oF,oF,oF] rfl rfl (one_of HT_.out (by kernel_rfl)) (by decide) (fun K hK => ?_)
           refine goes_ Try.func35 (by kernel_rfl) rfl #[.agg #[.int .i64 t378, .int .i64 t379, .int .i64 t380], .int .i64 x13_2] (by rfl) rfl rfl mt_ ?_
           with_reducible refine (laws_vec.calls t378 t379 t380 x13_2 t388 _ A70.out).mono ?_
           rintro e w100 ⟨rfl, hb⟩
           refine ⟨_, rfl, ?_⟩
           have n0_ := Aside0.mk (blk_below (g := gb357) (o := .cells #[.int .i64 t364, .int .i64 t365, .int .i64 t366] 35 (0, 0)) (bk_ BK357) hb)
           have n1_ := Aside0.mk (blk_below (g := gb358) (o := .cells #[.int .i64 t353, .int .i64 t354, .int .i64 t355] 35 (0, 0)) (bk_ BK358) hb)
           have n2_ := Aside0.mk (blk_below (g := gb363) (o := .cells #[.int .i64 t359, .int .i64 t360, .int .i64 t361] 35 (0, 0)) (bk_ BK363) hb)
           have n3_ := Aside0.mk (blk_below (g := gb371) (o := .cells #[.int .i64 t367, .int .i64 t368, .int .i64 t369] 35 (0, 0)) (bk_ BK371) hb)
           have n4_ := Aside0.mk (blk_below (g := gb376) (o := .cells #[.int .i64 t372, .int .i64 t373, .int .i64 t374] 35 (0, 0)) (bk_ BK376) hb)
           have n5_ := Aside0.mk (blk_below (g := gb381) (o := .cells #[.int .i64 t378, .int .i64 t379, .int .i64 t380] 35 (0, 0)) (bk_ BK381) hb)
           have n6_ := Aside0.mk (below_step (by repeat (first | (with_reducible first | exact HB.out | apply below_alloc | apply pw_below_drewN | apply below_drew1 | refine below_set ?_ GE357.out | refine below_set ?_ GE358.out | refine below_set ?_ GE363.out | refine below_set ?_ GE371.out | refine below_set ?_ GE376.out | refine below_set ?_ GE381.out) | exact HB.out)) hb)
           clear BK357
           clear BK358
           clear BK363
           clear BK371
           clear BK376
           clear BK381
           clear HB
           have BK357 := n0_
           have BK358 := n1_
           have BK363 := n2_
           have BK371 := n3_
           have BK376 := n4_
           have BK381 := n5_
           have HB := n6_
           clear n0_ n1_ n2_ n3_ n4_ n5_ n6_
           (try clear hb)
           (try clear hb2)
           (try clear hk)
           (try clear hi)
           refine hK.out _ _ ⟨(blk_cell BK358.out 0).trans rfl, (blk_cell BK358.out 1).trans rfl, (blk_cell BK358.out 2).trans rfl, (blk_cell BK381.out 0).trans rfl, (blk_cell BK381.out 1).trans rfl, (blk_cell BK381.out 2).trans rfl, (blk_cell BK357.out 0).trans rfl, (blk_cell BK357.out 1).trans rfl, (blk_cell BK357.out 2).trans rfl⟩ (fun hHeld => ?_)
           clear hK K
           refine norm_ (a' := ?_) ?_ ?_
           rotate_left
           ·show Act.put _ (some 83) _ = _
            simp only [Act.put, List.setIfInBounds_toArray, List.set_cons_zero, List.set_cons_succ, i64_w, i32_w]
            rfl
           refine one_ (i := 12) (N := some 86) (bs 26 14) rfl rfl (one_of HT_.out (by kernel_rfl)) (by decide) (fun K hK => ?_)
           refine goes_ Try.func35 (by kernel_rfl) rfl #[.agg #[.int .i64 t364, .int .i64 t365, .int .i64 t366], .int .i64 x13_2] (by rfl) rfl rfl mt_ ?_
           with_reducible refine (laws_vec.calls t364 t365 t366 x13_2 t389 _ A71.out).mono ?_
           rintro e w101 ⟨rfl, hb⟩
           refine ⟨_, rfl, ?_⟩
           have n0_ := Aside0.mk (blk_below (g := gb357) (o := .cells #[.int .i64 t364, .int .i64 t365, .int .i64 t366] 35 (0, 0)) (bk_ BK357) hb)
           have n1_ := Aside0.mk (blk_below (g := gb358) (o := .cells #[.int .i64 t353, .int .i64 t354, .int .i64 t355] 35 (0, 0)) (bk_ BK358) hb)
           have n2_ := Aside0.mk (blk_below (g := gb363) (o := .cells #[.int .i64 t359, .int .i64 t360, .int .i64 t361] 35 (0, 0)) (bk_ BK363) hb)
           have n3_ := Aside0.mk (blk_below (g := gb371) (o := .cells #[.int .i64 t367, .int .i64 t368, .int .i64 t369] 35 (0, 0)) (bk_ BK371) hb)
           have n4_ := Aside0.mk (blk_below (g := gb376) (o := .cells #[.int .i64 t372, .int .i64 t373, .int .i64 t374] 35 (0, 0)) (bk_ BK376) hb)
           have n5_ := Aside0.mk (blk_below (g := gb381) (o := .cells #[.int .i64 t378, .int .i64 t379, .int .i64 t380] 35 (0, 0)) (bk_ BK381) hb)
           have n6_ := Aside0.mk (below_step (by repeat (first | (with_reducible first | exact HB.out | apply below_alloc | apply pw_below_drewN | apply below_drew1 | refine below_set ?_ GE357.out | refine below_set ?_ GE358.out | refine below_set ?_ GE363.out | refine below_set ?_ GE371.out | refine below_set ?_ GE376.out | refine below_set ?_ GE381.out) | exact HB.out)) hb)
           clear BK357
           clear BK358
           clear BK363
           clear BK371
           clear BK376
           clear BK381
           clear HB
           have BK357 := n0_
           have BK358 := n1_
           have BK363 := n2_
           have BK371 := n3_
           have BK376 := n4_
           have BK381 := n5_
           have HB := n6_
           clear n0_ n1_ n2_ n3_ n4_ n5_ n6_
           (try clear hb)
           (try clear hb2)
           (try clear hk)
           (try clear hi)
           refine hK.out _ _ ⟨(blk_cell BK358.out 0).trans rfl, (blk_cell BK358.out 1).trans rfl, (blk_cell BK358.out 2).trans rfl, (blk_cell BK381.out 0).trans rfl, (blk_cell BK381.out 1).trans rfl, (blk_cell BK381.out 2).trans rfl, (blk_cell BK357.out 0).trans rfl, (blk_cell BK357.out 1).trans rfl, (blk_cell BK357.out 2).trans rfl⟩ (fun hHeld => ?_)
           clear hK K
           refine norm_ (a' := ?_) ?_ ?_
           rotate_left
           ·show Act.put _ (some 86) _ = _
            simp only [Act.put, List.setIfInBounds_toArray, List.set_cons_zero, List.set_cons_succ, i64_w, i32_w]
            rfl
           refine pure_s (i := 14) (N := some 88) (bs 26 15) (any_of HT_.out (by kernel_rfl)) (h := ?_)
           refine pure_s (i := 15) (N := some 89) (bs 26 16) (any_of HT_.out (by kernel_rfl)) (h := ?_)
           refine pure_s (i := 16) (N := some 90) (bs 26 17) (any_of HT_.out (by kernel_rfl)) (h := ?_)
           refine pure_s (i := 21) (N := some 95) #[oT,oT,oT,oT,oT,oT,oT,oT,oT,oT,oT,oT,oT,oT,oT,oT,oT,oF,oF,oF,oF,oT,oF,oF,oF,oF] (any_of HT_.out (by kernel_rfl)) (h := ?_)
           refine take_ (i := 17) (N := some 91) (v := ?_) (a' := ?_) #[oT,oT,oT,oT,oT,oT,oT,oT,oT,oT,oT,oT,oT,oT,oT,oT,oT,oT,oF,oF,oF,oT,oF,oF,oF,oF] rfl rfl (take_ofW HT_.out HW_.out (by kernel_rfl)) (fun _ _ _ h => h) (Or.inl ⟨by rfl, ?_⟩) hHeld ?_ ?_
           rotate_left
           ·rintro w' ⟨s0, s1, s2, s3, s4, s5, s6, s7, s8⟩
            go_simp
            with_reducible rfl
           rotate_left
           ·simp only [Act.put, List.setIfInBounds_toArray, List.set_cons_zero, List.set_cons_succ, i64_w, i32_w]
            rfl
           refine take_ (i := 19) (N := some 93) (v := ?_) (a' := ?_) #[oT,oT,oT,oT,oT,oT,oT,oT,oT,oT,oT,oT,oT,oT,oT,oT,oT,oT,oF,oT,oF,oT,oF,oF,oF,oF] rfl rfl (take_ofW HT_.out HW_.out (by kernel_rfl)) (fun _ _ _ h => h) (Or.inl ⟨by rfl, ?_⟩) hHeld ?_ ?_
           rotate_left
           ·rintro w' ⟨s0, s1, s2, s3, s4, s5, s6, s7, s8⟩
            go_simp
            with_reducible rfl
           rotate_left
           ·simp only [Act.put, List.setIfInBounds_toArray, List.set_cons_zero, List.set_cons_succ, i64_w, i32_w]
            rfl
           refine one_ (i := 18) (N := some 92) #[oT,oT,oT,oT,oT,oT,oT,oT,oT,oT,oT,oT,oT,oT,oT,oT,oT,oT,oT,oT,oF,oT,oF,oF,oF,oF] rfl rfl (one_of HT_.out (by kernel_rfl)) (by decide) (fun K hK => ?_)
           refine goes_ Try.func29 (by kernel_rfl) rfl #[.agg #[.int .i64 t378, .int .i64 t379, .int .i64 t380]] (by rfl) rfl rfl mt_ ?_
           with_reducible refine (spec_VecTop.calls t378 t379 t380 t390 _ A73.out).mono ?_
           rintro e w102 ⟨rfl, hb⟩
           refine ⟨_, rfl, ?_⟩
           have n0_ := Aside0.mk (blk_below (g := gb357) (o := .cells #[.int .i64 t364, .int .i64 t365, .int .i64 t366] 35 (0, 0)) (bk_ BK357) hb)
           have n1_ := Aside0.mk (blk_below (g := gb358) (o := .cells #[.int .i64 t353, .int .i64 t354, .int .i64 t355] 35 (0, 0)) (bk_ BK358) hb)
           have n2_ := Aside0.mk (blk_below (g := gb363) (o := .cells #[.int .i64 t359, .int .i64 t360, .int .i64 t361] 35 (0, 0)) (bk_ BK363) hb)
           have n3_ := Aside0.mk (blk_below (g := gb371) (o := .cells #[.int .i64 t367, .int .i64 t368, .int .i64 t369] 35 (0, 0)) (bk_ BK371) hb)
           have n4_ := Aside0.mk (blk_below (g := gb376) (o := .cells #[.int .i64 t372, .int .i64 t373, .int .i64 t374] 35 (0, 0)) (bk_ BK376) hb)
           have n5_ := Aside0.mk (blk_below (g := gb381) (o := .cells #[.int .i64 t378, .int .i64 t379, .int .i64 t380] 35 (0, 0)) (bk_ BK381) hb)
           have n6_ := Aside0.mk (below_step (by repeat (first | (with_reducible first | exact HB.out | apply below_alloc | apply pw_below_drewN | apply below_drew1 | refine below_set ?_ GE357.out | refine below_set ?_ GE358.out | refine below_set ?_ GE363.out | refine below_set ?_ GE371.out | refine below_set ?_ GE376.out | refine below_set ?_ GE381.out) | exact HB.out)) hb)
           clear BK357
           clear BK358
           clear BK363
           clear BK371
           clear BK376
           clear BK381
           clear HB
           have BK357 := n0_
           have BK358 := n1_
           have BK363 := n2_
           have BK371 := n3_
           have BK376 := n4_
           have BK381 := n5_
           have HB := n6_
           clear n0_ n1_ n2_ n3_ n4_ n5_ n6_
           (try clear hb)
           (try clear hb2)
           (try clear hk)
           (try clear hi)
           refine hK.out _ _ ⟨(blk_cell BK358.out 0).trans rfl, (blk_cell BK358.out 1).trans rfl, (blk_cell BK358.out 2).trans rfl, (blk_cell BK381.out 0).trans rfl, (blk_cell BK381.out 1).trans rfl, (blk_cell BK381.out 2).trans rfl, (blk_cell BK357.out 0).trans rfl, (blk_cell BK357.out 1).trans rfl, (blk_cell BK357.out 2).trans rfl⟩ (fun hHeld => ?_)
           clear hK K
           refine norm_ (a' := ?_) ?_ ?_
           rotate_left
           ·show Act.put _ (some 92) _ = _
            simp only [Act.put, List.setIfInBounds_toArray, List.set_cons_zero, List.set_cons_succ, i64_w, i32_w]
            rfl
           refine one_ (i := 20) (N := some 94) (bs 26 22) rfl rfl (one_of HT_.out (by kernel_rfl)) (by decide) (fun K hK => ?_)
           refine goes_ Try.func29 (by kernel_rfl) rfl #[.agg #[.int .i64 t364, .int .i64 t365, .int .i64 t366]] (by rfl) rfl rfl mt_ ?_
           with_reducible refine (spec_VecTop.calls t364 t365 t366 t391 _ A74.out).mono ?_
           rintro e w103 ⟨rfl, hb⟩
           refine ⟨_, rfl, ?_⟩
           have n0_ := Aside0.mk (blk_below (g := gb357) (o := .cells #[.int .i64 t364, .int .i64 t365, .int .i64 t366] 35 (0, 0)) (bk_ BK357) hb)
           have n1_ := Aside0.mk (blk_below (g := gb358) (o := .cells #[.int .i64 t353, .int .i64 t354, .int .i64 t355] 35 (0, 0)) (bk_ BK358) hb)
           have n2_ := Aside0.mk (blk_below (g := gb363) (o := .cells #[.int .i64 t359, .int .i64 t360, .int .i64 t361] 35 (0, 0)) (bk_ BK363) hb)
           have n3_ := Aside0.mk (blk_below (g := gb371) (o := .cells #[.int .i64 t367, .int .i64 t368, .int .i64 t369] 35 (0, 0)) (bk_ BK371) hb)
           have n4_ := Aside0.mk (blk_below (g := gb376) (o := .cells #[.int .i64 t372, .int .i64 t373, .int .i64 t374] 35 (0, 0)) (bk_ BK376) hb)
           have n5_ := Aside0.mk (blk_below (g := gb381) (o := .cells #[.int .i64 t378, .int .i64 t379, .int .i64 t380] 35 (0, 0)) (bk_ BK381) hb)
           have n6_ := Aside0.mk (below_step (by repeat (first | (with_reducible first | exact HB.out | apply below_alloc | apply pw_below_drewN | apply below_drew1 | refine below_set ?_ GE357.out | refine below_set ?_ GE358.out | refine below_set ?_ GE363.out | refine below_set ?_ GE371.out | refine below_set ?_ GE376.out | refine below_set ?_ GE381.out) | exact HB.out)) hb)
           clear BK357
           clear BK358
           clear BK363
           clear BK371
           clear BK376
           clear BK381
           clear HB
           have BK357 := n0_
           have BK358 := n1_
           have BK363 := n2_
           have BK371 := n3_
           have BK376 := n4_
           have BK381 := n5_
           have HB := n6_
           clear n0_ n1_ n2_ n3_ n4_ n5_ n6_
           (try clear hb)
           (try clear hb2)
           (try clear hk)
           (try clear hi)
           refine hK.out _ _ ⟨(blk_cell BK358.out 0).trans rfl, (blk_cell BK358.out 1).trans rfl, (blk_cell BK358.out 2).trans rfl, (blk_cell BK381.out 0).trans rfl, (blk_cell BK381.out 1).trans rfl, (blk_cell BK381.out 2).trans rfl, (blk_cell BK357.out 0).trans rfl, (blk_cell BK357.out 1).trans rfl, (blk_cell BK357.out 2).trans rfl⟩ (fun hHeld => ?_)
           clear hK K
           refine norm_ (a' := ?_) ?_ ?_
           rotate_left
           ·show Act.put _ (some 94) _ = _
            simp only [Act.put, List.setIfInBounds_toArray, List.set_cons_zero, List.set_cons_succ, i64_w, i32_w]
            rfl
           refine pure_s (i := 22) (N := some 96) (bs 26 23) (any_of HT_.out (by kernel_rfl)) (h := ?_)
           refine pure_s (i := 23) (N := some 97) (bs 26 24) (any_of HT_.out (by kernel_rfl)) (h := ?_)
           refine pure_s (i := 24) (N := some 98) (bs 26 25) (any_of HT_.out (by kernel_rfl)) (h := ?_)
           refine pure_s (i := 25) (N := some 99) (bs 26 26) (any_of HT_.out (by kernel_rfl)) (h := ?_)
           refine done_ (done_of HT_.out (by kernel_rfl)) ?_
           try go_wp2
           go_roundg k2
           case measure => have := HJ8.out; have := HK2.out; omega
           case rel => exact ⟨(wrap64 (x13_2 + 1)), (by first | rfl | (simp; done) | (simp [*]; done)), H', ⟨by have := HJ8.out; have := HK2.out; omega⟩, ⟨bk_ BK357⟩, ⟨bk_ BK358⟩, ⟨bk_ BK363⟩, ⟨bk_ BK371⟩, ⟨bk_ BK376⟩, ⟨bk_ BK381⟩, ⟨by repeat (first | (with_reducible first | exact HB.out | apply below_alloc | apply pw_below_drewN | apply below_drew1 | refine below_set ?_ GE357.out | refine below_set ?_ GE358.out | refine below_set ?_ GE363.out | refine below_set ?_ GE371.out | refine below_set ?_ GE376.out | refine below_set ?_ GE381.out) | exact HB.out)⟩⟩
         ·rw [if_neg c72] at H
          have c72b0 : (t388 == (wrap64 (t389 + (wrap64 (t384 * t385))))) = false := beq_eq_false_iff_ne.mpr c72
          have c72b1 : (t388 != (wrap64 (t389 + (wrap64 (t384 * t385))))) = true := bne_iff_ne.mpr c72
          obtain rfl := Option.some.inj H
          have hnb104 := NB358_357.out
          have hnc104 := NB357_358.out
          have hnb105 := NB358_363.out
          have hnc105 := NB363_358.out
          have hnb106 := NB358_371.out
          have hnc106 := NB371_358.out
          have hnb107 := NB358_376.out
          have hnc107 := NB376_358.out
          have hnb108 := NB358_381.out
          have hnc108 := NB381_358.out
          have hcz109_0 : wr.cell? ⟨gb358, 0, none⟩ = some (.int .i64 t353) := (blk_cell BK358.out 0).trans rfl
          have hcz109_1 : wr.cell? ⟨gb358, 1, none⟩ = some (.int .i64 t354) := (blk_cell BK358.out 1).trans rfl
          have hcz109_2 : wr.cell? ⟨gb358, 2, none⟩ = some (.int .i64 t355) := (blk_cell BK358.out 2).trans rfl
          have hfz109_0 := blk_frozen BK358.out 0
          have hfz109_1 := blk_frozen BK358.out 1
          have hfz109_2 := blk_frozen BK358.out 2
          try go_wp2_with (first | ((with_reducible refine gate_callee (f := 35) rfl ?_); refine goesL_ (some 70) rfl rfl Try.func35 (by kernel_rfl) rfl #[.agg #[.int .i64 t353, .int .i64 t354, .int .i64 t355], .int .i64 x13_2] rfl mt_ ?_; (with_reducible refine (laws_vec.calls t353 t354 t355 x13_2 t384 _ A65.out).mono ?_); rintro e w110 ⟨rfl, hb⟩; refine ⟨_, rfl, ?_⟩; have n0_ := Aside0.mk (blk_below (g := gb357) (o := .cells #[.int .i64 t364, .int .i64 t365, .int .i64 t366] 35 (0, 0)) (bk_ BK357) hb); have n1_ := Aside0.mk (blk_below (g := gb358) (o := .cells #[.int .i64 t353, .int .i64 t354, .int .i64 t355] 35 (0, 0)) (bk_ BK358) hb); have n2_ := Aside0.mk (blk_below (g := gb363) (o := .cells #[.int .i64 t359, .int .i64 t360, .int .i64 t361] 35 (0, 0)) (bk_ BK363) hb); have n3_ := Aside0.mk (blk_below (g := gb371) (o := .cells #[.int .i64 t367, .int .i64 t368, .int .i64 t369] 35 (0, 0)) (bk_ BK371) hb); have n4_ := Aside0.mk (blk_below (g := gb376) (o := .cells #[.int .i64 t372, .int .i64 t373, .int .i64 t374] 35 (0, 0)) (bk_ BK376) hb); have n5_ := Aside0.mk (blk_below (g := gb381) (o := .cells #[.int .i64 t378, .int .i64 t379, .int .i64 t380] 35 (0, 0)) (bk_ BK381) hb); have n6_ := Aside0.mk (below_step (by repeat (first | (with_reducible first | exact HB.out | apply below_alloc | apply pw_below_drewN | apply below_drew1 | refine below_set ?_ GE357.out | refine below_set ?_ GE358.out | refine below_set ?_ GE363.out | refine below_set ?_ GE371.out | refine below_set ?_ GE376.out | refine below_set ?_ GE381.out) | exact HB.out)) hb); clear BK357; clear BK358; clear BK363; clear BK371; clear BK376; clear BK381; clear HB; have BK357 := n0_; have BK358 := n1_; have BK363 := n2_; have BK371 := n3_; have BK376 := n4_; have BK381 := n5_; have HB := n6_; clear n0_ n1_ n2_ n3_ n4_ n5_ n6_; (try clear hb); (try clear hb2); (try clear hk); (try clear hi)) | ((with_reducible refine gate_callee (f := 70) rfl ?_); refine goesL_ (some 72) rfl rfl Try.func70 (by kernel_rfl) rfl #[.int .i64 t356] rfl mt_ ?_; (with_reducible refine (spec_Stride.calls t356 t385 _ A66.out).mono ?_); rintro e w' ⟨rfl, ⟨nd, rfl⟩⟩; refine ⟨_, rfl, ?_⟩))
          (try (rw [drewN_self w110]; generalize hq_ : World.drewN w110 _ = w110; have n0_ : Aside0 (w110.heap[gb357]? = some (.cells #[.int .i64 t364, .int .i64 t365, .int .i64 t366] 35 (0, 0))) := ⟨by rw [← hq_]; exact (bk_ BK357)⟩; have n1_ : Aside0 (w110.heap[gb358]? = some (.cells #[.int .i64 t353, .int .i64 t354, .int .i64 t355] 35 (0, 0))) := ⟨by rw [← hq_]; exact (bk_ BK358)⟩; have n2_ : Aside0 (w110.heap[gb363]? = some (.cells #[.int .i64 t359, .int .i64 t360, .int .i64 t361] 35 (0, 0))) := ⟨by rw [← hq_]; exact (bk_ BK363)⟩; have n3_ : Aside0 (w110.heap[gb371]? = some (.cells #[.int .i64 t367, .int .i64 t368, .int .i64 t369] 35 (0, 0))) := ⟨by rw [← hq_]; exact (bk_ BK371)⟩; have n4_ : Aside0 (w110.heap[gb376]? = some (.cells #[.int .i64 t372, .int .i64 t373, .int .i64 t374] 35 (0, 0))) := ⟨by rw [← hq_]; exact (bk_ BK376)⟩; have n5_ : Aside0 (w110.heap[gb381]? = some (.cells #[.int .i64 t378, .int .i64 t379, .int .i64 t380] 35 (0, 0))) := ⟨by rw [← hq_]; exact (bk_ BK381)⟩; have n6_ : Aside0 (Below w.heap.size w w110) := ⟨by rw [← hq_]; exact (by repeat (first | (with_reducible first | exact HB.out | apply below_alloc | apply pw_below_drewN | apply below_drew1 | refine below_set ?_ GE357.out | refine below_set ?_ GE358.out | refine below_set ?_ GE363.out | refine below_set ?_ GE371.out | refine below_set ?_ GE376.out | refine below_set ?_ GE381.out) | exact HB.out))⟩; clear BK357 BK358 BK363 BK371 BK376 BK381 HB hq_; have BK357 := n0_; have BK358 := n1_; have BK363 := n2_; have BK371 := n3_; have BK376 := n4_; have BK381 := n5_; have HB := n6_; clear n0_ n1_ n2_ n3_ n4_ n5_ n6_))
          have n0_ := Aside0.mk (blk_drew BK357.out)
          have n1_ := Aside0.mk (blk_drew BK358.out)
          have n2_ := Aside0.mk (blk_drew BK363.out)
          have n3_ := Aside0.mk (blk_drew BK371.out)
          have n4_ := Aside0.mk (blk_drew BK376.out)
          have n5_ := Aside0.mk (blk_drew BK381.out)
          have n6_ := Aside0.mk (below_drew1 HB.out)
          clear BK357
          clear BK358
          clear BK363
          clear BK371
          clear BK376
          clear BK381
          clear HB
          have BK357 := n0_
          have BK358 := n1_
          have BK363 := n2_
          have BK371 := n3_
          have BK376 := n4_
          have BK381 := n5_
          have HB := n6_
          clear n0_ n1_ n2_ n3_ n4_ n5_ n6_
          refine start_ (n := 26) (S := fun w' => w'.cell? ⟨gb358, 0, none⟩ = some (.int .i64 t353) ∧ w'.cell? ⟨gb358, 1, none⟩ = some (.int .i64 t354) ∧ w'.cell? ⟨gb358, 2, none⟩ = some (.int .i64 t355) ∧ w'.cell? ⟨gb381, 0, none⟩ = some (.int .i64 t378) ∧ w'.cell? ⟨gb381, 1, none⟩ = some (.int .i64 t379) ∧ w'.cell? ⟨gb381, 2, none⟩ = some (.int .i64 t380) ∧ w'.cell? ⟨gb357, 0, none⟩ = some (.int .i64 t364) ∧ w'.cell? ⟨gb357, 1, none⟩ = some (.int .i64 t365) ∧ w'.cell? ⟨gb357, 2, none⟩ = some (.int .i64 t366)) (ds := []) (bs 26 0) (by kernel_rfl) rfl rfl ⟨(blk_cell BK358.out 0).trans rfl, (blk_cell BK358.out 1).trans rfl, (blk_cell BK358.out 2).trans rfl, (blk_cell BK381.out 0).trans rfl, (blk_cell BK381.out 1).trans rfl, (blk_cell BK381.out 2).trans rfl, (blk_cell BK357.out 0).trans rfl, (blk_cell BK357.out 1).trans rfl, (blk_cell BK357.out 2).trans rfl⟩ (fun hHeld => ?_); refine with_tabW laws_FnMainMoves.tab15 laws_FnMainMoves.bits15 (fun HT_ HW_ => ?_)
          generalize w110.drew = w111 at BK357 BK358 BK363 BK371 BK376 BK381 HB hHeld ⊢
          refine pure_s (i := 1) (N := some 75) #[oF,oT,oF,oF,oF,oF,oF,oF,oF,oF,oF,oF,oF,oF,oF,oF,oF,oF,oF,oF,oF,oF,oF,oF,oF,oF] (any_of HT_.out (by kernel_rfl)) (h := ?_)
          refine take_ (i := 0) (N := some 74) (v := ?_) (a' := ?_) (bs 26 2) rfl rfl (take_ofW HT_.out HW_.out (by kernel_rfl)) (fun _ _ _ h => h) (Or.inl ⟨by rfl, ?_⟩) hHeld ?_ ?_
          rotate_left
          ·rintro w' ⟨s0, s1, s2, s3, s4, s5, s6, s7, s8⟩
           go_simp
           with_reducible rfl
          rotate_left
          ·simp only [Act.put, List.setIfInBounds_toArray, List.set_cons_zero, List.set_cons_succ, i64_w, i32_w]
           rfl
          refine take_ (i := 3) (N := some 77) (v := ?_) (a' := ?_) #[oT,oT,oF,oT,oF,oF,oF,oF,oF,oF,oF,oF,oF,oF,oF,oF,oF,oF,oF,oF,oF,oF,oF,oF,oF,oF] rfl rfl (take_ofW HT_.out HW_.out (by kernel_rfl)) (fun _ _ _ h => h) (Or.inl ⟨by rfl, ?_⟩) hHeld ?_ ?_
          rotate_left
          ·rintro w' ⟨s0, s1, s2, s3, s4, s5, s6, s7, s8⟩
           go_simp
           with_reducible rfl
          rotate_left
          ·simp only [Act.put, List.setIfInBounds_toArray, List.set_cons_zero, List.set_cons_succ, i64_w, i32_w]
           rfl
          refine one_ (i := 2) (N := some 76) (bs 26 4) rfl rfl (one_of HT_.out (by kernel_rfl)) (by decide) (fun K hK => ?_)
          refine goes_ Try.func35 (by kernel_rfl) rfl #[.agg #[.int .i64 t353, .int .i64 t354, .int .i64 t355], .int .i64 x13_2] (by rfl) rfl rfl mt_ ?_
          with_reducible refine (laws_vec.calls t353 t354 t355 x13_2 t386 _ A67.out).mono ?_
          rintro e w112 ⟨rfl, hb⟩
          refine ⟨_, rfl, ?_⟩
          have n0_ := Aside0.mk (blk_below (g := gb357) (o := .cells #[.int .i64 t364, .int .i64 t365, .int .i64 t366] 35 (0, 0)) (bk_ BK357) hb)
          have n1_ := Aside0.mk (blk_below (g := gb358) (o := .cells #[.int .i64 t353, .int .i64 t354, .int .i64 t355] 35 (0, 0)) (bk_ BK358) hb)
          have n2_ := Aside0.mk (blk_below (g := gb363) (o := .cells #[.int .i64 t359, .int .i64 t360, .int .i64 t361] 35 (0, 0)) (bk_ BK363) hb)
          have n3_ := Aside0.mk (blk_below (g := gb371) (o := .cells #[.int .i64 t367, .int .i64 t368, .int .i64 t369] 35 (0, 0)) (bk_ BK371) hb)
          have n4_ := Aside0.mk (blk_below (g := gb376) (o := .cells #[.int .i64 t372, .int .i64 t373, .int .i64 t374] 35 (0, 0)) (bk_ BK376) hb)
          have n5_ := Aside0.mk (blk_below (g := gb381) (o := .cells #[.int .i64 t378, .int .i64 t379, .int .i64 t380] 35 (0, 0)) (bk_ BK381) hb)
          have n6_ := Aside0.mk (below_step (by repeat (first | (with_reducible first | exact HB.out | apply below_alloc | apply pw_below_drewN | apply below_drew1 | refine below_set ?_ GE357.out | refine below_set ?_ GE358.out | refine below_set ?_ GE363.out | refine below_set ?_ GE371.out | refine below_set ?_ GE376.out | refine below_set ?_ GE381.out) | exact HB.out)) hb)
          clear BK357
          clear BK358
          clear BK363
          clear BK371
          clear BK376
          clear BK381
          clear HB
          have BK357 := n0_
          have BK358 := n1_
          have BK363 := n2_
          have BK371 := n3_
          have BK376 := n4_
          have BK381 := n5_
          have HB := n6_
          clear n0_ n1_ n2_ n3_ n4_ n5_ n6_
          (try clear hb)
          (try clear hb2)
          (try clear hk)
          (try clear hi)
          refine hK.out _ _ ⟨(blk_cell BK358.out 0).trans rfl, (blk_cell BK358.out 1).trans rfl, (blk_cell BK358.out 2).trans rfl, (blk_cell BK381.out 0).trans rfl, (blk_cell BK381.out 1).trans rfl, (blk_cell BK381.out 2).trans rfl, (blk_cell BK357.out 0).trans rfl, (blk_cell BK357.out 1).trans rfl, (blk_cell BK357.out 2).trans rfl⟩ (fun hHeld => ?_)
          clear hK K
          refine norm_ (a' := ?_) ?_ ?_
          rotate_left
          ·show Act.put _ (some 76) _ = _
           simp only [Act.put, List.setIfInBounds_toArray, List.set_cons_zero, List.set_cons_succ, i64_w, i32_w]
           rfl
          refine one_ (i := 4) (N := some 78) (bs 26 5) rfl rfl (one_of HT_.out (by kernel_rfl)) (by decide) (fun K hK => ?_)
          refine goes_ Try.func29 (by kernel_rfl) rfl #[.agg #[.int .i64 t353, .int .i64 t354, .int .i64 t355]] (by rfl) rfl rfl mt_ ?_
          with_reducible refine (spec_VecTop.calls t353 t354 t355 t387 _ A68.out).mono ?_
          rintro e w113 ⟨rfl, hb⟩
          refine ⟨_, rfl, ?_⟩
          have n0_ := Aside0.mk (blk_below (g := gb357) (o := .cells #[.int .i64 t364, .int .i64 t365, .int .i64 t366] 35 (0, 0)) (bk_ BK357) hb)
          have n1_ := Aside0.mk (blk_below (g := gb358) (o := .cells #[.int .i64 t353, .int .i64 t354, .int .i64 t355] 35 (0, 0)) (bk_ BK358) hb)
          have n2_ := Aside0.mk (blk_below (g := gb363) (o := .cells #[.int .i64 t359, .int .i64 t360, .int .i64 t361] 35 (0, 0)) (bk_ BK363) hb)
          have n3_ := Aside0.mk (blk_below (g := gb371) (o := .cells #[.int .i64 t367, .int .i64 t368, .int .i64 t369] 35 (0, 0)) (bk_ BK371) hb)
          have n4_ := Aside0.mk (blk_below (g := gb376) (o := .cells #[.int .i64 t372, .int .i64 t373, .int .i64 t374] 35 (0, 0)) (bk_ BK376) hb)
          have n5_ := Aside0.mk (blk_below (g := gb381) (o := .cells #[.int .i64 t378, .int .i64 t379, .int .i64 t380] 35 (0, 0)) (bk_ BK381) hb)
          have n6_ := Aside0.mk (below_step (by repeat (first | (with_reducible first | exact HB.out | apply below_alloc | apply pw_below_drewN | apply below_drew1 | refine below_set ?_ GE357.out | refine below_set ?_ GE358.out | refine below_set ?_ GE363.out | refine below_set ?_ GE371.out | refine below_set ?_ GE376.out | refine below_set ?_ GE381.out) | exact HB.out)) hb)
          clear BK357
          clear BK358
          clear BK363
          clear BK371
          clear BK376
          clear BK381
          clear HB
          have BK357 := n0_
          have BK358 := n1_
          have BK363 := n2_
          have BK371 := n3_
          have BK376 := n4_
          have BK381 := n5_
          have HB := n6_
          clear n0_ n1_ n2_ n3_ n4_ n5_ n6_
          (try clear hb)
          (try clear hb2)
          (try clear hk)
          (try clear hi)
          refine hK.out _ _ ⟨(blk_cell BK358.out 0).trans rfl, (blk_cell BK358.out 1).trans rfl, (blk_cell BK358.out 2).trans rfl, (blk_cell BK381.out 0).trans rfl, (blk_cell BK381.out 1).trans rfl, (blk_cell BK381.out 2).trans rfl, (blk_cell BK357.out 0).trans rfl, (blk_cell BK357.out 1).trans rfl, (blk_cell BK357.out 2).trans rfl⟩ (fun hHeld => ?_)
          clear hK K
          refine norm_ (a' := ?_) ?_ ?_
          rotate_left
          ·show Act.put _ (some 78) _ = _
           simp only [Act.put, List.setIfInBounds_toArray, List.set_cons_zero, List.set_cons_succ, i64_w, i32_w]
           rfl
          refine pure_s (i := 5) (N := some 79) (bs 26 6) (any_of HT_.out (by kernel_rfl)) (h := ?_)
          refine pure_s (i := 6) (N := some 80) (bs 26 7) (any_of HT_.out (by kernel_rfl)) (h := ?_)
          refine pure_s (i := 8) (N := some 82) #[oT,oT,oT,oT,oT,oT,oT,oF,oT,oF,oF,oF,oF,oF,oF,oF,oF,oF,oF,oF,oF,oF,oF,oF,oF,oF] (any_of HT_.out (by kernel_rfl)) (h := ?_)
          refine pure_s (i := 11) (N := some 85) #[oT,oT,oT,oT,oT,oT,oT,oF,oT,oF,oF,oT,oF,oF,oF,oF,oF,oF,oF,oF,oF,oF,oF,oF,oF,oF] (any_of HT_.out (by kernel_rfl)) (h := ?_)
          refine pure_s (i := 13) (N := some 87) #[oT,oT,oT,oT,oT,oT,oT,oF,oT,oF,oF,oT,oF,oT,oF,oF,oF,oF,oF,oF,oF,oF,oF,oF,oF,oF] (any_of HT_.out (by kernel_rfl)) (h := ?_)
          refine take_ (i := 7) (N := some 81) (v := ?_) (a' := ?_) #[oT,oT,oT,oT,oT,oT,oT,oT,oT,oF,oF,oT,oF,oT,oF,oF,oF,oF,oF,oF,oF,oF,oF,oF,oF,oF] rfl rfl (take_ofW HT_.out HW_.out (by kernel_rfl)) (fun _ _ _ h => h) (Or.inl ⟨by rfl, ?_⟩) hHeld ?_ ?_
          rotate_left
          ·rintro w' ⟨s0, s1, s2, s3, s4, s5, s6, s7, s8⟩
           go_simp
           with_reducible rfl
          rotate_left
          ·simp only [Act.put, List.setIfInBounds_toArray, List.set_cons_zero, List.set_cons_succ, i64_w, i32_w]
           rfl
          refine take_ (i := 10) (N := some 84) (v := ?_) (a' := ?_) #[oT,oT,oT,oT,oT,oT,oT,oT,oT,oF,oT,oT,oF,oT,oF,oF,oF,oF,oF,oF,oF,oF,oF,oF,oF,oF] rfl rfl (take_ofW HT_.out HW_.out (by kernel_rfl)) (fun _ _ _ h => h) (Or.inl ⟨by rfl, ?_⟩) hHeld ?_ ?_
          rotate_left
          ·rintro w' ⟨s0, s1, s2, s3, s4, s5, s6, s7, s8⟩
           go_simp
           with_reducible rfl
          rotate_left
          ·simp only [Act.put, List.setIfInBounds_toArray, List.set_cons_zero, List.set_cons_succ, i64_w, i32_w]
           rfl
          refine one_ (i := 9) (N := some 83) #[oT,oT,oT,oT,oT,oT,oT,oT,oT,oT,oT,oT,oF,oT,oF,oF,oF,oF,oF,oF,oF,oF,oF,oF,oF,oF] rfl rfl (one_of HT_.out (by kernel_rfl)) (by decide) (fun K hK => ?_)
          refine goes_ Try.func35 (by kernel_rfl) rfl #[.agg #[.int .i64 t378, .int .i64 t379, .int .i64 t380], .int .i64 x13_2] (by rfl) rfl rfl mt_ ?_
          with_reducible refine (laws_vec.calls t378 t379 t380 x13_2 t388 _ A70.out).mono ?_
          rintro e w114 ⟨rfl, hb⟩
          refine ⟨_, rfl, ?_⟩
          have n0_ := Aside0.mk (blk_below (g := gb357) (o := .cells #[.int .i64 t364, .int .i64 t365, .int .i64 t366] 35 (0, 0)) (bk_ BK357) hb)
          have n1_ := Aside0.mk (blk_below (g := gb358) (o := .cells #[.int .i64 t353, .int .i64 t354, .int .i64 t355] 35 (0, 0)) (bk_ BK358) hb)
          have n2_ := Aside0.mk (blk_below (g := gb363) (o := .cells #[.int .i64 t359, .int .i64 t360, .int .i64 t361] 35 (0, 0)) (bk_ BK363) hb)
          have n3_ := Aside0.mk (blk_below (g := gb371) (o := .cells #[.int .i64 t367, .int .i64 t368, .int .i64 t369] 35 (0, 0)) (bk_ BK371) hb)
          have n4_ := Aside0.mk (blk_below (g := gb376) (o := .cells #[.int .i64 t372, .int .i64 t373, .int .i64 t374] 35 (0, 0)) (bk_ BK376) hb)
          have n5_ := Aside0.mk (blk_below (g := gb381) (o := .cells #[.int .i64 t378, .int .i64 t379, .int .i64 t380] 35 (0, 0)) (bk_ BK381) hb)
          have n6_ := Aside0.mk (below_step (by repeat (first | (with_reducible first | exact HB.out | apply below_alloc | apply pw_below_drewN | apply below_drew1 | refine below_set ?_ GE357.out | refine below_set ?_ GE358.out | refine below_set ?_ GE363.out | refine below_set ?_ GE371.out | refine below_set ?_ GE376.out | refine below_set ?_ GE381.out) | exact HB.out)) hb)
          clear BK357
          clear BK358
          clear BK363
          clear BK371
          clear BK376
          clear BK381
          clear HB
          have BK357 := n0_
          have BK358 := n1_
          have BK363 := n2_
          have BK371 := n3_
          have BK376 := n4_
          have BK381 := n5_
          have HB := n6_
          clear n0_ n1_ n2_ n3_ n4_ n5_ n6_
          (try clear hb)
          (try clear hb2)
          (try clear hk)
          (try clear hi)
          refine hK.out _ _ ⟨(blk_cell BK358.out 0).trans rfl, (blk_cell BK358.out 1).trans rfl, (blk_cell BK358.out 2).trans rfl, (blk_cell BK381.out 0).trans rfl, (blk_cell BK381.out 1).trans rfl, (blk_cell BK381.out 2).trans rfl, (blk_cell BK357.out 0).trans rfl, (blk_cell BK357.out 1).trans rfl, (blk_cell BK357.out 2).trans rfl⟩ (fun hHeld => ?_)
          clear hK K
          refine norm_ (a' := ?_) ?_ ?_
          rotate_left
          ·show Act.put _ (some 83) _ = _
           simp only [Act.put, List.setIfInBounds_toArray, List.set_cons_zero, List.set_cons_succ, i64_w, i32_w]
           rfl
          refine one_ (i := 12) (N := some 86) (bs 26 14) rfl rfl (one_of HT_.out (by kernel_rfl)) (by decide) (fun K hK => ?_)
          refine goes_ Try.func35 (by kernel_rfl) rfl #[.agg #[.int .i64 t364, .int .i64 t365, .int .i64 t366], .int .i64 x13_2] (by rfl) rfl rfl mt_ ?_
          with_reducible refine (laws_vec.calls t364 t365 t366 x13_2 t389 _ A71.out).mono ?_
          rintro e w115 ⟨rfl, hb⟩
          refine ⟨_, rfl, ?_⟩
          have n0_ := Aside0.mk (blk_below (g := gb357) (o := .cells #[.int .i64 t364, .int .i64 t365, .int .i64 t366] 35 (0, 0)) (bk_ BK357) hb)
          have n1_ := Aside0.mk (blk_below (g := gb358) (o := .cells #[.int .i64 t353, .int .i64 t354, .int .i64 t355] 35 (0, 0)) (bk_ BK358) hb)
          have n2_ := Aside0.mk (blk_below (g := gb363) (o := .cells #[.int .i64 t359, .int .i64 t360, .int .i64 t361] 35 (0, 0)) (bk_ BK363) hb)
          have n3_ := Aside0.mk (blk_below (g := gb371) (o := .cells #[.int .i64 t367, .int .i64 t368, .int .i64 t369] 35 (0, 0)) (bk_ BK371) hb)
          have n4_ := Aside0.mk (blk_below (g := gb376) (o := .cells #[.int .i64 t372, .int .i64 t373, .int .i64 t374] 35 (0, 0)) (bk_ BK376) hb)
          have n5_ := Aside0.mk (blk_below (g := gb381) (o := .cells #[.int .i64 t378, .int .i64 t379, .int .i64 t380] 35 (0, 0)) (bk_ BK381) hb)
          have n6_ := Aside0.mk (below_step (by repeat (first | (with_reducible first | exact HB.out | apply below_alloc | apply pw_below_drewN | apply below_drew1 | refine below_set ?_ GE357.out | refine below_set ?_ GE358.out | refine below_set ?_ GE363.out | refine below_set ?_ GE371.out | refine below_set ?_ GE376.out | refine below_set ?_ GE381.out) | exact HB.out)) hb)
          clear BK357
          clear BK358
          clear BK363
          clear BK371
          clear BK376
          clear BK381
          clear HB
          have BK357 := n0_
          have BK358 := n1_
          have BK363 := n2_
          have BK371 := n3_
          have BK376 := n4_
          have BK381 := n5_
          have HB := n6_
          clear n0_ n1_ n2_ n3_ n4_ n5_ n6_
          (try clear hb)
          (try clear hb2)
          (try clear hk)
          (try clear hi)
          refine hK.out _ _ ⟨(blk_cell BK358.out 0).trans rfl, (blk_cell BK358.out 1).trans rfl, (blk_cell BK358.out 2).trans rfl, (blk_cell BK381.out 0).trans rfl, (blk_cell BK381.out 1).trans rfl, (blk_cell BK381.out 2).trans rfl, (blk_cell BK357.out 0).trans rfl, (blk_cell BK357.out 1).trans rfl, (blk_cell BK357.out 2).trans rfl⟩ (fun hHeld => ?_)
          clear hK K
          refine norm_ (a' := ?_) ?_ ?_
          rotate_left
          ·show Act.put _ (some 86) _ = _
           simp only [Act.put, List.setIfInBounds_toArray, List.set_cons_zero, List.set_cons_succ, i64_w, i32_w]
           rfl
          refine pure_s (i := 14) (N := some 88) (bs 26 15) (any_of HT_.out (by kernel_rfl)) (h := ?_)
          refine pure_s (i := 15) (N := some 89) (bs 26 16) (any_of HT_.out (by kernel_rfl)) (h := ?_)
          refine pure_s (i := 16) (N := some 90) (bs 26 17) (any_of HT_.out (by kernel_rfl)) (h := ?_)
          refine pure_u (i := 17) (N := some 91) (bs 26 18) (any_of HT_.out (by kernel_rfl)) (h := ?_)
          refine pure_u (i := 18) (N := some 92) (bs 26 19) (any_of HT_.out (by kernel_rfl)) (h := ?_)
          refine pure_u (i := 19) (N := some 93) (bs 26 20) (any_of HT_.out (by kernel_rfl)) (h := ?_)
          refine pure_u (i := 20) (N := some 94) (bs 26 21) (any_of HT_.out (by kernel_rfl)) (h := ?_)
          refine pure_u (i := 21) (N := some 95) (bs 26 22) (any_of HT_.out (by kernel_rfl)) (h := ?_)
          refine pure_u (i := 22) (N := some 96) (bs 26 23) (any_of HT_.out (by kernel_rfl)) (h := ?_)
          refine pure_u (i := 23) (N := some 97) (bs 26 24) (any_of HT_.out (by kernel_rfl)) (h := ?_)
          refine pure_s (i := 24) (N := some 98) (bs 26 25) (any_of HT_.out (by kernel_rfl)) (h := ?_)
          refine pure_s (i := 25) (N := some 99) (bs 26 26) (any_of HT_.out (by kernel_rfl)) (h := ?_)
          refine done_ (done_of HT_.out (by kernel_rfl)) ?_
          try go_wp2
          go_ret
          exact ⟨by first | rfl | (simp [errW_none, errW_some] <;> rfl) | (simp [*, errW_none, errW_some] <;> rfl), by repeat (first | (with_reducible first | exact HB.out | apply below_alloc | apply pw_below_drewN | apply below_drew1 | refine below_set ?_ GE357.out | refine below_set ?_ GE358.out | refine below_set ?_ GE363.out | refine below_set ?_ GE371.out | refine below_set ?_ GE376.out | refine below_set ?_ GE381.out) | exact HB.out)⟩
        ·rw [if_neg c69] at H
         have c69b0 : (t386 == t387) = false := beq_eq_false_iff_ne.mpr c69
         have c69b1 : (t386 != t387) = true := bne_iff_ne.mpr c69
         have H' := Aside0.mk H
         clear H
         have hnb116 := NB358_357.out
         have hnc116 := NB357_358.out
         have hnb117 := NB358_363.out
         have hnc117 := NB363_358.out
         have hnb118 := NB358_371.out
         have hnc118 := NB371_358.out
         have hnb119 := NB358_376.out
         have hnc119 := NB376_358.out
         have hnb120 := NB358_381.out
         have hnc120 := NB381_358.out
         have hcz121_0 : wr.cell? ⟨gb358, 0, none⟩ = some (.int .i64 t353) := (blk_cell BK358.out 0).trans rfl
         have hcz121_1 : wr.cell? ⟨gb358, 1, none⟩ = some (.int .i64 t354) := (blk_cell BK358.out 1).trans rfl
         have hcz121_2 : wr.cell? ⟨gb358, 2, none⟩ = some (.int .i64 t355) := (blk_cell BK358.out 2).trans rfl
         have hfz121_0 := blk_frozen BK358.out 0
         have hfz121_1 := blk_frozen BK358.out 1
         have hfz121_2 := blk_frozen BK358.out 2
         try go_wp2_with (first | ((with_reducible refine gate_callee (f := 35) rfl ?_); refine goesL_ (some 70) rfl rfl Try.func35 (by kernel_rfl) rfl #[.agg #[.int .i64 t353, .int .i64 t354, .int .i64 t355], .int .i64 x13_2] rfl mt_ ?_; (with_reducible refine (laws_vec.calls t353 t354 t355 x13_2 t384 _ A65.out).mono ?_); rintro e w122 ⟨rfl, hb⟩; refine ⟨_, rfl, ?_⟩; have n0_ := Aside0.mk (blk_below (g := gb357) (o := .cells #[.int .i64 t364, .int .i64 t365, .int .i64 t366] 35 (0, 0)) (bk_ BK357) hb); have n1_ := Aside0.mk (blk_below (g := gb358) (o := .cells #[.int .i64 t353, .int .i64 t354, .int .i64 t355] 35 (0, 0)) (bk_ BK358) hb); have n2_ := Aside0.mk (blk_below (g := gb363) (o := .cells #[.int .i64 t359, .int .i64 t360, .int .i64 t361] 35 (0, 0)) (bk_ BK363) hb); have n3_ := Aside0.mk (blk_below (g := gb371) (o := .cells #[.int .i64 t367, .int .i64 t368, .int .i64 t369] 35 (0, 0)) (bk_ BK371) hb); have n4_ := Aside0.mk (blk_below (g := gb376) (o := .cells #[.int .i64 t372, .int .i64 t373, .int .i64 t374] 35 (0, 0)) (bk_ BK376) hb); have n5_ := Aside0.mk (blk_below (g := gb381) (o := .cells #[.int .i64 t378, .int .i64 t379, .int .i64 t380] 35 (0, 0)) (bk_ BK381) hb); have n6_ := Aside0.mk (below_step (by repeat (first | (with_reducible first | exact HB.out | apply below_alloc | apply pw_below_drewN | apply below_drew1 | refine below_set ?_ GE357.out | refine below_set ?_ GE358.out | refine below_set ?_ GE363.out | refine below_set ?_ GE371.out | refine below_set ?_ GE376.out | refine below_set ?_ GE381.out) | exact HB.out)) hb); clear BK357; clear BK358; clear BK363; clear BK371; clear BK376; clear BK381; clear HB; have BK357 := n0_; have BK358 := n1_; have BK363 := n2_; have BK371 := n3_; have BK376 := n4_; have BK381 := n5_; have HB := n6_; clear n0_ n1_ n2_ n3_ n4_ n5_ n6_; (try clear hb); (try clear hb2); (try clear hk); (try clear hi)) | ((with_reducible refine gate_callee (f := 70) rfl ?_); refine goesL_ (some 72) rfl rfl Try.func70 (by kernel_rfl) rfl #[.int .i64 t356] rfl mt_ ?_; (with_reducible refine (spec_Stride.calls t356 t385 _ A66.out).mono ?_); rintro e w' ⟨rfl, ⟨nd, rfl⟩⟩; refine ⟨_, rfl, ?_⟩))
         (try (rw [drewN_self w122]; generalize hq_ : World.drewN w122 _ = w122; have n0_ : Aside0 (w122.heap[gb357]? = some (.cells #[.int .i64 t364, .int .i64 t365, .int .i64 t366] 35 (0, 0))) := ⟨by rw [← hq_]; exact (bk_ BK357)⟩; have n1_ : Aside0 (w122.heap[gb358]? = some (.cells #[.int .i64 t353, .int .i64 t354, .int .i64 t355] 35 (0, 0))) := ⟨by rw [← hq_]; exact (bk_ BK358)⟩; have n2_ : Aside0 (w122.heap[gb363]? = some (.cells #[.int .i64 t359, .int .i64 t360, .int .i64 t361] 35 (0, 0))) := ⟨by rw [← hq_]; exact (bk_ BK363)⟩; have n3_ : Aside0 (w122.heap[gb371]? = some (.cells #[.int .i64 t367, .int .i64 t368, .int .i64 t369] 35 (0, 0))) := ⟨by rw [← hq_]; exact (bk_ BK371)⟩; have n4_ : Aside0 (w122.heap[gb376]? = some (.cells #[.int .i64 t372, .int .i64 t373, .int .i64 t374] 35 (0, 0))) := ⟨by rw [← hq_]; exact (bk_ BK376)⟩; have n5_ : Aside0 (w122.heap[gb381]? = some (.cells #[.int .i64 t378, .int .i64 t379, .int .i64 t380] 35 (0, 0))) := ⟨by rw [← hq_]; exact (bk_ BK381)⟩; have n6_ : Aside0 (Below w.heap.size w w122) := ⟨by rw [← hq_]; exact (by repeat (first | (with_reducible first | exact HB.out | apply below_alloc | apply pw_below_drewN | apply below_drew1 | refine below_set ?_ GE357.out | refine below_set ?_ GE358.out | refine below_set ?_ GE363.out | refine below_set ?_ GE371.out | refine below_set ?_ GE376.out | refine below_set ?_ GE381.out) | exact HB.out))⟩; clear BK357 BK358 BK363 BK371 BK376 BK381 HB hq_; have BK357 := n0_; have BK358 := n1_; have BK363 := n2_; have BK371 := n3_; have BK376 := n4_; have BK381 := n5_; have HB := n6_; clear n0_ n1_ n2_ n3_ n4_ n5_ n6_))
         have n0_ := Aside0.mk (blk_drew BK357.out)
         have n1_ := Aside0.mk (blk_drew BK358.out)
         have n2_ := Aside0.mk (blk_drew BK363.out)
         have n3_ := Aside0.mk (blk_drew BK371.out)
         have n4_ := Aside0.mk (blk_drew BK376.out)
         have n5_ := Aside0.mk (blk_drew BK381.out)
         have n6_ := Aside0.mk (below_drew1 HB.out)
         clear BK357
         clear BK358
         clear BK363
         clear BK371
         clear BK376
         clear BK381
         clear HB
         have BK357 := n0_
         have BK358 := n1_
         have BK363 := n2_
         have BK371 := n3_
         have BK376 := n4_
         have BK381 := n5_
         have HB := n6_
         clear n0_ n1_ n2_ n3_ n4_ n5_ n6_
         refine start_ (n := 26) (S := fun w' => w'.cell? ⟨gb358, 0, none⟩ = some (.int .i64 t353) ∧ w'.cell? ⟨gb358, 1, none⟩ = some (.int .i64 t354) ∧ w'.cell? ⟨gb358, 2, none⟩ = some (.int .i64 t355)) (ds := []) (bs 26 0) (by kernel_rfl) rfl rfl ⟨(blk_cell BK358.out 0).trans rfl, (blk_cell BK358.out 1).trans rfl, (blk_cell BK358.out 2).trans rfl⟩ (fun hHeld => ?_); refine with_tabW laws_FnMainMoves.tab15 laws_FnMainMoves.bits15 (fun HT_ HW_ => ?_)
         generalize w122.drew = w123 at BK357 BK358 BK363 BK371 BK376 BK381 HB hHeld ⊢
         refine pure_s (i := 1) (N := some 75) #[oF,oT,oF,oF,oF,oF,oF,oF,oF,oF,oF,oF,oF,oF,oF,oF,oF,oF,oF,oF,oF,oF,oF,oF,oF,oF] (any_of HT_.out (by kernel_rfl)) (h := ?_)
         refine take_ (i := 0) (N := some 74) (v := ?_) (a' := ?_) (bs 26 2) rfl rfl (take_ofW HT_.out HW_.out (by kernel_rfl)) (fun _ _ _ h => h) (Or.inl ⟨by rfl, ?_⟩) hHeld ?_ ?_
         rotate_left
         ·rintro w' ⟨s0, s1, s2⟩
          go_simp
          with_reducible rfl
         rotate_left
         ·simp only [Act.put, List.setIfInBounds_toArray, List.set_cons_zero, List.set_cons_succ, i64_w, i32_w]
          rfl
         refine take_ (i := 3) (N := some 77) (v := ?_) (a' := ?_) #[oT,oT,oF,oT,oF,oF,oF,oF,oF,oF,oF,oF,oF,oF,oF,oF,oF,oF,oF,oF,oF,oF,oF,oF,oF,oF] rfl rfl (take_ofW HT_.out HW_.out (by kernel_rfl)) (fun _ _ _ h => h) (Or.inl ⟨by rfl, ?_⟩) hHeld ?_ ?_
         rotate_left
         ·rintro w' ⟨s0, s1, s2⟩
          go_simp
          with_reducible rfl
         rotate_left
         ·simp only [Act.put, List.setIfInBounds_toArray, List.set_cons_zero, List.set_cons_succ, i64_w, i32_w]
          rfl
         refine one_ (i := 2) (N := some 76) (bs 26 4) rfl rfl (one_of HT_.out (by kernel_rfl)) (by decide) (fun K hK => ?_)
         refine goes_ Try.func35 (by kernel_rfl) rfl #[.agg #[.int .i64 t353, .int .i64 t354, .int .i64 t355], .int .i64 x13_2] (by rfl) rfl rfl mt_ ?_
         with_reducible refine (laws_vec.calls t353 t354 t355 x13_2 t386 _ A67.out).mono ?_
         rintro e w124 ⟨rfl, hb⟩
         refine ⟨_, rfl, ?_⟩
         have n0_ := Aside0.mk (blk_below (g := gb357) (o := .cells #[.int .i64 t364, .int .i64 t365, .int .i64 t366] 35 (0, 0)) (bk_ BK357) hb)
         have n1_ := Aside0.mk (blk_below (g := gb358) (o := .cells #[.int .i64 t353, .int .i64 t354, .int .i64 t355] 35 (0, 0)) (bk_ BK358) hb)
         have n2_ := Aside0.mk (blk_below (g := gb363) (o := .cells #[.int .i64 t359, .int .i64 t360, .int .i64 t361] 35 (0, 0)) (bk_ BK363) hb)
         have n3_ := Aside0.mk (blk_below (g := gb371) (o := .cells #[.int .i64 t367, .int .i64 t368, .int .i64 t369] 35 (0, 0)) (bk_ BK371) hb)
         have n4_ := Aside0.mk (blk_below (g := gb376) (o := .cells #[.int .i64 t372, .int .i64 t373, .int .i64 t374] 35 (0, 0)) (bk_ BK376) hb)
         have n5_ := Aside0.mk (blk_below (g := gb381) (o := .cells #[.int .i64 t378, .int .i64 t379, .int .i64 t380] 35 (0, 0)) (bk_ BK381) hb)
         have n6_ := Aside0.mk (below_step (by repeat (first | (with_reducible first | exact HB.out | apply below_alloc | apply pw_below_drewN | apply below_drew1 | refine below_set ?_ GE357.out | refine below_set ?_ GE358.out | refine below_set ?_ GE363.out | refine below_set ?_ GE371.out | refine below_set ?_ GE376.out | refine below_set ?_ GE381.out) | exact HB.out)) hb)
         clear BK357
         clear BK358
         clear BK363
         clear BK371
         clear BK376
         clear BK381
         clear HB
         have BK357 := n0_
         have BK358 := n1_
         have BK363 := n2_
         have BK371 := n3_
         have BK376 := n4_
         have BK381 := n5_
         have HB := n6_
         clear n0_ n1_ n2_ n3_ n4_ n5_ n6_
         (try clear hb)
         (try clear hb2)
         (try clear hk)
         (try clear hi)
         refine hK.out _ _ ⟨(blk_cell BK358.out 0).trans rfl, (blk_cell BK358.out 1).trans rfl, (blk_cell BK358.out 2).trans rfl⟩ (fun hHeld => ?_)
         clear hK K
         refine norm_ (a' := ?_) ?_ ?_
         rotate_left
         ·show Act.put _ (some 76) _ = _
          simp only [Act.put, List.setIfInBounds_toArray, List.set_cons_zero, List.set_cons_succ, i64_w, i32_w]
          rfl
         refine one_ (i := 4) (N := some 78) (bs 26 5) rfl rfl (one_of HT_.out (by kernel_rfl)) (by decide) (fun K hK => ?_)
         refine goes_ Try.func29 (by kernel_rfl) rfl #[.agg #[.int .i64 t353, .int .i64 t354, .int .i64 t355]] (by rfl) rfl rfl mt_ ?_
         with_reducible refine (spec_VecTop.calls t353 t354 t355 t387 _ A68.out).mono ?_
         rintro e w125 ⟨rfl, hb⟩
         refine ⟨_, rfl, ?_⟩
         have n0_ := Aside0.mk (blk_below (g := gb357) (o := .cells #[.int .i64 t364, .int .i64 t365, .int .i64 t366] 35 (0, 0)) (bk_ BK357) hb)
         have n1_ := Aside0.mk (blk_below (g := gb358) (o := .cells #[.int .i64 t353, .int .i64 t354, .int .i64 t355] 35 (0, 0)) (bk_ BK358) hb)
         have n2_ := Aside0.mk (blk_below (g := gb363) (o := .cells #[.int .i64 t359, .int .i64 t360, .int .i64 t361] 35 (0, 0)) (bk_ BK363) hb)
         have n3_ := Aside0.mk (blk_below (g := gb371) (o := .cells #[.int .i64 t367, .int .i64 t368, .int .i64 t369] 35 (0, 0)) (bk_ BK371) hb)
         have n4_ := Aside0.mk (blk_below (g := gb376) (o := .cells #[.int .i64 t372, .int .i64 t373, .int .i64 t374] 35 (0, 0)) (bk_ BK376) hb)
         have n5_ := Aside0.mk (blk_below (g := gb381) (o := .cells #[.int .i64 t378, .int .i64 t379, .int .i64 t380] 35 (0, 0)) (bk_ BK381) hb)
         have n6_ := Aside0.mk (below_step (by repeat (first | (with_reducible first | exact HB.out | apply below_alloc | apply pw_below_drewN | apply below_drew1 | refine below_set ?_ GE357.out | refine below_set ?_ GE358.out | refine below_set ?_ GE363.out | refine below_set ?_ GE371.out | refine below_set ?_ GE376.out | refine below_set ?_ GE381.out) | exact HB.out)) hb)
         clear BK357
         clear BK358
         clear BK363
         clear BK371
         clear BK376
         clear BK381
         clear HB
         have BK357 := n0_
         have BK358 := n1_
         have BK363 := n2_
         have BK371 := n3_
         have BK376 := n4_
         have BK381 := n5_
         have HB := n6_
         clear n0_ n1_ n2_ n3_ n4_ n5_ n6_
         (try clear hb)
         (try clear hb2)
         (try clear hk)
         (try clear hi)
         refine hK.out _ _ ⟨(blk_cell BK358.out 0).trans rfl, (blk_cell BK358.out 1).trans rfl, (blk_cell BK358.out 2).trans rfl⟩ (fun hHeld => ?_)
         clear hK K
         refine norm_ (a' := ?_) ?_ ?_
         rotate_left
         ·show Act.put _ (some 78) _ = _
          simp only [Act.put, List.setIfInBounds_toArray, List.set_cons_zero, List.set_cons_succ, i64_w, i32_w]
          rfl
         refine pure_s (i := 5) (N := some 79) (bs 26 6) (any_of HT_.out (by kernel_rfl)) (h := ?_)
         refine pure_s (i := 6) (N := some 80) (bs 26 7) (any_of HT_.out (by kernel_rfl)) (h := ?_)
         refine pure_u (i := 7) (N := some 81) (bs 26 8) (any_of HT_.out (by kernel_rfl)) (h := ?_)
         refine pure_u (i := 8) (N := some 82) (bs 26 9) (any_of HT_.out (by kernel_rfl)) (h := ?_)
         refine pure_u (i := 9) (N := some 83) (bs 26 10) (any_of HT_.out (by kernel_rfl)) (h := ?_)
         refine pure_u (i := 10) (N := some 84) (bs 26 11) (any_of HT_.out (by kernel_rfl)) (h := ?_)
         refine pure_u (i := 11) (N := some 85) (bs 26 12) (any_of HT_.out (by kernel_rfl)) (h := ?_)
         refine pure_u (i := 12) (N := some 86) (bs 26 13) (any_of HT_.out (by kernel_rfl)) (h := ?_)
         refine pure_u (i := 13) (N := some 87) (bs 26 14) (any_of HT_.out (by kernel_rfl)) (h := ?_)
         refine pure_u (i := 14) (N := some 88) (bs 26 15) (any_of HT_.out (by kernel_rfl)) (h := ?_)
         refine pure_u (i := 15) (N := some 89) (bs 26 16) (any_of HT_.out (by kernel_rfl)) (h := ?_)
         refine pure_u (i := 16) (N := some 90) (bs 26 17) (any_of HT_.out (by kernel_rfl)) (h := ?_)
         refine pure_u (i := 17) (N := some 91) (bs 26 18) (any_of HT_.out (by kernel_rfl)) (h := ?_)
         refine pure_u (i := 18) (N := some 92) (bs 26 19) (any_of HT_.out (by kernel_rfl)) (h := ?_)
         refine pure_u (i := 19) (N := some 93) (bs 26 20) (any_of HT_.out (by kernel_rfl)) (h := ?_)
         refine pure_u (i := 20) (N := some 94) (bs 26 21) (any_of HT_.out (by kernel_rfl)) (h := ?_)
         refine pure_u (i := 21) (N := some 95) (bs 26 22) (any_of HT_.out (by kernel_rfl)) (h := ?_)
         refine pure_u (i := 22) (N := some 96) (bs 26 23) (any_of HT_.out (by kernel_rfl)) (h := ?_)
         refine pure_u (i := 23) (N := some 97) (bs 26 24) (any_of HT_.out (by kernel_rfl)) (h := ?_)
         refine pure_u (i := 24) (N := some 98) (bs 26 25) (any_of HT_.out (by kernel_rfl)) (h := ?_)
         refine pure_s (i := 25) (N := some 99) (bs 26 26) (any_of HT_.out (by kernel_rfl)) (h := ?_)
         refine done_ (done_of HT_.out (by kernel_rfl)) ?_
         try go_wp2
         go_roundg k2
         case measure => have := HJ8.out; have := HK2.out; omega
         case rel => exact ⟨(wrap64 (x13_2 + 1)), (by first | rfl | (simp; done) | (simp [*]; done)), H', ⟨by have := HJ8.out; have := HK2.out; omega⟩, ⟨bk_ BK357⟩, ⟨bk_ BK358⟩, ⟨bk_ BK363⟩, ⟨bk_ BK371⟩, ⟨bk_ BK376⟩, ⟨bk_ BK381⟩, ⟨by repeat (first | (with_reducible first | exact HB.out | apply below_alloc | apply pw_below_drewN | apply below_drew1 | refine below_set ?_ GE357.out | refine below_set ?_ GE358.out | refine below_set ?_ GE363.out | refine below_set ?_ GE371.out | refine below_set ?_ GE376.out | refine below_set ?_ GE381.out) | exact HB.out)⟩⟩
       ·rw [if_neg c64] at H
        have c64b0 : decide (x13_2 < 3) = false := decide_eq_false c64
        clear c64
        replace H := Option.bind_eq_some_iff.mp H
        obtain ⟨t382, A1260, H⟩ := H
        replace H : ((spec_VecTop.f t364 t365 t366).bind fun t383 => (some (decide (t382 > t383)))) = some r := H
        have A126 := Aside0.mk A1260
        clear A1260
        replace H := Option.bind_eq_some_iff.mp H
        obtain ⟨t383, A1270, H⟩ := H
        replace H : (some (decide (t382 > t383))) = some r := H
        have A127 := Aside0.mk A1270
        clear A1270
        obtain rfl := Option.some.inj H
        try go_wp2
        have n0_ := Aside0.mk (blk_drew BK357.out)
        have n1_ := Aside0.mk (blk_drew BK358.out)
        have n2_ := Aside0.mk (blk_drew BK363.out)
        have n3_ := Aside0.mk (blk_drew BK371.out)
        have n4_ := Aside0.mk (blk_drew BK376.out)
        have n5_ := Aside0.mk (blk_drew BK381.out)
        have n6_ := Aside0.mk (below_drew1 HB.out)
        clear BK357
        clear BK358
        clear BK363
        clear BK371
        clear BK376
        clear BK381
        clear HB
        have BK357 := n0_
        have BK358 := n1_
        have BK363 := n2_
        have BK371 := n3_
        have BK376 := n4_
        have BK381 := n5_
        have HB := n6_
        clear n0_ n1_ n2_ n3_ n4_ n5_ n6_
        refine start_ (n := 6) (S := fun w' => w'.cell? ⟨gb381, 0, none⟩ = some (.int .i64 t378) ∧ w'.cell? ⟨gb381, 1, none⟩ = some (.int .i64 t379) ∧ w'.cell? ⟨gb381, 2, none⟩ = some (.int .i64 t380) ∧ w'.cell? ⟨gb357, 0, none⟩ = some (.int .i64 t364) ∧ w'.cell? ⟨gb357, 1, none⟩ = some (.int .i64 t365) ∧ w'.cell? ⟨gb357, 2, none⟩ = some (.int .i64 t366)) (ds := []) (bs 6 0) (by kernel_rfl) rfl rfl ⟨(blk_cell BK381.out 0).trans rfl, (blk_cell BK381.out 1).trans rfl, (blk_cell BK381.out 2).trans rfl, (blk_cell BK357.out 0).trans rfl, (blk_cell BK357.out 1).trans rfl, (blk_cell BK357.out 2).trans rfl⟩ (fun hHeld => ?_)
        generalize wr.drew = w128 at BK357 BK358 BK363 BK371 BK376 BK381 HB hHeld ⊢
        refine take_ (i := 0) (N := some 100) (v := ?_) (a' := ?_) (bs 6 1) rfl rfl (by kernel_rfl) (fun _ _ _ h => h) (Or.inl ⟨by rfl, ?_⟩) hHeld ?_ ?_
        rotate_left
        ·rintro w' ⟨s0, s1, s2, s3, s4, s5⟩
         go_simp
         with_reducible rfl
        rotate_left
        ·simp only [Act.put, List.setIfInBounds_toArray, List.set_cons_zero, List.set_cons_succ, i64_w, i32_w]
         rfl
        refine take_ (i := 2) (N := some 102) (v := ?_) (a' := ?_) #[oT,oF,oT,oF,oF,oF] rfl rfl (by kernel_rfl) (fun _ _ _ h => h) (Or.inl ⟨by rfl, ?_⟩) hHeld ?_ ?_
        rotate_left
        ·rintro w' ⟨s0, s1, s2, s3, s4, s5⟩
         go_simp
         with_reducible rfl
        rotate_left
        ·simp only [Act.put, List.setIfInBounds_toArray, List.set_cons_zero, List.set_cons_succ, i64_w, i32_w]
         rfl
        refine one_ (i := 1) (N := some 101) (bs 6 3) rfl rfl (by kernel_rfl) (by decide) (fun K hK => ?_)
        refine goes_ Try.func29 (by kernel_rfl) rfl #[.agg #[.int .i64 t378, .int .i64 t379, .int .i64 t380]] (by rfl) rfl rfl mt_ ?_
        with_reducible refine (spec_VecTop.calls t378 t379 t380 t382 _ A126.out).mono ?_
        rintro e w129 ⟨rfl, hb⟩
        refine ⟨_, rfl, ?_⟩
        have n0_ := Aside0.mk (blk_below (g := gb357) (o := .cells #[.int .i64 t364, .int .i64 t365, .int .i64 t366] 35 (0, 0)) (bk_ BK357) hb)
        have n1_ := Aside0.mk (blk_below (g := gb358) (o := .cells #[.int .i64 t353, .int .i64 t354, .int .i64 t355] 35 (0, 0)) (bk_ BK358) hb)
        have n2_ := Aside0.mk (blk_below (g := gb363) (o := .cells #[.int .i64 t359, .int .i64 t360, .int .i64 t361] 35 (0, 0)) (bk_ BK363) hb)
        have n3_ := Aside0.mk (blk_below (g := gb371) (o := .cells #[.int .i64 t367, .int .i64 t368, .int .i64 t369] 35 (0, 0)) (bk_ BK371) hb)
        have n4_ := Aside0.mk (blk_below (g := gb376) (o := .cells #[.int .i64 t372, .int .i64 t373, .int .i64 t374] 35 (0, 0)) (bk_ BK376) hb)
        have n5_ := Aside0.mk (blk_below (g := gb381) (o := .cells #[.int .i64 t378, .int .i64 t379, .int .i64 t380] 35 (0, 0)) (bk_ BK381) hb)
        have n6_ := Aside0.mk (below_step (by repeat (first | (with_reducible first | exact HB.out | apply below_alloc | apply pw_below_drewN | apply below_drew1 | refine below_set ?_ GE357.out | refine below_set ?_ GE358.out | refine below_set ?_ GE363.out | refine below_set ?_ GE371.out | refine below_set ?_ GE376.out | refine below_set ?_ GE381.out) | exact HB.out)) hb)
        clear BK357
        clear BK358
        clear BK363
        clear BK371
        clear BK376
        clear BK381
        clear HB
        have BK357 := n0_
        have BK358 := n1_
        have BK363 := n2_
        have BK371 := n3_
        have BK376 := n4_
        have BK381 := n5_
        have HB := n6_
        clear n0_ n1_ n2_ n3_ n4_ n5_ n6_
        (try clear hb)
        (try clear hb2)
        (try clear hk)
        (try clear hi)
        refine hK.out _ _ ⟨(blk_cell BK381.out 0).trans rfl, (blk_cell BK381.out 1).trans rfl, (blk_cell BK381.out 2).trans rfl, (blk_cell BK357.out 0).trans rfl, (blk_cell BK357.out 1).trans rfl, (blk_cell BK357.out 2).trans rfl⟩ (fun hHeld => ?_)
        clear hK K
        refine norm_ (a' := ?_) ?_ ?_
        rotate_left
        ·show Act.put _ (some 101) _ = _
         simp only [Act.put, List.setIfInBounds_toArray, List.set_cons_zero, List.set_cons_succ, i64_w, i32_w]
         rfl
        refine one_ (i := 3) (N := some 103) (bs 6 4) rfl rfl (by kernel_rfl) (by decide) (fun K hK => ?_)
        refine goes_ Try.func29 (by kernel_rfl) rfl #[.agg #[.int .i64 t364, .int .i64 t365, .int .i64 t366]] (by rfl) rfl rfl mt_ ?_
        with_reducible refine (spec_VecTop.calls t364 t365 t366 t383 _ A127.out).mono ?_
        rintro e w130 ⟨rfl, hb⟩
        refine ⟨_, rfl, ?_⟩
        have n0_ := Aside0.mk (blk_below (g := gb357) (o := .cells #[.int .i64 t364, .int .i64 t365, .int .i64 t366] 35 (0, 0)) (bk_ BK357) hb)
        have n1_ := Aside0.mk (blk_below (g := gb358) (o := .cells #[.int .i64 t353, .int .i64 t354, .int .i64 t355] 35 (0, 0)) (bk_ BK358) hb)
        have n2_ := Aside0.mk (blk_below (g := gb363) (o := .cells #[.int .i64 t359, .int .i64 t360, .int .i64 t361] 35 (0, 0)) (bk_ BK363) hb)
        have n3_ := Aside0.mk (blk_below (g := gb371) (o := .cells #[.int .i64 t367, .int .i64 t368, .int .i64 t369] 35 (0, 0)) (bk_ BK371) hb)
        have n4_ := Aside0.mk (blk_below (g := gb376) (o := .cells #[.int .i64 t372, .int .i64 t373, .int .i64 t374] 35 (0, 0)) (bk_ BK376) hb)
        have n5_ := Aside0.mk (blk_below (g := gb381) (o := .cells #[.int .i64 t378, .int .i64 t379, .int .i64 t380] 35 (0, 0)) (bk_ BK381) hb)
        have n6_ := Aside0.mk (below_step (by repeat (first | (with_reducible first | exact HB.out | apply below_alloc | apply pw_below_drewN | apply below_drew1 | refine below_set ?_ GE357.out | refine below_set ?_ GE358.out | refine below_set ?_ GE363.out | refine below_set ?_ GE371.out | refine below_set ?_ GE376.out | refine below_set ?_ GE381.out) | exact HB.out)) hb)
        clear BK357
        clear BK358
        clear BK363
        clear BK371
        clear BK376
        clear BK381
        clear HB
        have BK357 := n0_
        have BK358 := n1_
        have BK363 := n2_
        have BK371 := n3_
        have BK376 := n4_
        have BK381 := n5_
        have HB := n6_
        clear n0_ n1_ n2_ n3_ n4_ n5_ n6_
        (try clear hb)
        (try clear hb2)
        (try clear hk)
        (try clear hi)
        refine hK.out _ _ ⟨(blk_cell BK381.out 0).trans rfl, (blk_cell BK381.out 1).trans rfl, (blk_cell BK381.out 2).trans rfl, (blk_cell BK357.out 0).trans rfl, (blk_cell BK357.out 1).trans rfl, (blk_cell BK357.out 2).trans rfl⟩ (fun hHeld => ?_)
        clear hK K
        refine norm_ (a' := ?_) ?_ ?_
        rotate_left
        ·show Act.put _ (some 103) _ = _
         simp only [Act.put, List.setIfInBounds_toArray, List.set_cons_zero, List.set_cons_succ, i64_w, i32_w]
         rfl
        refine pure_s (i := 4) (N := some 104) (bs 6 5) (by kernel_rfl) (h := ?_)
        refine pure_s (i := 5) (N := some 2) (bs 6 6) (by kernel_rfl) (h := ?_)
        refine done_ (by kernel_rfl) ?_
        try go_wp2
        go_ret
        exact ⟨by first | rfl | (simp [errW_none, errW_some] <;> rfl) | (simp [*, errW_none, errW_some] <;> rfl), by repeat (first | (with_reducible first | exact HB.out | apply below_alloc | apply pw_below_drewN | apply below_drew1 | refine below_set ?_ GE357.out | refine below_set ?_ GE358.out | refine below_set ?_ GE363.out | refine below_set ?_ GE371.out | refine below_set ?_ GE376.out | refine below_set ?_ GE381.out) | exact HB.out)⟩

/-- THE ONE PURE STATEMENT of laws_FnMainMoves: yours. -/
def laws_FnMainMoves.Pure : Prop := ∀ (l0 : List Int), l0.length ≤ maxLen → l0.length * 1 ≤ 140737488351232 → (∀ x ∈ l0, (Lit.int .u8 x).wf = true) → ∃ k, laws_FnMainMoves.f k l0 = some true
theorem laws_FnMainMoves.walk (P : laws_FnMainMoves.Pure) (a0 : Option Addr) (len0 cap0 : Nat) (z0 : List Int) (w : World) (w0 : (a0 = none ∧ len0 = 0 ∧ cap0 = 0 ∧ z0 = []) ∨ ∃ x, a0 = some x ∧ len0 ≤ cap0 ∧ cap0 ≤ maxLen ∧ z0.length = cap0 ∧ (∀ i, i < z0.length → w.cell? (x.add i) = some (.int .u8 (z0.getD i 0))) ∧ ∀ n ∈ z0, (Lit.int .u8 n).wf = true) (y0 : len0 * 1 ≤ 140737488351232) :
  Calls Try.prog 13 #[.slice a0 len0 cap0] w fun e w' => e = .returned (.bool true) ∧ Below w.heap.size w w' := by
 obtain ⟨l0, rfl, hr0, hm0, hw0, hc0⟩ := ReadsInt.ofRowC w0
 obtain ⟨k, h⟩ := P l0 hm0 y0 hw0
 refine (laws_FnMainMoves.calls k _ _ l0 true w (Kd.C_of_reads (d := (0 : Int)) (h1 := fun _ => rfl) hr0) hc0 h).mono ?_
 rintro e w' ⟨rfl, hd⟩
 exact ⟨rfl, hd⟩

end Go.Proofs.Ytbijdkmchdkgfaa.PFnMainMoves
