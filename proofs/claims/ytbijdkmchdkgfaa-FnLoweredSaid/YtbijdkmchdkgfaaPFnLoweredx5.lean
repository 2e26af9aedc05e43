-- printed by a program of this session (wip/printx) out of the translation; Lean checks it
import Derived.Test.YtbijdkmchdkgfaaPFnLoweredx0
import Derived.Test.YtbijdkmchdkgfaaPFnLoweredx1
import Derived.Test.YtbijdkmchdkgfaaPFnLoweredx2
import Derived.Test.YtbijdkmchdkgfaaPFnLoweredx3
import Derived.Test.YtbijdkmchdkgfaaPFnLoweredx4
namespace Go.Proofs.Ytbijdkmchdkgfaa.PFnLowered
open Go.RowKit Go.Proofs.YtbijdkmchdkgfaaW.PrintWords Go.Proofs.YtbijdkmchdkgfaaW.PrintLast Go.Proofs.YtbijdkmchdkgfaaW.PrintMore
attribute [local go_sem] max2_int min2_int max_two min_two max_three min_three max_four min_four   -- for this text's walks alone
set_option linter.unusedVariables false
set_option linter.unusedSimpArgs false

/-! ### laws_FnLowered: function 8 -/
mutual
def laws_FnLowered.j0 : Nat → Int → Bool → Int → Int → Int → Int → Int → Int → Option (Bool)
  | 0, _, _, _, _, _, _, _, _ => none
  | k + 1, x4, x40, x277000, x277001, x277002, x295000, x295001, x295002 => if x40 = true then (some true) else ((impl_BaseOf.f x277000 x277001 x277002 x4).bind fun t297 => ((impl_Lower.f x277000 x277001 x277002 t297).bind fun bt298 => ((impl_Lower.f x295000 x295001 x295002 t297).bind fun bt302 => (laws_FnLowered.l0 k x4 t297 0 x277000 x277001 x277002 x295000 x295001 x295002 bt298.1 bt298.2.1 bt298.2.2 bt302.1 bt302.2.1 bt302.2.2))))
def laws_FnLowered.l0 : Nat → Int → Int → Int → Int → Int → Int → Int → Int → Int → Int → Int → Int → Int → Int → Int → Option (Bool)
  | 0, _, _, _, _, _, _, _, _, _, _, _, _, _, _, _ => none
  | k + 1, x4, x8, x11, x277000, x277001, x277002, x295000, x295001, x295002, x302000, x302001, x302002, x306000, x306001, x306002 => if x11 < 3 then ((laws_vec.f x306000 x306001 x306002 x11).bind fun t308 => ((laws_vec.f x302000 x302001 x302002 x11).bind fun t309 => ((laws_vec.f x295000 x295001 x295002 x11).bind fun t310 => ((laws_vec.f x277000 x277001 x277002 x11).bind fun t311 => (if (wrap64 (t308 - t309)) = (wrap64 (t310 - t311)) then ((laws_vec.f x302000 x302001 x302002 x11).bind fun t312 => ((laws_vec.f x277000 x277001 x277002 x11).bind fun t313 => (if t312 = (wrap64 (t313 - x8)) then (laws_FnLowered.l0 k x4 x8 (wrap64 (x11 + 1)) x277000 x277001 x277002 x295000 x295001 x295002 x302000 x302001 x302002 x306000 x306001 x306002) else (some false)))) else (some false)))))) else ((spec_BaseOf.f x277000 x277001 x277002 x4).bind fun t306 => (if x8 = t306 then ((spec_VecTop.f x302000 x302001 x302002).bind fun t307 => (some (decide (t307 ≤ x4)))) else (some false)))
end
def laws_FnLowered.f (k : Nat) (l0 : List Int) : Option (Bool) := (laws_big.f l0).bind fun t271 => (if t271 = true then (some true) else ((spec_DrawBaseOf.f l0).bind fun bt272 => ((spec_DrawVecMost.f l0).bind fun bt277 => ((spec_Dovetail.f k bt272.1 bt272.2.1 bt272.2.2.1 bt272.2.2.2).bind fun bt285 => ((spec_Dovetail.f k bt277.1 bt277.2.1 bt277.2.2.1 bt272.2.2.2).bind fun bt288 => ((spec_VecMost.f bt285.1 bt285.2.1 bt285.2.2 bt288.1 bt288.2.1 bt288.2.2).bind fun bt291 => ((spec_Narrow.f bt285.1 bt285.2.1 bt285.2.2 bt272.2.2.2).bind fun t295 => (if t295 = true then ((spec_TagOk.f bt291.1 bt291.2.1 bt291.2.2).bind fun t296 => (laws_FnLowered.j0 k bt272.2.2.2 (!t296) bt285.1 bt285.2.1 bt285.2.2 bt291.1 bt291.2.1 bt291.2.2)) else (laws_FnLowered.j0 k bt272.2.2.2 true bt285.1 bt285.2.1 bt285.2.2 bt291.1 bt291.2.1 bt291.2.2)))))))))
theorem laws_FnLowered.mono_l : ∀ k, (∀ y0 y1 y2 y3 y4 y5 y6 y7, LeO (laws_FnLowered.j0 k y0 y1 y2 y3 y4 y5 y6 y7) (laws_FnLowered.j0 (k + 1) y0 y1 y2 y3 y4 y5 y6 y7)) ∧ (∀ y0 y1 y2 y3 y4 y5 y6 y7 y8 y9 y10 y11 y12 y13 y14, LeO (laws_FnLowered.l0 k y0 y1 y2 y3 y4 y5 y6 y7 y8 y9 y10 y11 y12 y13 y14) (laws_FnLowered.l0 (k + 1) y0 y1 y2 y3 y4 y5 y6 y7 y8 y9 y10 y11 y12 y13 y14))
 | 0 => ⟨fun _ _ _ _ _ _ _ _ r h => by simp [laws_FnLowered.j0] at h, fun _ _ _ _ _ _ _ _ _ _ _ _ _ _ _ r h => by simp [laws_FnLowered.l0] at h⟩
 | k + 1 => by
  obtain ⟨ih0, ih1⟩ := laws_FnLowered.mono_l k
  refine ⟨?_, ?_⟩
  ·intro y0 y1 y2 y3 y4 y5 y6 y7
   unfold laws_FnLowered.j0
   repeat' first
   | (with_reducible exact ih0 _ _ _ _ _ _ _ _)
   | (with_reducible exact ih1 _ _ _ _ _ _ _ _ _ _ _ _ _ _ _)
   | (with_reducible exact spec_Dovetail.mono _ _ _ _ _)
   | (with_reducible exact LeO.refl _)
   | (with_reducible exact LeO.none _)
   | (with_reducible refine LeO.ite ?_ ?_)
   | (with_reducible refine LeO.bind ?_ (fun _ => ?_))
   | exact ih0 _ _ _ _ _ _ _ _
   | exact ih1 _ _ _ _ _ _ _ _ _ _ _ _ _ _ _
   | exact spec_Dovetail.mono _ _ _ _ _
   | exact LeO.none _
   | refine LeO.ite ?_ ?_
   | refine LeO.bind ?_ (fun _ => ?_)
  ·intro y0 y1 y2 y3 y4 y5 y6 y7 y8 y9 y10 y11 y12 y13 y14
   unfold laws_FnLowered.l0
   repeat' first
   | (with_reducible exact ih0 _ _ _ _ _ _ _ _)
   | (with_reducible exact ih1 _ _ _ _ _ _ _ _ _ _ _ _ _ _ _)
   | (with_reducible exact spec_Dovetail.mono _ _ _ _ _)
   | (with_reducible exact LeO.refl _)
   | (with_reducible exact LeO.none _)
   | (with_reducible refine LeO.ite ?_ ?_)
   | (with_reducible refine LeO.bind ?_ (fun _ => ?_))
   | exact ih0 _ _ _ _ _ _ _ _
   | exact ih1 _ _ _ _ _ _ _ _ _ _ _ _ _ _ _
   | exact spec_Dovetail.mono _ _ _ _ _
   | exact LeO.none _
   | refine LeO.ite ?_ ?_
   | refine LeO.bind ?_ (fun _ => ?_)
theorem laws_FnLowered.mono : ∀ a0 k, LeO (laws_FnLowered.f k a0) (laws_FnLowered.f (k + 1) a0) := by
 intro a0 k
 obtain ⟨ih0, ih1⟩ := laws_FnLowered.mono_l k
 unfold laws_FnLowered.f
 repeat' first
   | (with_reducible exact ih0 _ _ _ _ _ _ _ _)
   | (with_reducible exact ih1 _ _ _ _ _ _ _ _ _ _ _ _ _ _ _)
   | (with_reducible exact spec_Dovetail.mono _ _ _ _ _)
   | (with_reducible exact LeO.refl _)
   | (with_reducible exact LeO.none _)
   | (with_reducible refine LeO.ite ?_ ?_)
   | (with_reducible refine LeO.bind ?_ (fun _ => ?_))
   | exact ih0 _ _ _ _ _ _ _ _
   | exact ih1 _ _ _ _ _ _ _ _ _ _ _ _ _ _ _
   | exact spec_Dovetail.mono _ _ _ _ _
   | exact LeO.none _
   | refine LeO.ite ?_ ?_
   | refine LeO.bind ?_ (fun _ => ?_)
def laws_FnLowered.T15 : Bool × List (List Nat × List Nat) := (true, [([], []), ([], []), ([0, 1], [0, 1]), ([], []), ([], []), ([3, 4, 2], [3, 4]), ([2, 5], [2, 5]), ([], []), ([], []), ([7, 8, 5], [7, 8]), ([], []), ([], []), ([10, 11, 9], [10, 11]), ([9, 12], [9, 12]), ([6, 13], [6, 13]), ([14, 12], [14]), ([15], [15]), ([15], [15]), ([16, 17, 15, 15], [15, 16, 17]), ([15], [15]), ([15], [15]), ([19, 20, 18, 15], [15, 19, 20]), ([15], [15]), ([21, 22, 15], [15, 21, 22]), ([18, 23, 15], [15, 18, 23]), ([15, 24], [15, 24])])
def laws_FnLowered.B15 : List Nat := [0, 0, 3, 0, 0, 31, 63, 0, 0, 447, 0, 0, 4031, 8127, 16383, 32767, 65535, 65535, 262143, 65535, 65535, 2097151, 65535, 8388607, 16777215, 33554431]
theorem laws_FnLowered.tab15 : rtab .any (opsOf Try.f8 15) = laws_FnLowered.T15 := by kernel_rfl
theorem laws_FnLowered.bits15 : waitsOk laws_FnLowered.T15.2 laws_FnLowered.B15 = true := by kernel_rfl
set_option maxHeartbeats 8000000 in
set_option maxRecDepth 100000 in
theorem laws_FnLowered.calls (k : Nat) (A0 : Option Addr) (c0 : Nat) (l0 : List Int) (r : Bool) (w : World) (hr0 : Kd.C (Kd.int .u8) w A0 l0.length l0) (hc0 : l0.length ≤ c0) (h : laws_FnLowered.f k l0 = some r) :
  Calls Try.prog 8 #[.slice A0 l0.length c0] w fun e w' => e = .returned (.bool r) ∧ Below w.heap.size w w' := by
 have hu35 := Try.underlying35
 have HR0 := Aside0.mk hr0
 have HC0 := Aside0.mk hc0
 clear hr0 hc0
 have HB := Aside0.mk (Below.refl w.heap.size w)
 have H : ((laws_big.f l0).bind fun t271 => (if t271 = true then (some true) else ((spec_DrawBaseOf.f l0).bind fun bt272 => ((spec_DrawVecMost.f l0).bind fun bt277 => ((spec_Dovetail.f k bt272.1 bt272.2.1 bt272.2.2.1 bt272.2.2.2).bind fun bt285 => ((spec_Dovetail.f k bt277.1 bt277.2.1 bt277.2.2.1 bt272.2.2.2).bind fun bt288 => ((spec_VecMost.f bt285.1 bt285.2.1 bt285.2.2 bt288.1 bt288.2.1 bt288.2.2).bind fun bt291 => ((spec_Narrow.f bt285.1 bt285.2.1 bt285.2.2 bt272.2.2.2).bind fun t295 => (if t295 = true then ((spec_TagOk.f bt291.1 bt291.2.1 bt291.2.2).bind fun t296 => (laws_FnLowered.j0 k bt272.2.2.2 (!t296) bt285.1 bt285.2.1 bt285.2.2 bt291.1 bt291.2.1 bt291.2.2)) else (laws_FnLowered.j0 k bt272.2.2.2 true bt285.1 bt285.2.1 bt285.2.2 bt291.1 bt291.2.1 bt291.2.2)))))))))) = some r := h
 clear h
 replace H := Option.bind_eq_some_iff.mp H
 obtain ⟨t271, A20, H⟩ := H
 replace H : (if t271 = true then (some true) else ((spec_DrawBaseOf.f l0).bind fun bt272 => ((spec_DrawVecMost.f l0).bind fun bt277 => ((spec_Dovetail.f k bt272.1 bt272.2.1 bt272.2.2.1 bt272.2.2.2).bind fun bt285 => ((spec_Dovetail.f k bt277.1 bt277.2.1 bt277.2.2.1 bt272.2.2.2).bind fun bt288 => ((spec_VecMost.f bt285.1 bt285.2.1 bt285.2.2 bt288.1 bt288.2.1 bt288.2.2).bind fun bt291 => ((spec_Narrow.f bt285.1 bt285.2.1 bt285.2.2 bt272.2.2.2).bind fun t295 => (if t295 = true then ((spec_TagOk.f bt291.1 bt291.2.1 bt291.2.2).bind fun t296 => (laws_FnLowered.j0 k bt272.2.2.2 (!t296) bt285.1 bt285.2.1 bt285.2.2 bt291.1 bt291.2.1 bt291.2.2)) else (laws_FnLowered.j0 k bt272.2.2.2 true bt285.1 bt285.2.1 bt285.2.2 bt291.1 bt291.2.1 bt291.2.2))))))))) = some r := H
 have A2 := Aside0.mk A20
 clear A20
 by_cases c3 : t271 = true
 ·subst c3
  have H1 : (some true) = some r := by rw [if_pos rfl] at H; exact H
  clear H
  have H := H1
  clear H1
  obtain rfl := Option.some.inj H
  go_enter Try.func8, Try.ntmps8
  go_wp2_with (first | ((with_reducible refine gate_callee (f := 18) rfl ?_); refine goesL_ (some 13) rfl rfl Try.func18 (by kernel_rfl) rfl #[.slice A0 l0.length c0] rfl mt_ ?_; (with_reducible refine (laws_big.calls _ _ l0 true _ ?side1 ?side2 A2.out).mono ?_); (case side1 => repeat (first | exact HR0.out | (with_reducible refine Kd.C_alloc ?_ _) | (with_reducible refine Kd.C_drewN ?_ _) | (with_reducible refine Kd.C_drew ?_))); (case side2 => exact HC0.out); rintro e w' ⟨rfl, ⟨nd, rfl⟩⟩; refine ⟨_, rfl, ?_⟩))
  go_ret
  exact ⟨by first | rfl | (simp [errW_none, errW_some] <;> rfl) | (simp [*, errW_none, errW_some] <;> rfl), be_ HB⟩
 ·replace c3 := Bool.eq_false_iff.mpr c3
  subst c3
  have H1 : ((spec_DrawBaseOf.f l0).bind fun bt272 => ((spec_DrawVecMost.f l0).bind fun bt277 => ((spec_Dovetail.f k bt272.1 bt272.2.1 bt272.2.2.1 bt272.2.2.2).bind fun bt285 => ((spec_Dovetail.f k bt277.1 bt277.2.1 bt277.2.2.1 bt272.2.2.2).bind fun bt288 => ((spec_VecMost.f bt285.1 bt285.2.1 bt285.2.2 bt288.1 bt288.2.1 bt288.2.2).bind fun bt291 => ((spec_Narrow.f bt285.1 bt285.2.1 bt285.2.2 bt272.2.2.2).bind fun t295 => (if t295 = true then ((spec_TagOk.f bt291.1 bt291.2.1 bt291.2.2).bind fun t296 => (laws_FnLowered.j0 k bt272.2.2.2 (!t296) bt285.1 bt285.2.1 bt285.2.2 bt291.1 bt291.2.1 bt291.2.2)) else (laws_FnLowered.j0 k bt272.2.2.2 true bt285.1 bt285.2.1 bt285.2.2 bt291.1 bt291.2.1 bt291.2.2)))))))) = some r := by rw [if_neg (show ¬ (false = true) by decide)] at H; exact H
  clear H
  have H := H1
  clear H1
  replace H := Option.bind_eq_some_iff.mp H
  obtain ⟨⟨t272, t273, t274, t275⟩, A40, H⟩ := H
  replace H : ((spec_DrawVecMost.f l0).bind fun bt277 => ((spec_Dovetail.f k t272 t273 t274 t275).bind fun bt285 => ((spec_Dovetail.f k bt277.1 bt277.2.1 bt277.2.2.1 t275).bind fun bt288 => ((spec_VecMost.f bt285.1 bt285.2.1 bt285.2.2 bt288.1 bt288.2.1 bt288.2.2).bind fun bt291 => ((spec_Narrow.f bt285.1 bt285.2.1 bt285.2.2 t275).bind fun t295 => (if t295 = true then ((spec_TagOk.f bt291.1 bt291.2.1 bt291.2.2).bind fun t296 => (laws_FnLowered.j0 k t275 (!t296) bt285.1 bt285.2.1 bt285.2.2 bt291.1 bt291.2.1 bt291.2.2)) else (laws_FnLowered.j0 k t275 true bt285.1 bt285.2.1 bt285.2.2 bt291.1 bt291.2.1 bt291.2.2))))))) = some r := H
  have A4 := Aside0.mk A40
  clear A40
  replace H := Option.bind_eq_some_iff.mp H
  obtain ⟨⟨t277, t278, t279, t280, t281, t282⟩, A50, H⟩ := H
  replace H : ((spec_Dovetail.f k t272 t273 t274 t275).bind fun bt285 => ((spec_Dovetail.f k t277 t278 t279 t275).bind fun bt288 => ((spec_VecMost.f bt285.1 bt285.2.1 bt285.2.2 bt288.1 bt288.2.1 bt288.2.2).bind fun bt291 => ((spec_Narrow.f bt285.1 bt285.2.1 bt285.2.2 t275).bind fun t295 => (if t295 = true then ((spec_TagOk.f bt291.1 bt291.2.1 bt291.2.2).bind fun t296 => (laws_FnLowered.j0 k t275 (!t296) bt285.1 bt285.2.1 bt285.2.2 bt291.1 bt291.2.1 bt291.2.2)) else (laws_FnLowered.j0 k t275 true bt285.1 bt285.2.1 bt285.2.2 bt291.1 bt291.2.1 bt291.2.2)))))) = some r := H
  have A5 := Aside0.mk A50
  clear A50
  replace H := Option.bind_eq_some_iff.mp H
  obtain ⟨⟨t285, t286, t287⟩, A60, H⟩ := H
  replace H : ((spec_Dovetail.f k t277 t278 t279 t275).bind fun bt288 => ((spec_VecMost.f t285 t286 t287 bt288.1 bt288.2.1 bt288.2.2).bind fun bt291 => ((spec_Narrow.f t285 t286 t287 t275).bind fun t295 => (if t295 = true then ((spec_TagOk.f bt291.1 bt291.2.1 bt291.2.2).bind fun t296 => (laws_FnLowered.j0 k t275 (!t296) t285 t286 t287 bt291.1 bt291.2.1 bt291.2.2)) else (laws_FnLowered.j0 k t275 true t285 t286 t287 bt291.1 bt291.2.1 bt291.2.2))))) = some r := H
  have A6 := Aside0.mk A60
  clear A60
  replace H := Option.bind_eq_some_iff.mp H
  obtain ⟨⟨t288, t289, t290⟩, A70, H⟩ := H
  replace H : ((spec_VecMost.f t285 t286 t287 t288 t289 t290).bind fun bt291 => ((spec_Narrow.f t285 t286 t287 t275).bind fun t295 => (if t295 = true then ((spec_TagOk.f bt291.1 bt291.2.1 bt291.2.2).bind fun t296 => (laws_FnLowered.j0 k t275 (!t296) t285 t286 t287 bt291.1 bt291.2.1 bt291.2.2)) else (laws_FnLowered.j0 k t275 true t285 t286 t287 bt291.1 bt291.2.1 bt291.2.2)))) = some r := H
  have A7 := Aside0.mk A70
  clear A70
  replace H := Option.bind_eq_some_iff.mp H
  obtain ⟨⟨t291, t292, t293⟩, A80, H⟩ := H
  replace H : ((spec_Narrow.f t285 t286 t287 t275).bind fun t295 => (if t295 = true then ((spec_TagOk.f t291 t292 t293).bind fun t296 => (laws_FnLowered.j0 k t275 (!t296) t285 t286 t287 t291 t292 t293)) else (laws_FnLowered.j0 k t275 true t285 t286 t287 t291 t292 t293))) = some r := H
  have A8 := Aside0.mk A80
  clear A80
  have HC9 := Aside0.mk H
  clear H
  go_enter Try.func8, Try.ntmps8
  try go_wp2_with (first | ((with_reducible refine gate_callee (f := 18) rfl ?_); refine goesL_ (some 13) rfl rfl Try.func18 (by kernel_rfl) rfl #[.slice A0 l0.length c0] rfl mt_ ?_; (with_reducible refine (laws_big.calls _ _ l0 false _ ?side1 ?side2 A2.out).mono ?_); (case side1 => repeat (first | exact HR0.out | (with_reducible refine Kd.C_alloc ?_ _) | (with_reducible refine Kd.C_drewN ?_ _) | (with_reducible refine Kd.C_drew ?_))); (case side2 => exact HC0.out); rintro e w' ⟨rfl, ⟨nd, rfl⟩⟩; refine ⟨_, rfl, ?_⟩) | ((with_reducible refine gate_callee (f := 42) rfl ?_); refine goesL_ (some 16) rfl rfl Try.func42 (by kernel_rfl) rfl #[.slice A0 l0.length c0] rfl mt_ ?_; (with_reducible refine (spec_DrawBaseOf.calls _ _ l0 t272 t273 t274 t275 _ ?side1 ?side2 A4.out).mono ?_); (case side1 => repeat (first | exact HR0.out | (with_reducible refine Kd.C_alloc ?_ _) | (with_reducible refine Kd.C_drewN ?_ _) | (with_reducible refine Kd.C_drew ?_))); (case side2 => exact HC0.out); rintro e w10 ⟨rfl, hb⟩; refine ⟨_, rfl, ?_⟩; have n0_ := Aside0.mk (below_step (be_ HB) hb); clear HB; have HB := n0_; clear n0_; (try clear hb); (try clear hb2); (try clear hk); (try clear hi)) | ((with_reducible refine gate_dst (N := 3) rfl ?_); refine box_event ?hg (N := 3) ?hd (cs := #[.int .i64 0, .int .i64 0, .int .i64 0]) (t := 35) ?hr ?_; (case hd => rfl); (case hg => rfl); (case hr => first | (go_simp; done) | (go_simp; rfl)); intro gb276 hg w11 hbox hb; have n0_ := Aside0.mk (below_step (be_ HB) hb); have n1_ := Aside0.mk (hbox); have n2_ := Aside0.mk ((by rw [hg]; exact (below_size (be_ HB)) : w.heap.size ≤ gb276)); have n3_ := Aside0.mk ((by rw [hg]; exact (below_size (be_ HB)) : w.heap.size ≤ gb276)); clear HB; have HB := n0_; have BK276 := n1_; have GW276 := n2_; have GE276 := n3_; clear n0_ n1_ n2_ n3_; clear hb hbox hg; have hcz12_0 : w11.cell? ⟨gb276, 0, none⟩ = some (.int .i64 0) := (blk_cell BK276.out 0).trans rfl; have hcz12_1 : w11.cell? ⟨gb276, 1, none⟩ = some (.int .i64 0) := (blk_cell BK276.out 1).trans rfl; have hcz12_2 : w11.cell? ⟨gb276, 2, none⟩ = some (.int .i64 0) := (blk_cell BK276.out 2).trans rfl; have hfz12_0 := blk_frozen BK276.out 0; have hfz12_1 := blk_frozen BK276.out 1; have hfz12_2 := blk_frozen BK276.out 2) | ((with_reducible refine gate_callee (f := 43) rfl ?_); refine goesL_ (some 21) rfl rfl Try.func43 (by kernel_rfl) rfl #[.slice A0 l0.length c0] rfl mt_ ?_; (with_reducible refine (spec_DrawVecMost.calls _ _ l0 t277 t278 t279 t280 t281 t282 _ ?side1 ?side2 A5.out).mono ?_); (case side1 => exact Kd.C_below HR0.out (by repeat (first | (with_reducible first | exact HB.out | apply below_alloc | apply pw_below_drewN | apply below_drew1 | refine below_set ?_ GE276.out) | exact HB.out))); (case side2 => exact HC0.out); rintro e w13 ⟨rfl, hb⟩; refine ⟨_, rfl, ?_⟩; have n0_ := Aside0.mk (blk_below (g := gb276) (o := .cells #[.int .i64 t272, .int .i64 t273, .int .i64 t274] 35 (0, 0)) (by (with_reducible repeat (first | refine blk_drewN ?_ _ | refine blk_drew ?_ | refine blk_alloc ?_ _)); refine blk_put (cs := #[.int .i64 t272, .int .i64 t273, .int .i64 0]) ?_ 2 _ rfl; (with_reducible repeat (first | refine blk_drewN ?_ _ | refine blk_drew ?_ | refine blk_alloc ?_ _)); refine blk_put (cs := #[.int .i64 t272, .int .i64 0, .int .i64 0]) ?_ 1 _ rfl; (with_reducible repeat (first | refine blk_drewN ?_ _ | refine blk_drew ?_ | refine blk_alloc ?_ _)); refine blk_put (cs := #[.int .i64 0, .int .i64 0, .int .i64 0]) ?_ 0 _ rfl; exact bk_ BK276) hb); have n1_ := Aside0.mk (below_step (by repeat (first | (with_reducible first | exact HB.out | apply below_alloc | apply pw_below_drewN | apply below_drew1 | refine below_set ?_ GE276.out) | exact HB.out)) hb); clear BK276; clear HB; have BK276 := n0_; have HB := n1_; clear n0_ n1_; (try clear hb); (try clear hb2); (try clear hk); (try clear hi)) | ((with_reducible refine gate_dst (N := 5) rfl ?_); refine box_event ?hg (N := 5) ?hd (cs := #[.int .i64 0, .int .i64 0, .int .i64 0]) (t := 35) ?hr ?_; (case hd => rfl); (case hg => rfl); (case hr => first | (go_simp; done) | (go_simp; rfl)); intro gb283 hg w14 hbox hb; have n0_ := Aside0.mk (blk_below (g := gb276) (o := .cells #[.int .i64 t272, .int .i64 t273, .int .i64 t274] 35 (0, 0)) (bk_ BK276) hb); have n1_ := Aside0.mk (below_step (by repeat (first | (with_reducible first | exact HB.out | apply below_alloc | apply pw_below_drewN | apply below_drew1 | refine below_set ?_ GE276.out) | exact HB.out)) hb); have n2_ := Aside0.mk (hbox); have n3_ := Aside0.mk ((by rw [hg]; exact (below_size (by repeat (first | (with_reducible first | exact HB.out | apply below_alloc | apply pw_below_drewN | apply below_drew1 | refine below_set ?_ GE276.out) | exact HB.out))) : w.heap.size ≤ gb283)); have n4_ := Aside0.mk ((by rw [hg]; exact (below_size (by repeat (first | (with_reducible first | exact HB.out | apply below_alloc | apply pw_below_drewN | apply below_drew1 | refine below_set ?_ GE276.out) | exact HB.out))) : w.heap.size ≤ gb283)); have n5_ := Aside0.mk ((by rw [hg]; exact Nat.ne_of_lt (blk_lt (g := gb276) (o := .cells #[.int .i64 t272, .int .i64 t273, .int .i64 t274] 35 (0, 0)) (bk_ BK276)) : gb276 ≠ gb283)); have n6_ := Aside0.mk ((by rw [hg]; exact Nat.ne_of_gt (blk_lt (g := gb276) (o := .cells #[.int .i64 t272, .int .i64 t273, .int .i64 t274] 35 (0, 0)) (bk_ BK276)) : gb283 ≠ gb276)); clear BK276; clear HB; have BK276 := n0_; have HB := n1_; have BK283 := n2_; have GW283 := n3_; have GE283 := n4_; have NB276_283 := n5_; have NB283_276 := n6_; clear n0_ n1_ n2_ n3_ n4_ n5_ n6_; clear hb hbox hg) | ((with_reducible refine gate_dst (N := 6) rfl ?_); refine box_event ?hg (N := 6) ?hd (cs := #[.int .i64 0, .int .i64 0, .int .i64 0]) (t := 35) ?hr ?_; (case hd => rfl); (case hg => rfl); (case hr => first | (go_simp; done) | (go_simp; rfl)); intro gb284 hg w15 hbox hb; have n0_ := Aside0.mk (blk_below (g := gb276) (o := .cells #[.int .i64 t272, .int .i64 t273, .int .i64 t274] 35 (0, 0)) (bk_ BK276) hb); have n1_ := Aside0.mk (blk_below (g := gb283) (o := .cells #[.int .i64 0, .int .i64 0, .int .i64 0] 35 (0, 0)) (bk_ BK283) hb); have n2_ := Aside0.mk (below_step (by repeat (first | (with_reducible first | exact HB.out | apply below_alloc | apply pw_below_drewN | apply below_drew1 | refine below_set ?_ GE276.out | refine below_set ?_ GE283.out) | exact HB.out)) hb); have n3_ := Aside0.mk (hbox); have n4_ := Aside0.mk ((by rw [hg]; exact (below_size (by repeat (first | (with_reducible first | exact HB.out | apply below_alloc | apply pw_below_drewN | apply below_drew1 | refine below_set ?_ GE276.out | refine below_set ?_ GE283.out) | exact HB.out))) : w.heap.size ≤ gb284)); have n5_ := Aside0.mk ((by rw [hg]; exact (below_size (by repeat (first | (with_reducible first | exact HB.out | apply below_alloc | apply pw_below_drewN | apply below_drew1 | refine below_set ?_ GE276.out | refine below_set ?_ GE283.out) | exact HB.out))) : w.heap.size ≤ gb284)); have n6_ := Aside0.mk ((by rw [hg]; exact Nat.ne_of_lt (blk_lt (g := gb276) (o := .cells #[.int .i64 t272, .int .i64 t273, .int .i64 t274] 35 (0, 0)) (bk_ BK276)) : gb276 ≠ gb284)); have n7_ := Aside0.mk ((by rw [hg]; exact Nat.ne_of_gt (blk_lt (g := gb276) (o := .cells #[.int .i64 t272, .int .i64 t273, .int .i64 t274] 35 (0, 0)) (bk_ BK276)) : gb284 ≠ gb276)); have n8_ := Aside0.mk ((by rw [hg]; exact Nat.ne_of_lt (blk_lt (g := gb283) (o := .cells #[.int .i64 0, .int .i64 0, .int .i64 0] 35 (0, 0)) (bk_ BK283)) : gb283 ≠ gb284)); have n9_ := Aside0.mk ((by rw [hg]; exact Nat.ne_of_gt (blk_lt (g := gb283) (o := .cells #[.int .i64 0, .int .i64 0, .int .i64 0] 35 (0, 0)) (bk_ BK283)) : gb284 ≠ gb283)); clear BK276; clear BK283; clear HB; have BK276 := n0_; have BK283 := n1_; have HB := n2_; have BK284 := n3_; have GW284 := n4_; have GE284 := n5_; have NB276_284 := n6_; have NB284_276 := n7_; have NB283_284 := n8_; have NB284_283 := n9_; clear n0_ n1_ n2_ n3_ n4_ n5_ n6_ n7_ n8_ n9_; clear hb hbox hg; have hnb16 := NB283_276.out; have hnc16 := NB276_283.out; have hnb17 := NB283_284.out; have hnc17 := NB284_283.out; have hcz18_0 : w15.cell? ⟨gb283, 0, none⟩ = some (.int .i64 0) := (blk_cell BK283.out 0).trans rfl; have hcz18_1 : w15.cell? ⟨gb283, 1, none⟩ = some (.int .i64 0) := (blk_cell BK283.out 1).trans rfl; have hcz18_2 : w15.cell? ⟨gb283, 2, none⟩ = some (.int .i64 0) := (blk_cell BK283.out 2).trans rfl; have hfz18_0 := blk_frozen BK283.out 0; have hfz18_1 := blk_frozen BK283.out 1; have hfz18_2 := blk_frozen BK283.out 2; have hnb19 := NB284_276.out; have hnc19 := NB276_284.out; have hcz20_0 : w15.cell? ⟨gb284, 0, none⟩ = some (.int .i64 0) := (blk_cell BK284.out 0).trans rfl; have hcz20_1 : w15.cell? ⟨gb284, 1, none⟩ = some (.int .i64 0) := (blk_cell BK284.out 1).trans rfl; have hcz20_2 : w15.cell? ⟨gb284, 2, none⟩ = some (.int .i64 0) := (blk_cell BK284.out 2).trans rfl; have hfz20_0 := blk_frozen BK284.out 0; have hfz20_1 := blk_frozen BK284.out 1; have hfz20_2 := blk_frozen BK284.out 2; have hcz21_0 : w15.cell? ⟨gb276, 0, none⟩ = some (.int .i64 t272) := (blk_cell BK276.out 0).trans rfl; have hcz21_1 : w15.cell? ⟨gb276, 1, none⟩ = some (.int .i64 t273) := (blk_cell BK276.out 1).trans rfl; have hcz21_2 : w15.cell? ⟨gb276, 2, none⟩ = some (.int .i64 t274) := (blk_cell BK276.out 2).trans rfl; have hfz21_0 := blk_frozen BK276.out 0; have hfz21_1 := blk_frozen BK276.out 1; have hfz21_2 := blk_frozen BK276.out 2) | ((with_reducible refine gate_callee (f := 44) rfl ?_); refine goesL_ (some 26) rfl rfl Try.func44 (by kernel_rfl) rfl #[.agg #[.int .i64 t272, .int .i64 t273, .int .i64 t274], .int .i64 t275] rfl mt_ ?_; (with_reducible refine (spec_Dovetail.calls k t272 t273 t274 t275 t285 t286 t287 _ A6.out).mono ?_); rintro e w22 ⟨rfl, hb⟩; refine ⟨_, rfl, ?_⟩; have n0_ := Aside0.mk (blk_below (g := gb276) (o := .cells #[.int .i64 t272, .int .i64 t273, .int .i64 t274] 35 (0, 0)) (by (with_reducible repeat (first | refine blk_drewN ?_ _ | refine blk_drew ?_ | refine blk_alloc ?_ _)); refine blk_far ?_ NB276_284.out _; (with_reducible repeat (first | refine blk_drewN ?_ _ | refine blk_drew ?_ | refine blk_alloc ?_ _)); refine blk_far ?_ NB276_284.out _; (with_reducible repeat (first | refine blk_drewN ?_ _ | refine blk_drew ?_ | refine blk_alloc ?_ _)); refine blk_far ?_ NB276_284.out _; (with_reducible repeat (first | refine blk_drewN ?_ _ | refine blk_drew ?_ | refine blk_alloc ?_ _)); refine blk_far ?_ NB276_283.out _; (with_reducible repeat (first | refine blk_drewN ?_ _ | refine blk_drew ?_ | refine blk_alloc ?_ _)); refine blk_far ?_ NB276_283.out _; (with_reducible repeat (first | refine blk_drewN ?_ _ | refine blk_drew ?_ | refine blk_alloc ?_ _)); refine blk_far ?_ NB276_283.out _; exact bk_ BK276) hb); have n1_ := Aside0.mk (blk_below (g := gb283) (o := .cells #[.int .i64 t277, .int .i64 t278, .int .i64 t279] 35 (0, 0)) (by (with_reducible repeat (first | refine blk_drewN ?_ _ | refine blk_drew ?_ | refine blk_alloc ?_ _)); refine blk_far ?_ NB283_284.out _; (with_reducible repeat (first | refine blk_drewN ?_ _ | refine blk_drew ?_ | refine blk_alloc ?_ _)); refine blk_far ?_ NB283_284.out _; (with_reducible repeat (first | refine blk_drewN ?_ _ | refine blk_drew ?_ | refine blk_alloc ?_ _)); refine blk_far ?_ NB283_284.out _; (with_reducible repeat (first | refine blk_drewN ?_ _ | refine blk_drew ?_ | refine blk_alloc ?_ _)); refine blk_put (cs := #[.int .i64 t277, .int .i64 t278, .int .i64 0]) ?_ 2 _ rfl; (with_reducible repeat (first | refine blk_drewN ?_ _ | refine blk_drew ?_ | refine blk_alloc ?_ _)); refine blk_put (cs := #[.int .i64 t277, .int .i64 0, .int .i64 0]) ?_ 1 _ rfl; (with_reducible repeat (first | refine blk_drewN ?_ _ | refine blk_drew ?_ | refine blk_alloc ?_ _)); refine blk_put (cs := #[.int .i64 0, .int .i64 0, .int .i64 0]) ?_ 0 _ rfl; exact bk_ BK283) hb); have n2_ := Aside0.mk (blk_below (g := gb284) (o := .cells #[.int .i64 t280, .int .i64 t281, .int .i64 t282] 35 (0, 0)) (by (with_reducible repeat (first | refine blk_drewN ?_ _ | refine blk_drew ?_ | refine blk_alloc ?_ _)); refine blk_put (cs := #[.int .i64 t280, .int .i64 t281, .int .i64 0]) ?_ 2 _ rfl; (with_reducible repeat (first | refine blk_drewN ?_ _ | refine blk_drew ?_ | refine blk_alloc ?_ _)); refine blk_put (cs := #[.int .i64 t280, .int .i64 0, .int .i64 0]) ?_ 1 _ rfl; (with_reducible repeat (first | refine blk_drewN ?_ _ | refine blk_drew ?_ | refine blk_alloc ?_ _)); refine blk_put (cs := #[.int .i64 0, .int .i64 0, .int .i64 0]) ?_ 0 _ rfl; (with_reducible repeat (first | refine blk_drewN ?_ _ | refine blk_drew ?_ | refine blk_alloc ?_ _)); refine blk_far ?_ NB284_283.out _; (with_reducible repeat (first | refine blk_drewN ?_ _ | refine blk_drew ?_ | refine blk_alloc ?_ _)); refine blk_far ?_ NB284_283.out _; (with_reducible repeat (first | refine blk_drewN ?_ _ | refine blk_drew ?_ | refine blk_alloc ?_ _)); refine blk_far ?_ NB284_283.out _; exact bk_ BK284) hb); have n3_ := Aside0.mk (below_step (by repeat (first | (with_reducible first | exact HB.out | apply below_alloc | apply pw_below_drewN | apply below_drew1 | refine below_set ?_ GE276.out | refine below_set ?_ GE283.out | refine below_set ?_ GE284.out) | exact HB.out)) hb); clear BK276; clear BK283; clear BK284; clear HB; have BK276 := n0_; have BK283 := n1_; have BK284 := n2_; have HB := n3_; clear n0_ n1_ n2_ n3_; (try clear hb); (try clear hb2); (try clear hk); (try clear hi); have hcz23_0 : w22.cell? ⟨gb276, 0, none⟩ = some (.int .i64 t272) := (blk_cell BK276.out 0).trans rfl; have hcz23_1 : w22.cell? ⟨gb276, 1, none⟩ = some (.int .i64 t273) := (blk_cell BK276.out 1).trans rfl; have hcz23_2 : w22.cell? ⟨gb276, 2, none⟩ = some (.int .i64 t274) := (blk_cell BK276.out 2).trans rfl; have hfz23_0 := blk_frozen BK276.out 0; have hfz23_1 := blk_frozen BK276.out 1; have hfz23_2 := blk_frozen BK276.out 2))
  have n0_ : Aside0 ((((w22.setCell ⟨gb276, 0, none⟩ (.int .i64 t285)).setCell ⟨gb276, 1, none⟩ (.int .i64 t286)).setCell ⟨gb276, 2, none⟩ (.int .i64 t287)).heap[gb276]? = some (.cells #[.int .i64 t285, .int .i64 t286, .int .i64 t287] 35 (0, 0))) := ⟨by (with_reducible repeat (first | refine blk_drewN ?_ _ | refine blk_drew ?_ | refine blk_alloc ?_ _)); refine blk_put (cs := #[.int .i64 t285, .int .i64 t286, .int .i64 t274]) ?_ 2 _ rfl; (with_reducible repeat (first | refine blk_drewN ?_ _ | refine blk_drew ?_ | refine blk_alloc ?_ _)); refine blk_put (cs := #[.int .i64 t285, .int .i64 t273, .int .i64 t274]) ?_ 1 _ rfl; (with_reducible repeat (first | refine blk_drewN ?_ _ | refine blk_drew ?_ | refine blk_alloc ?_ _)); refine blk_put (cs := #[.int .i64 t272, .int .i64 t273, .int .i64 t274]) ?_ 0 _ rfl; exact bk_ BK276⟩
  have n1_ : Aside0 ((((w22.setCell ⟨gb276, 0, none⟩ (.int .i64 t285)).setCell ⟨gb276, 1, none⟩ (.int .i64 t286)).setCell ⟨gb276, 2, none⟩ (.int .i64 t287)).heap[gb283]? = some (.cells #[.int .i64 t277, .int .i64 t278, .int .i64 t279] 35 (0, 0))) := ⟨by (with_reducible repeat (first | refine blk_drewN ?_ _ | refine blk_drew ?_ | refine blk_alloc ?_ _)); refine blk_far ?_ NB283_276.out _; (with_reducible repeat (first | refine blk_drewN ?_ _ | refine blk_drew ?_ | refine blk_alloc ?_ _)); refine blk_far ?_ NB283_276.out _; (with_reducible repeat (first | refine blk_drewN ?_ _ | refine blk_drew ?_ | refine blk_alloc ?_ _)); refine blk_far ?_ NB283_276.out _; exact bk_ BK283⟩
  have n2_ : Aside0 ((((w22.setCell ⟨gb276, 0, none⟩ (.int .i64 t285)).setCell ⟨gb276, 1, none⟩ (.int .i64 t286)).setCell ⟨gb276, 2, none⟩ (.int .i64 t287)).heap[gb284]? = some (.cells #[.int .i64 t280, .int .i64 t281, .int .i64 t282] 35 (0, 0))) := ⟨by (with_reducible repeat (first | refine blk_drewN ?_ _ | refine blk_drew ?_ | refine blk_alloc ?_ _)); refine blk_far ?_ NB284_276.out _; (with_reducible repeat (first | refine blk_drewN ?_ _ | refine blk_drew ?_ | refine blk_alloc ?_ _)); refine blk_far ?_ NB284_276.out _; (with_reducible repeat (first | refine blk_drewN ?_ _ | refine blk_drew ?_ | refine blk_alloc ?_ _)); refine blk_far ?_ NB284_276.out _; exact bk_ BK284⟩
  have n3_ : Aside0 (Below w.heap.size w (((w22.setCell ⟨gb276, 0, none⟩ (.int .i64 t285)).setCell ⟨gb276, 1, none⟩ (.int .i64 t286)).setCell ⟨gb276, 2, none⟩ (.int .i64 t287))) := ⟨by repeat (first | (with_reducible first | exact HB.out | apply below_alloc | apply pw_below_drewN | apply below_drew1 | refine below_set ?_ GE276.out | refine below_set ?_ GE283.out | refine below_set ?_ GE284.out) | exact HB.out)⟩
  (try clear BK276)
  (try clear BK283)
  (try clear BK284)
  (try clear HB)
  generalize (((w22.setCell ⟨gb276, 0, none⟩ (.int .i64 t285)).setCell ⟨gb276, 1, none⟩ (.int .i64 t286)).setCell ⟨gb276, 2, none⟩ (.int .i64 t287)) = w24 at n0_ n1_ n2_ n3_ ⊢
  have BK276 := n0_
  have BK283 := n1_
  have BK284 := n2_
  have HB := n3_
  clear n0_ n1_ n2_ n3_
  have n0_ := Aside0.mk (blk_drew BK276.out)
  have n1_ := Aside0.mk (blk_drew BK283.out)
  have n2_ := Aside0.mk (blk_drew BK284.out)
  have n3_ := Aside0.mk (below_drew1 HB.out)
  clear BK276
  clear BK283
  clear BK284
  clear HB
  have BK276 := n0_
  have BK283 := n1_
  have BK284 := n2_
  have HB := n3_
  clear n0_ n1_ n2_ n3_
  refine start_ (n := 7) (S := fun w' => w'.cell? ⟨gb276, 0, none⟩ = some (.int .i64 t285) ∧ w'.cell? ⟨gb276, 1, none⟩ = some (.int .i64 t286) ∧ w'.cell? ⟨gb276, 2, none⟩ = some (.int .i64 t287) ∧ w'.cell? ⟨gb283, 0, none⟩ = some (.int .i64 t277) ∧ w'.cell? ⟨gb283, 1, none⟩ = some (.int .i64 t278) ∧ w'.cell? ⟨gb283, 2, none⟩ = some (.int .i64 t279)) (ds := []) (bs 7 0) (by kernel_rfl) rfl rfl ⟨(blk_cell BK276.out 0).trans rfl, (blk_cell BK276.out 1).trans rfl, (blk_cell BK276.out 2).trans rfl, (blk_cell BK283.out 0).trans rfl, (blk_cell BK283.out 1).trans rfl, (blk_cell BK283.out 2).trans rfl⟩ (fun hHeld => ?_)
  generalize w24.drew = w25 at BK276 BK283 BK284 HB hHeld ⊢
  refine pure_s (i := 2) (N := some 29) #[oF,oF,oT,oF,oF,oF,oF] (by kernel_rfl) (h := ?_)
  refine take_ (i := 0) (N := some 27) (v := ?_) (a' := ?_) #[oT,oF,oT,oF,oF,oF,oF] rfl rfl (by kernel_rfl) (fun _ _ _ h => h) (Or.inl ⟨by rfl, ?_⟩) hHeld ?_ ?_
  rotate_left
  ·rintro w' ⟨s0, s1, s2, s3, s4, s5⟩
   go_simp
   with_reducible rfl
  rotate_left
  ·simp only [Act.put, List.setIfInBounds_toArray, List.set_cons_zero, List.set_cons_succ, i64_w, i32_w]
   rfl
  refine take_ (i := 1) (N := some 28) (v := ?_) (a' := ?_) (bs 7 3) rfl rfl (by kernel_rfl) (fun _ _ _ h => h) (Or.inl ⟨by rfl, ?_⟩) hHeld ?_ ?_
  rotate_left
  ·rintro w' ⟨s0, s1, s2, s3, s4, s5⟩
   go_simp
   with_reducible rfl
  rotate_left
  ·simp only [Act.put, List.setIfInBounds_toArray, List.set_cons_zero, List.set_cons_succ, i64_w, i32_w]
   rfl
  refine join_ (σ := Nat) 1 (bs 7 6) (fun s_ => [(30, .agg #[.int .i64 t288, .int .i64 t289, .int .i64 t290]), (31, .agg #[.int .i64 t291, .int .i64 t292, .int .i64 t293]), (7, .pointer (some ⟨s_, 0, none⟩))]) (fun s_ w' => (w'.cell? ⟨gb276, 0, none⟩ = some (.int .i64 t285) ∧ w'.cell? ⟨gb276, 1, none⟩ = some (.int .i64 t286) ∧ w'.cell? ⟨gb276, 2, none⟩ = some (.int .i64 t287) ∧ w'.cell? ⟨gb283, 0, none⟩ = some (.int .i64 t277) ∧ w'.cell? ⟨gb283, 1, none⟩ = some (.int .i64 t278) ∧ w'.cell? ⟨gb283, 2, none⟩ = some (.int .i64 t279)) ∧ (w'.heap[gb276]? = some (.cells #[.int .i64 t285, .int .i64 t286, .int .i64 t287] 35 (0, 0))) ∧ (w'.heap[gb283]? = some (.cells #[.int .i64 t277, .int .i64 t278, .int .i64 t279] 35 (0, 0))) ∧ (w'.heap[gb284]? = some (.cells #[.int .i64 t280, .int .i64 t281, .int .i64 t282] 35 (0, 0))) ∧ (w'.heap[s_]? = some (.cells #[.int .i64 0, .int .i64 0, .int .i64 0] 35 (0, 0))) ∧ (w.heap.size ≤ s_) ∧ (w.heap.size ≤ s_) ∧ (gb276 ≠ s_) ∧ (s_ ≠ gb276) ∧ (gb283 ≠ s_) ∧ (s_ ≠ gb283) ∧ (gb284 ≠ s_) ∧ (s_ ≠ gb284) ∧ (Below w.heap.size w w')) ?_ ?_
  rotate_left
  ·intro hCont
   refine two_ (i := 3) (j := 5) (Ni := some 30) (Nj := some 7) (bs 7 4) #[oT,oT,oT,oF,oF,oT,oF] rfl rfl rfl rfl (by kernel_rfl) (by decide) (by decide) (fun K hK => ?_) (fun K hK => ?_)
   ·skip
    refine goes_ Try.func44 (by kernel_rfl) rfl #[.agg #[.int .i64 t277, .int .i64 t278, .int .i64 t279], .int .i64 t275] (by rfl) rfl rfl mt_ ?_
    with_reducible refine (spec_Dovetail.calls k t277 t278 t279 t275 t288 t289 t290 _ A7.out).mono ?_
    rintro e w26 ⟨rfl, hb⟩
    refine ⟨_, rfl, ?_⟩
    have n0_ := Aside0.mk (blk_below (g := gb276) (o := .cells #[.int .i64 t285, .int .i64 t286, .int .i64 t287] 35 (0, 0)) (bk_ BK276) hb)
    have n1_ := Aside0.mk (blk_below (g := gb283) (o := .cells #[.int .i64 t277, .int .i64 t278, .int .i64 t279] 35 (0, 0)) (bk_ BK283) hb)
    have n2_ := Aside0.mk (blk_below (g := gb284) (o := .cells #[.int .i64 t280, .int .i64 t281, .int .i64 t282] 35 (0, 0)) (bk_ BK284) hb)
    have n3_ := Aside0.mk (below_step (by repeat (first | (with_reducible first | exact HB.out | apply below_alloc | apply pw_below_drewN | apply below_drew1 | refine below_set ?_ GE276.out | refine below_set ?_ GE283.out | refine below_set ?_ GE284.out) | exact HB.out)) hb)
    clear BK276
    clear BK283
    clear BK284
    clear HB
    have BK276 := n0_
    have BK283 := n1_
    have BK284 := n2_
    have HB := n3_
    clear n0_ n1_ n2_ n3_
    (try clear hb)
    (try clear hb2)
    (try clear hk)
    (try clear hi)
    refine hK.out _ _ ⟨(blk_cell BK276.out 0).trans rfl, (blk_cell BK276.out 1).trans rfl, (blk_cell BK276.out 2).trans rfl, (blk_cell BK283.out 0).trans rfl, (blk_cell BK283.out 1).trans rfl, (blk_cell BK283.out 2).trans rfl⟩ (fun hHeld => ?_)
    clear hK K
    refine norm_ (a' := ?_) ?_ ?_
    rotate_left
    ·show Act.put _ (some 30) _ = _
     simp only [Act.put, List.setIfInBounds_toArray, List.set_cons_zero, List.set_cons_succ, i64_w, i32_w]
     rfl
    refine two_ (i := 4) (j := 5) (Ni := some 31) (Nj := some 7) (bs 7 5) #[oT,oT,oT,oT,oF,oT,oF] rfl rfl rfl rfl (by kernel_rfl) (by decide) (by decide) (fun K hK => ?_) (fun K hK => ?_)
    ·skip
     refine goes_ Try.func45 (by kernel_rfl) rfl #[.agg #[.int .i64 t285, .int .i64 t286, .int .i64 t287], .agg #[.int .i64 t288, .int .i64 t289, .int .i64 t290]] (by rfl) rfl rfl mt_ ?_
     with_reducible refine (spec_VecMost.calls t285 t286 t287 t288 t289 t290 t291 t292 t293 _ A8.out).mono ?_
     rintro e w27 ⟨rfl, hb⟩
     refine ⟨_, rfl, ?_⟩
     have n0_ := Aside0.mk (blk_below (g := gb276) (o := .cells #[.int .i64 t285, .int .i64 t286, .int .i64 t287] 35 (0, 0)) (bk_ BK276) hb)
     have n1_ := Aside0.mk (blk_below (g := gb283) (o := .cells #[.int .i64 t277, .int .i64 t278, .int .i64 t279] 35 (0, 0)) (bk_ BK283) hb)
     have n2_ := Aside0.mk (blk_below (g := gb284) (o := .cells #[.int .i64 t280, .int .i64 t281, .int .i64 t282] 35 (0, 0)) (bk_ BK284) hb)
     have n3_ := Aside0.mk (below_step (by repeat (first | (with_reducible first | exact HB.out | apply below_alloc | apply pw_below_drewN | apply below_drew1 | refine below_set ?_ GE276.out | refine below_set ?_ GE283.out | refine below_set ?_ GE284.out) | exact HB.out)) hb)
     clear BK276
     clear BK283
     clear BK284
     clear HB
     have BK276 := n0_
     have BK283 := n1_
     have BK284 := n2_
     have HB := n3_
     clear n0_ n1_ n2_ n3_
     (try clear hb)
     (try clear hb2)
     (try clear hk)
     (try clear hi)
     refine hK.out _ _ ⟨(blk_cell BK276.out 0).trans rfl, (blk_cell BK276.out 1).trans rfl, (blk_cell BK276.out 2).trans rfl, (blk_cell BK283.out 0).trans rfl, (blk_cell BK283.out 1).trans rfl, (blk_cell BK283.out 2).trans rfl⟩ (fun hHeld => ?_)
     clear hK K
     refine norm_ (a' := ?_) ?_ ?_
     rotate_left
     ·show Act.put _ (some 31) _ = _
      simp only [Act.put, List.setIfInBounds_toArray, List.set_cons_zero, List.set_cons_succ, i64_w, i32_w]
      rfl
     refine one_ (i := 5) (N := some 7) (bs 7 6) rfl rfl (by kernel_rfl) (by decide) (fun K hK => ?_)
     refine box_step ?hg (N := 7) ?hd (cs := #[.int .i64 0, .int .i64 0, .int .i64 0]) (t := 35) ?hr ?_; (case hd => rfl); (case hg => rfl); (case hr => first | (go_simp; done) | (go_simp; rfl))
     intro gb294 hg w28 hbox hb
     have n0_ := Aside0.mk (blk_below (g := gb276) (o := .cells #[.int .i64 t285, .int .i64 t286, .int .i64 t287] 35 (0, 0)) (bk_ BK276) hb)
     have n1_ := Aside0.mk (blk_below (g := gb283) (o := .cells #[.int .i64 t277, .int .i64 t278, .int .i64 t279] 35 (0, 0)) (bk_ BK283) hb)
     have n2_ := Aside0.mk (blk_below (g := gb284) (o := .cells #[.int .i64 t280, .int .i64 t281, .int .i64 t282] 35 (0, 0)) (bk_ BK284) hb)
     have n3_ := Aside0.mk (below_step (by repeat (first | (with_reducible first | exact HB.out | apply below_alloc | apply pw_below_drewN | apply below_drew1 | refine below_set ?_ GE276.out | refine below_set ?_ GE283.out | refine below_set ?_ GE284.out) | exact HB.out)) hb)
     have n4_ := Aside0.mk (hbox)
     have n5_ := Aside0.mk ((by rw [hg]; exact (below_size (by repeat (first | (with_reducible first | exact HB.out | apply below_alloc | apply pw_below_drewN | apply below_drew1 | refine below_set ?_ GE276.out | refine below_set ?_ GE283.out | refine below_set ?_ GE284.out) | exact HB.out))) : w.heap.size ≤ gb294))
     have n6_ := Aside0.mk ((by rw [hg]; exact (below_size (by repeat (first | (with_reducible first | exact HB.out | apply below_alloc | apply pw_below_drewN | apply below_drew1 | refine below_set ?_ GE276.out | refine below_set ?_ GE283.out | refine below_set ?_ GE284.out) | exact HB.out))) : w.heap.size ≤ gb294))
     have n7_ := Aside0.mk ((by rw [hg]; exact Nat.ne_of_lt (blk_lt (g := gb276) (o := .cells #[.int .i64 t285, .int .i64 t286, .int .i64 t287] 35 (0, 0)) (bk_ BK276)) : gb276 ≠ gb294))
     have n8_ := Aside0.mk ((by rw [hg]; exact Nat.ne_of_gt (blk_lt (g := gb276) (o := .cells #[.int .i64 t285, .int .i64 t286, .int .i64 t287] 35 (0, 0)) (bk_ BK276)) : gb294 ≠ gb276))
     have n9_ := Aside0.mk ((by rw [hg]; exact Nat.ne_of_lt (blk_lt (g := gb283) (o := .cells #[.int .i64 t277, .int .i64 t278, .int .i64 t279] 35 (0, 0)) (bk_ BK283)) : gb283 ≠ gb294))
     have n10_ := Aside0.mk ((by rw [hg]; exact Nat.ne_of_gt (blk_lt (g := gb283) (o := .cells #[.int .i64 t277, .int .i64 t278, .int .i64 t279] 35 (0, 0)) (bk_ BK283)) : gb294 ≠ gb283))
     have n11_ := Aside0.mk ((by rw [hg]; exact Nat.ne_of_lt (blk_lt (g := gb284) (o := .cells #[.int .i64 t280, .int .i64 t281, .int .i64 t282] 35 (0, 0)) (bk_ BK284)) : gb284 ≠ gb294))
     have n12_ := Aside0.mk ((by rw [hg]; exact Nat.ne_of_gt (blk_lt (g := gb284) (o := .cells #[.int .i64 t280, .int .i64 t281, .int .i64 t282] 35 (0, 0)) (bk_ BK284)) : gb294 ≠ gb284))
     clear BK276
     clear BK283
     clear BK284
     clear HB
     have BK276 := n0_
     have BK283 := n1_
     have BK284 := n2_
     have HB := n3_
     have BK294 := n4_
     have GW294 := n5_
     have GE294 := n6_
     have NB276_294 := n7_
     have NB294_276 := n8_
     have NB283_294 := n9_
     have NB294_283 := n10_
     have NB284_294 := n11_
     have NB294_284 := n12_
     clear n0_ n1_ n2_ n3_ n4_ n5_ n6_ n7_ n8_ n9_ n10_ n11_ n12_
     clear hb hbox hg
     refine hK.out _ _ ⟨(blk_cell BK276.out 0).trans rfl, (blk_cell BK276.out 1).trans rfl, (blk_cell BK276.out 2).trans rfl, (blk_cell BK283.out 0).trans rfl, (blk_cell BK283.out 1).trans rfl, (blk_cell BK283.out 2).trans rfl⟩ (fun hHeld => ?_)
     clear hK K
     refine norm_ (a' := ?_) ?_ ?_
     rotate_left
     ·show Act.put _ (some 7) _ = _
      simp only [Act.put, List.setIfInBounds_toArray, List.set_cons_zero, List.set_cons_succ, i64_w, i32_w]
      rfl
     exact norm_ (by simp only [putAll, Act.put, List.setIfInBounds_toArray, List.set_cons_zero, List.set_cons_succ]) (hCont (gb294) _ ⟨hHeld, (bk_ BK276), (bk_ BK283), (bk_ BK284), (bk_ BK294), GW294.out, GE294.out, NB276_294.out, NB294_276.out, NB283_294.out, NB294_283.out, NB284_294.out, NB294_284.out, (by repeat (first | (with_reducible first | exact HB.out | apply below_alloc | apply pw_below_drewN | apply below_drew1 | refine below_set ?_ GE276.out | refine below_set ?_ GE283.out | refine below_set ?_ GE284.out | refine below_set ?_ GE294.out) | exact HB.out))⟩)
    ·skip
     refine box_step ?hg (N := 7) ?hd (cs := #[.int .i64 0, .int .i64 0, .int .i64 0]) (t := 35) ?hr ?_; (case hd => rfl); (case hg => rfl); (case hr => first | (go_simp; done) | (go_simp; rfl))
     intro gb294 hg w27 hbox hb
     have n0_ := Aside0.mk (blk_below (g := gb276) (o := .cells #[.int .i64 t285, .int .i64 t286, .int .i64 t287] 35 (0, 0)) (bk_ BK276) hb)
     have n1_ := Aside0.mk (blk_below (g := gb283) (o := .cells #[.int .i64 t277, .int .i64 t278, .int .i64 t279] 35 (0, 0)) (bk_ BK283) hb)
     have n2_ := Aside0.mk (blk_below (g := gb284) (o := .cells #[.int .i64 t280, .int .i64 t281, .int .i64 t282] 35 (0, 0)) (bk_ BK284) hb)
     have n3_ := Aside0.mk (below_step (by repeat (first | (with_reducible first | exact HB.out | apply below_alloc | apply pw_below_drewN | apply below_drew1 | refine below_set ?_ GE276.out | refine below_set ?_ GE283.out | refine below_set ?_ GE284.out) | exact HB.out)) hb)
     have n4_ := Aside0.mk (hbox)
     have n5_ := Aside0.mk ((by rw [hg]; exact (below_size (by repeat (first | (with_reducible first | exact HB.out | apply below_alloc | apply pw_below_drewN | apply below_drew1 | refine below_set ?_ GE276.out | refine below_set ?_ GE283.out | refine below_set ?_ GE284.out) | exact HB.out))) : w.heap.size ≤ gb294))
     have n6_ := Aside0.mk ((by rw [hg]; exact (below_size (by repeat (first | (with_reducible first | exact HB.out | apply below_alloc | apply pw_below_drewN | apply below_drew1 | refine below_set ?_ GE276.out | refine below_set ?_ GE283.out | refine below_set ?_ GE284.out) | exact HB.out))) : w.heap.size ≤ gb294))
     have n7_ := Aside0.mk ((by rw [hg]; exact Nat.ne_of_lt (blk_lt (g := gb276) (o := .cells #[.int .i64 t285, .int .i64 t286, .int .i64 t287] 35 (0, 0)) (bk_ BK276)) : gb276 ≠ gb294))
     have n8_ := Aside0.mk ((by rw [hg]; exact Nat.ne_of_gt (blk_lt (g := gb276) (o := .cells #[.int .i64 t285, .int .i64 t286, .int .i64 t287] 35 (0, 0)) (bk_ BK276)) : gb294 ≠ gb276))
     have n9_ := Aside0.mk ((by rw [hg]; exact Nat.ne_of_lt (blk_lt (g := gb283) (o := .cells #[.int .i64 t277, .int .i64 t278, .int .i64 t279] 35 (0, 0)) (bk_ BK283)) : gb283 ≠ gb294))
     have n10_ := Aside0.mk ((by rw [hg]; exact Nat.ne_of_gt (blk_lt (g := gb283) (o := .cells #[.int .i64 t277, .int .i64 t278, .int .i64 t279] 35 (0, 0)) (bk_ BK283)) : gb294 ≠ gb283))
     have n11_ := Aside0.mk ((by rw [hg]; exact Nat.ne_of_lt (blk_lt (g := gb284) (o := .cells #[.int .i64 t280, .int .i64 t281, .int .i64 t282] 35 (0, 0)) (bk_ BK284)) : gb284 ≠ gb294))
     have n12_ := Aside0.mk ((by rw [hg]; exact Nat.ne_of_gt (blk_lt (g := gb284) (o := .cells #[.int .i64 t280, .int .i64 t281, .int .i64 t282] 35 (0, 0)) (bk_ BK284)) : gb294 ≠ gb284))
     clear BK276
     clear BK283
     clear BK284
     clear HB
     have BK276 := n0_
     have BK283 := n1_
     have BK284 := n2_
     have HB := n3_
     have BK294 := n4_
     have GW294 := n5_
     have GE294 := n6_
     have NB276_294 := n7_
     have NB294_276 := n8_
     have NB283_294 := n9_
     have NB294_283 := n10_
     have NB284_294 := n11_
     have NB294_284 := n12_
     clear n0_ n1_ n2_ n3_ n4_ n5_ n6_ n7_ n8_ n9_ n10_ n11_ n12_
     clear hb hbox hg
     refine hK.out _ _ ⟨(blk_cell BK276.out 0).trans rfl, (blk_cell BK276.out 1).trans rfl, (blk_cell BK276.out 2).trans rfl, (blk_cell BK283.out 0).trans rfl, (blk_cell BK283.out 1).trans rfl, (blk_cell BK283.out 2).trans rfl⟩ (fun hHeld => ?_)
     clear hK K
     refine norm_ (a' := ?_) ?_ ?_
     rotate_left
     ·show Act.put _ (some 7) _ = _
      simp only [Act.put, List.setIfInBounds_toArray, List.set_cons_zero, List.set_cons_succ, i64_w, i32_w]
      rfl
     refine one_ (i := 4) (N := some 31) (bs 7 6) rfl rfl (by kernel_rfl) (by decide) (fun K hK => ?_)
     refine goes_ Try.func45 (by kernel_rfl) rfl #[.agg #[.int .i64 t285, .int .i64 t286, .int .i64 t287], .agg #[.int .i64 t288, .int .i64 t289, .int .i64 t290]] (by rfl) rfl rfl mt_ ?_
     with_reducible refine (spec_VecMost.calls t285 t286 t287 t288 t289 t290 t291 t292 t293 _ A8.out).mono ?_
     rintro e w28 ⟨rfl, hb⟩
     refine ⟨_, rfl, ?_⟩
     have n0_ := Aside0.mk (blk_below (g := gb276) (o := .cells #[.int .i64 t285, .int .i64 t286, .int .i64 t287] 35 (0, 0)) (bk_ BK276) hb)
     have n1_ := Aside0.mk (blk_below (g := gb283) (o := .cells #[.int .i64 t277, .int .i64 t278, .int .i64 t279] 35 (0, 0)) (bk_ BK283) hb)
     have n2_ := Aside0.mk (blk_below (g := gb284) (o := .cells #[.int .i64 t280, .int .i64 t281, .int .i64 t282] 35 (0, 0)) (bk_ BK284) hb)
     have n3_ := Aside0.mk (blk_below (g := gb294) (o := .cells #[.int .i64 0, .int .i64 0, .int .i64 0] 35 (0, 0)) (bk_ BK294) hb)
     have n4_ := Aside0.mk (below_step (by repeat (first | (with_reducible first | exact HB.out | apply below_alloc | apply pw_below_drewN | apply below_drew1 | refine below_set ?_ GE276.out | refine below_set ?_ GE283.out | refine below_set ?_ GE284.out | refine below_set ?_ GE294.out) | exact HB.out)) hb)
     clear BK276
     clear BK283
     clear BK284
     clear BK294
     clear HB
     have BK276 := n0_
     have BK283 := n1_
     have BK284 := n2_
     have BK294 := n3_
     have HB := n4_
     clear n0_ n1_ n2_ n3_ n4_
     (try clear hb)
     (try clear hb2)
     (try clear hk)
     (try clear hi)
     refine hK.out _ _ ⟨(blk_cell BK276.out 0).trans rfl, (blk_cell BK276.out 1).trans rfl, (blk_cell BK276.out 2).trans rfl, (blk_cell BK283.out 0).trans rfl, (blk_cell BK283.out 1).trans rfl, (blk_cell BK283.out 2).trans rfl⟩ (fun hHeld => ?_)
     clear hK K
     refine norm_ (a' := ?_) ?_ ?_
     rotate_left
     ·show Act.put _ (some 31) _ = _
      simp only [Act.put, List.setIfInBounds_toArray, List.set_cons_zero, List.set_cons_succ, i64_w, i32_w]
      rfl
     exact norm_ (by simp only [putAll, Act.put, List.setIfInBounds_toArray, List.set_cons_zero, List.set_cons_succ]) (hCont (gb294) _ ⟨hHeld, (bk_ BK276), (bk_ BK283), (bk_ BK284), (bk_ BK294), GW294.out, GE294.out, NB276_294.out, NB294_276.out, NB283_294.out, NB294_283.out, NB284_294.out, NB294_284.out, (by repeat (first | (with_reducible first | exact HB.out | apply below_alloc | apply pw_below_drewN | apply below_drew1 | refine below_set ?_ GE276.out | refine below_set ?_ GE283.out | refine below_set ?_ GE284.out | refine below_set ?_ GE294.out) | exact HB.out))⟩)
   ·skip
    refine box_step ?hg (N := 7) ?hd (cs := #[.int .i64 0, .int .i64 0, .int .i64 0]) (t := 35) ?hr ?_; (case hd => rfl); (case hg => rfl); (case hr => first | (go_simp; done) | (go_simp; rfl))
    intro gb294 hg w26 hbox hb
    have n0_ := Aside0.mk (blk_below (g := gb276) (o := .cells #[.int .i64 t285, .int .i64 t286, .int .i64 t287] 35 (0, 0)) (bk_ BK276) hb)
    have n1_ := Aside0.mk (blk_below (g := gb283) (o := .cells #[.int .i64 t277, .int .i64 t278, .int .i64 t279] 35 (0, 0)) (bk_ BK283) hb)
    have n2_ := Aside0.mk (blk_below (g := gb284) (o := .cells #[.int .i64 t280, .int .i64 t281, .int .i64 t282] 35 (0, 0)) (bk_ BK284) hb)
    have n3_ := Aside0.mk (below_step (by repeat (first | (with_reducible first | exact HB.out | apply below_alloc | apply pw_below_drewN | apply below_drew1 | refine below_set ?_ GE276.out | refine below_set ?_ GE283.out | refine below_set ?_ GE284.out) | exact HB.out)) hb)
    have n4_ := Aside0.mk (hbox)
    have n5_ := Aside0.mk ((by rw [hg]; exact (below_size (by repeat (first | (with_reducible first | exact HB.out | apply below_alloc | apply pw_below_drewN | apply below_drew1 | refine below_set ?_ GE276.out | refine below_set ?_ GE283.out | refine below_set ?_ GE284.out) | exact HB.out))) : w.heap.size ≤ gb294))
    have n6_ := Aside0.mk ((by rw [hg]; exact (below_size (by repeat (first | (with_reducible first | exact HB.out | apply below_alloc | apply pw_below_drewN | apply below_drew1 | refine below_set ?_ GE276.out | refine below_set ?_ GE283.out | refine below_set ?_ GE284.out) | exact HB.out))) : w.heap.size ≤ gb294))
    have n7_ := Aside0.mk ((by rw [hg]; exact Nat.ne_of_lt (blk_lt (g := gb276) (o := .cells #[.int .i64 t285, .int .i64 t286, .int .i64 t287] 35 (0, 0)) (bk_ BK276)) : gb276 ≠ gb294))
    have n8_ := Aside0.mk ((by rw [hg]; exact Nat.ne_of_gt (blk_lt (g := gb276) (o := .cells #[.int .i64 t285, .int .i64 t286, .int .i64 t287] 35 (0, 0)) (bk_ BK276)) : gb294 ≠ gb276))
    have n9_ := Aside0.mk ((by rw [hg]; exact Nat.ne_of_lt (blk_lt (g := gb283) (o := .cells #[.int .i64 t277, .int .i64 t278, .int .i64 t279] 35 (0, 0)) (bk_ BK283)) : gb283 ≠ gb294))
    have n10_ := Aside0.mk ((by rw [hg]; exact Nat.ne_of_gt (blk_lt (g := gb283) (o := .cells #[.int .i64 t277, .int .i64 t278, .int .i64 t279] 35 (0, 0)) (bk_ BK283)) : gb294 ≠ gb283))
    have n11_ := Aside0.mk ((by rw [hg]; exact Nat.ne_of_lt (blk_lt (g := gb284) (o := .cells #[.int .i64 t280, .int .i64 t281, .int .i64 t282] 35 (0, 0)) (bk_ BK284)) : gb284 ≠ gb294))
    have n12_ := Aside0.mk ((by rw [hg]; exact Nat.ne_of_gt (blk_lt (g := gb284) (o := .cells #[.int .i64 t280, .int .i64 t281, .int .i64 t282] 35 (0, 0)) (bk_ BK284)) : gb294 ≠ gb284))
    clear BK276
    clear BK283
    clear BK284
    clear HB
    have BK276 := n0_
    have BK283 := n1_
    have BK284 := n2_
    have HB := n3_
    have BK294 := n4_
    have GW294 := n5_
    have GE294 := n6_
    have NB276_294 := n7_
    have NB294_276 := n8_
    have NB283_294 := n9_
    have NB294_283 := n10_
    have NB284_294 := n11_
    have NB294_284 := n12_
    clear n0_ n1_ n2_ n3_ n4_ n5_ n6_ n7_ n8_ n9_ n10_ n11_ n12_
    clear hb hbox hg
    refine hK.out _ _ ⟨(blk_cell BK276.out 0).trans rfl, (blk_cell BK276.out 1).trans rfl, (blk_cell BK276.out 2).trans rfl, (blk_cell BK283.out 0).trans rfl, (blk_cell BK283.out 1).trans rfl, (blk_cell BK283.out 2).trans rfl⟩ (fun hHeld => ?_)
    clear hK K
    refine norm_ (a' := ?_) ?_ ?_
    rotate_left
    ·show Act.put _ (some 7) _ = _
     simp only [Act.put, List.setIfInBounds_toArray, List.set_cons_zero, List.set_cons_succ, i64_w, i32_w]
     rfl
    refine one_ (i := 3) (N := some 30) #[oT,oT,oT,oT,oF,oT,oF] rfl rfl (by kernel_rfl) (by decide) (fun K hK => ?_)
    refine goes_ Try.func44 (by kernel_rfl) rfl #[.agg #[.int .i64 t277, .int .i64 t278, .int .i64 t279], .int .i64 t275] (by rfl) rfl rfl mt_ ?_
    with_reducible refine (spec_Dovetail.calls k t277 t278 t279 t275 t288 t289 t290 _ A7.out).mono ?_
    rintro e w27 ⟨rfl, hb⟩
    refine ⟨_, rfl, ?_⟩
    have n0_ := Aside0.mk (blk_below (g := gb276) (o := .cells #[.int .i64 t285, .int .i64 t286, .int .i64 t287] 35 (0, 0)) (bk_ BK276) hb)
    have n1_ := Aside0.mk (blk_below (g := gb283) (o := .cells #[.int .i64 t277, .int .i64 t278, .int .i64 t279] 35 (0, 0)) (bk_ BK283) hb)
    have n2_ := Aside0.mk (blk_below (g := gb284) (o := .cells #[.int .i64 t280, .int .i64 t281, .int .i64 t282] 35 (0, 0)) (bk_ BK284) hb)
    have n3_ := Aside0.mk (blk_below (g := gb294) (o := .cells #[.int .i64 0, .int .i64 0, .int .i64 0] 35 (0, 0)) (bk_ BK294) hb)
    have n4_ := Aside0.mk (below_step (by repeat (first | (with_reducible first | exact HB.out | apply below_alloc | apply pw_below_drewN | apply below_drew1 | refine below_set ?_ GE276.out | refine below_set ?_ GE283.out | refine below_set ?_ GE284.out | refine below_set ?_ GE294.out) | exact HB.out)) hb)
    clear BK276
    clear BK283
    clear BK284
    clear BK294
    clear HB
    have BK276 := n0_
    have BK283 := n1_
    have BK284 := n2_
    have BK294 := n3_
    have HB := n4_
    clear n0_ n1_ n2_ n3_ n4_
    (try clear hb)
    (try clear hb2)
    (try clear hk)
    (try clear hi)
    refine hK.out _ _ ⟨(blk_cell BK276.out 0).trans rfl, (blk_cell BK276.out 1).trans rfl, (blk_cell BK276.out 2).trans rfl, (blk_cell BK283.out 0).trans rfl, (blk_cell BK283.out 1).trans rfl, (blk_cell BK283.out 2).trans rfl⟩ (fun hHeld => ?_)
    clear hK K
    refine norm_ (a' := ?_) ?_ ?_
    rotate_left
    ·show Act.put _ (some 30) _ = _
     simp only [Act.put, List.setIfInBounds_toArray, List.set_cons_zero, List.set_cons_succ, i64_w, i32_w]
     rfl
    refine one_ (i := 4) (N := some 31) (bs 7 6) rfl rfl (by kernel_rfl) (by decide) (fun K hK => ?_)
    refine goes_ Try.func45 (by kernel_rfl) rfl #[.agg #[.int .i64 t285, .int .i64 t286, .int .i64 t287], .agg #[.int .i64 t288, .int .i64 t289, .int .i64 t290]] (by rfl) rfl rfl mt_ ?_
    with_reducible refine (spec_VecMost.calls t285 t286 t287 t288 t289 t290 t291 t292 t293 _ A8.out).mono ?_
    rintro e w28 ⟨rfl, hb⟩
    refine ⟨_, rfl, ?_⟩
    have n0_ := Aside0.mk (blk_below (g := gb276) (o := .cells #[.int .i64 t285, .int .i64 t286, .int .i64 t287] 35 (0, 0)) (bk_ BK276) hb)
    have n1_ := Aside0.mk (blk_below (g := gb283) (o := .cells #[.int .i64 t277, .int .i64 t278, .int .i64 t279] 35 (0, 0)) (bk_ BK283) hb)
    have n2_ := Aside0.mk (blk_below (g := gb284) (o := .cells #[.int .i64 t280, .int .i64 t281, .int .i64 t282] 35 (0, 0)) (bk_ BK284) hb)
    have n3_ := Aside0.mk (blk_below (g := gb294) (o := .cells #[.int .i64 0, .int .i64 0, .int .i64 0] 35 (0, 0)) (bk_ BK294) hb)
    have n4_ := Aside0.mk (below_step (by repeat (first | (with_reducible first | exact HB.out | apply below_alloc | apply pw_below_drewN | apply below_drew1 | refine below_set ?_ GE276.out | refine below_set ?_ GE283.out | refine below_set ?_ GE284.out | refine below_set ?_ GE294.out) | exact HB.out)) hb)
    clear BK276
    clear BK283
    clear BK284
    clear BK294
    clear HB
    have BK276 := n0_
    have BK283 := n1_
    have BK284 := n2_
    have BK294 := n3_
    have HB := n4_
    clear n0_ n1_ n2_ n3_ n4_
    (try clear hb)
    (try clear hb2)
    (try clear hk)
    (try clear hi)
    refine hK.out _ _ ⟨(blk_cell BK276.out 0).trans rfl, (blk_cell BK276.out 1).trans rfl, (blk_cell BK276.out 2).trans rfl, (blk_cell BK283.out 0).trans rfl, (blk_cell BK283.out 1).trans rfl, (blk_cell BK283.out 2).trans rfl⟩ (fun hHeld => ?_)
    clear hK K
    refine norm_ (a' := ?_) ?_ ?_
    rotate_left
    ·show Act.put _ (some 31) _ = _
     simp only [Act.put, List.setIfInBounds_toArray, List.set_cons_zero, List.set_cons_succ, i64_w, i32_w]
     rfl
    exact norm_ (by simp only [putAll, Act.put, List.setIfInBounds_toArray, List.set_cons_zero, List.set_cons_succ]) (hCont (gb294) _ ⟨hHeld, (bk_ BK276), (bk_ BK283), (bk_ BK284), (bk_ BK294), GW294.out, GE294.out, NB276_294.out, NB294_276.out, NB283_294.out, NB294_283.out, NB284_294.out, NB294_284.out, (by repeat (first | (with_reducible first | exact HB.out | apply below_alloc | apply pw_below_drewN | apply below_drew1 | refine below_set ?_ GE276.out | refine below_set ?_ GE283.out | refine below_set ?_ GE284.out | refine below_set ?_ GE294.out) | exact HB.out))⟩)
  rintro gb294 w29 ⟨hS_, h0_, h1_, h2_, h3_, h4_, h5_, h6_, h7_, h8_, h9_, h10_, h11_, h12_⟩
  have n0_ : Aside0 (w29.heap[gb276]? = some (.cells #[.int .i64 t285, .int .i64 t286, .int .i64 t287] 35 (0, 0))) := ⟨h0_⟩
  have n1_ : Aside0 (w29.heap[gb283]? = some (.cells #[.int .i64 t277, .int .i64 t278, .int .i64 t279] 35 (0, 0))) := ⟨h1_⟩
  have n2_ : Aside0 (w29.heap[gb284]? = some (.cells #[.int .i64 t280, .int .i64 t281, .int .i64 t282] 35 (0, 0))) := ⟨h2_⟩
  have n3_ : Aside0 (w29.heap[gb294]? = some (.cells #[.int .i64 0, .int .i64 0, .int .i64 0] 35 (0, 0))) := ⟨h3_⟩
  have n4_ : Aside0 (w.heap.size ≤ gb294) := ⟨h4_⟩
  have n5_ : Aside0 (w.heap.size ≤ gb294) := ⟨h5_⟩
  have n6_ : Aside0 (gb276 ≠ gb294) := ⟨h6_⟩
  have n7_ : Aside0 (gb294 ≠ gb276) := ⟨h7_⟩
  have n8_ : Aside0 (gb283 ≠ gb294) := ⟨h8_⟩
  have n9_ : Aside0 (gb294 ≠ gb283) := ⟨h9_⟩
  have n10_ : Aside0 (gb284 ≠ gb294) := ⟨h10_⟩
  have n11_ : Aside0 (gb294 ≠ gb284) := ⟨h11_⟩
  have n12_ : Aside0 (Below w.heap.size w w29) := ⟨h12_⟩
  clear BK276
  clear BK283
  clear BK284
  clear HB
  clear h0_ h1_ h2_ h3_ h4_ h5_ h6_ h7_ h8_ h9_ h10_ h11_ h12_
  have BK276 := n0_
  have BK283 := n1_
  have BK284 := n2_
  have BK294 := n3_
  have GW294 := n4_
  have GE294 := n5_
  have NB276_294 := n6_
  have NB294_276 := n7_
  have NB283_294 := n8_
  have NB294_283 := n9_
  have NB284_294 := n10_
  have NB294_284 := n11_
  have HB := n12_
  clear n0_ n1_ n2_ n3_ n4_ n5_ n6_ n7_ n8_ n9_ n10_ n11_ n12_
  have hHeld : w29.cell? ⟨gb276, 0, none⟩ = some (.int .i64 t285) ∧ w29.cell? ⟨gb276, 1, none⟩ = some (.int .i64 t286) ∧ w29.cell? ⟨gb276, 2, none⟩ = some (.int .i64 t287) ∧ w29.cell? ⟨gb283, 0, none⟩ = some (.int .i64 t277) ∧ w29.cell? ⟨gb283, 1, none⟩ = some (.int .i64 t278) ∧ w29.cell? ⟨gb283, 2, none⟩ = some (.int .i64 t279) := hS_
  refine norm_ (a' := ?_) ?_ ?_
  rotate_left
  ·simp only [putAll, Act.put, List.setIfInBounds_toArray, List.set_cons_zero, List.set_cons_succ]
   rfl
  refine one_ (i := 6) (N := none) (bs 7 7) rfl rfl (by kernel_rfl) (by decide) (fun K hK => ?_)
  have hs30 : w29.cell? ⟨gb294, 0, none⟩ = some (.int .i64 0) := (blk_cell BK294.out 0).trans rfl
  have hfs30 := blk_frozen BK294.out 0
  have hns30_0 := NB276_294.out
  have hns30_1 := NB283_294.out
  have hns30_2 := NB284_294.out
  have hms30_0 := NB294_276.out
  have hms30_1 := NB294_283.out
  have hms30_2 := NB294_284.out
  have hs31 : w29.cell? ⟨gb294, 1, none⟩ = some (.int .i64 0) := (blk_cell BK294.out 1).trans rfl
  have hfs31 := blk_frozen BK294.out 1
  have hns31_0 := NB276_294.out
  have hns31_1 := NB283_294.out
  have hns31_2 := NB284_294.out
  have hms31_0 := NB294_276.out
  have hms31_1 := NB294_283.out
  have hms31_2 := NB294_284.out
  have hs32 : w29.cell? ⟨gb294, 2, none⟩ = some (.int .i64 0) := (blk_cell BK294.out 2).trans rfl
  have hfs32 := blk_frozen BK294.out 2
  have hns32_0 := NB276_294.out
  have hns32_1 := NB283_294.out
  have hns32_2 := NB284_294.out
  have hms32_0 := NB294_276.out
  have hms32_1 := NB294_283.out
  have hms32_2 := NB294_284.out
  refine skip_ (w1 := ?_) (by rfl) rfl ?_ ?_
  rotate_left
  ·go_simp
   rfl
  refine hK.out _ _ ⟨((cell_far (p := ⟨gb294, _, none⟩) NB276_294.out _).trans (((cell_far (p := ⟨gb294, _, none⟩) NB276_294.out _).trans (((cell_far (p := ⟨gb294, _, none⟩) NB276_294.out _).trans (hHeld.1)))))), ((cell_far (p := ⟨gb294, _, none⟩) NB276_294.out _).trans (((cell_far (p := ⟨gb294, _, none⟩) NB276_294.out _).trans (((cell_far (p := ⟨gb294, _, none⟩) NB276_294.out _).trans (hHeld.2.1)))))), ((cell_far (p := ⟨gb294, _, none⟩) NB276_294.out _).trans (((cell_far (p := ⟨gb294, _, none⟩) NB276_294.out _).trans (((cell_far (p := ⟨gb294, _, none⟩) NB276_294.out _).trans (hHeld.2.2.1)))))), ((cell_far (p := ⟨gb294, _, none⟩) NB283_294.out _).trans (((cell_far (p := ⟨gb294, _, none⟩) NB283_294.out _).trans (((cell_far (p := ⟨gb294, _, none⟩) NB283_294.out _).trans (hHeld.2.2.2.1)))))), ((cell_far (p := ⟨gb294, _, none⟩) NB283_294.out _).trans (((cell_far (p := ⟨gb294, _, none⟩) NB283_294.out _).trans (((cell_far (p := ⟨gb294, _, none⟩) NB283_294.out _).trans (hHeld.2.2.2.2.1)))))), ((cell_far (p := ⟨gb294, _, none⟩) NB283_294.out _).trans (((cell_far (p := ⟨gb294, _, none⟩) NB283_294.out _).trans (((cell_far (p := ⟨gb294, _, none⟩) NB283_294.out _).trans (hHeld.2.2.2.2.2))))))⟩ (fun hHeld => ?_)
  clear hK K
  refine done_ (by kernel_rfl) ?_
  go_upto_region 7 with (fail)
  go_cut [40] (fun v40 wc => ∃ (kq : Nat) (x40_8 : Bool), v40 = .bool x40_8 ∧ Aside0 (laws_FnLowered.j0 kq t275 x40_8 t285 t286 t287 t291 t292 t293 = some r) ∧ Aside0 (kq ≤ k) ∧ Aside0 (wc.heap[gb276]? = some (.cells #[.int .i64 t285, .int .i64 t286, .int .i64 t287] 35 (0, 0))) ∧ Aside0 (wc.heap[gb283]? = some (.cells #[.int .i64 t277, .int .i64 t278, .int .i64 t279] 35 (0, 0))) ∧ Aside0 (wc.heap[gb284]? = some (.cells #[.int .i64 t280, .int .i64 t281, .int .i64 t282] 35 (0, 0))) ∧ Aside0 (wc.heap[gb294]? = some (.cells #[.int .i64 t291, .int .i64 t292, .int .i64 t293] 35 (0, 0))) ∧ Aside0 (Below w.heap.size w wc))
  case first =>
   have H := HC9.out
   clear HC9
   replace H := Option.bind_eq_some_iff.mp H
   obtain ⟨t295, A330, H⟩ := H
   replace H : (if t295 = true then ((spec_TagOk.f t291 t292 t293).bind fun t296 => (laws_FnLowered.j0 k t275 (!t296) t285 t286 t287 t291 t292 t293)) else (laws_FnLowered.j0 k t275 true t285 t286 t287 t291 t292 t293)) = some r := H
   have A33 := Aside0.mk A330
   clear A330
   by_cases c34 : t295 = true
   ·subst c34
    have H1 : ((spec_TagOk.f t291 t292 t293).bind fun t296 => (laws_FnLowered.j0 k t275 (!t296) t285 t286 t287 t291 t292 t293)) = some r := by rw [if_pos rfl] at H; exact H
    clear H
    have H := H1
    clear H1
    replace H := Option.bind_eq_some_iff.mp H
    obtain ⟨t296, A350, H⟩ := H
    replace H : (laws_FnLowered.j0 k t275 (!t296) t285 t286 t287 t291 t292 t293) = some r := H
    have A35 := Aside0.mk A350
    clear A350
    have H' := Aside0.mk H
    clear H
    have hnb36 := NB276_283.out
    have hnc36 := NB283_276.out
    have hnb37 := NB276_284.out
    have hnc37 := NB284_276.out
    have hnb38 := NB276_294.out
    have hnc38 := NB294_276.out
    have hcz39_0 : w29.cell? ⟨gb276, 0, none⟩ = some (.int .i64 t285) := (blk_cell BK276.out 0).trans rfl
    have hcz39_1 : w29.cell? ⟨gb276, 1, none⟩ = some (.int .i64 t286) := (blk_cell BK276.out 1).trans rfl
    have hcz39_2 : w29.cell? ⟨gb276, 2, none⟩ = some (.int .i64 t287) := (blk_cell BK276.out 2).trans rfl
    have hfz39_0 := blk_frozen BK276.out 0
    have hfz39_1 := blk_frozen BK276.out 1
    have hfz39_2 := blk_frozen BK276.out 2
    go_wp2_with (first | ((with_reducible refine gate_callee (f := 27) rfl ?_); refine goesL_ (some 34) rfl rfl Try.func27 (by kernel_rfl) rfl #[.agg #[.int .i64 t285, .int .i64 t286, .int .i64 t287], .int .i64 t275] rfl mt_ ?_; (with_reducible refine (spec_Narrow.calls t285 t286 t287 t275 true _ A33.out).mono ?_); rintro e w40 ⟨rfl, hb⟩; refine ⟨_, rfl, ?_⟩; have n0_ := Aside0.mk (blk_below (g := gb276) (o := .cells #[.int .i64 t285, .int .i64 t286, .int .i64 t287] 35 (0, 0)) (by (with_reducible repeat (first | refine blk_drewN ?_ _ | refine blk_drew ?_ | refine blk_alloc ?_ _)); refine blk_far ?_ NB276_294.out _; (with_reducible repeat (first | refine blk_drewN ?_ _ | refine blk_drew ?_ | refine blk_alloc ?_ _)); refine blk_far ?_ NB276_294.out _; (with_reducible repeat (first | refine blk_drewN ?_ _ | refine blk_drew ?_ | refine blk_alloc ?_ _)); refine blk_far ?_ NB276_294.out _; exact bk_ BK276) hb); have n1_ := Aside0.mk (blk_below (g := gb283) (o := .cells #[.int .i64 t277, .int .i64 t278, .int .i64 t279] 35 (0, 0)) (by (with_reducible repeat (first | refine blk_drewN ?_ _ | refine blk_drew ?_ | refine blk_alloc ?_ _)); refine blk_far ?_ NB283_294.out _; (with_reducible repeat (first | refine blk_drewN ?_ _ | refine blk_drew ?_ | refine blk_alloc ?_ _)); refine blk_far ?_ NB283_294.out _; (with_reducible repeat (first | refine blk_drewN ?_ _ | refine blk_drew ?_ | refine blk_alloc ?_ _)); refine blk_far ?_ NB283_294.out _; exact bk_ BK283) hb); have n2_ := Aside0.mk (blk_below (g := gb284) (o := .cells #[.int .i64 t280, .int .i64 t281, .int .i64 t282] 35 (0, 0)) (by (with_reducible repeat (first | refine blk_drewN ?_ _ | refine blk_drew ?_ | refine blk_alloc ?_ _)); refine blk_far ?_ NB284_294.out _; (with_reducible repeat (first | refine blk_drewN ?_ _ | refine blk_drew ?_ | refine blk_alloc ?_ _)); refine blk_far ?_ NB284_294.out _; (with_reducible repeat (first | refine blk_drewN ?_ _ | refine blk_drew ?_ | refine blk_alloc ?_ _)); refine blk_far ?_ NB284_294.out _; exact bk_ BK284) hb); have n3_ := Aside0.mk (blk_below (g := gb294) (o := .cells #[.int .i64 t291, .int .i64 t292, .int .i64 t293] 35 (0, 0)) (by (with_reducible repeat (first | refine blk_drewN ?_ _ | refine blk_drew ?_ | refine blk_alloc ?_ _)); refine blk_put (cs := #[.int .i64 t291, .int .i64 t292, .int .i64 0]) ?_ 2 _ rfl; (with_reducible repeat (first | refine blk_drewN ?_ _ | refine blk_drew ?_ | refine blk_alloc ?_ _)); refine blk_put (cs := #[.int .i64 t291, .int .i64 0, .int .i64 0]) ?_ 1 _ rfl; (with_reducible repeat (first | refine blk_drewN ?_ _ | refine blk_drew ?_ | refine blk_alloc ?_ _)); refine blk_put (cs := #[.int .i64 0, .int .i64 0, .int .i64 0]) ?_ 0 _ rfl; exact bk_ BK294) hb); have n4_ := Aside0.mk (below_step (by repeat (first | (with_reducible first | exact HB.out | apply below_alloc | apply pw_below_drewN | apply below_drew1 | refine below_set ?_ GE276.out | refine below_set ?_ GE283.out | refine below_set ?_ GE284.out | refine below_set ?_ GE294.out) | exact HB.out)) hb); clear BK276; clear BK283; clear BK284; clear BK294; clear HB; have BK276 := n0_; have BK283 := n1_; have BK284 := n2_; have BK294 := n3_; have HB := n4_; clear n0_ n1_ n2_ n3_ n4_; (try clear hb); (try clear hb2); (try clear hk); (try clear hi); have hnb41 := NB294_283.out; have hnc41 := NB283_294.out; have hnb42 := NB294_284.out; have hnc42 := NB284_294.out; have hcz43_0 : w40.cell? ⟨gb294, 0, none⟩ = some (.int .i64 t291) := (blk_cell BK294.out 0).trans rfl; have hcz43_1 : w40.cell? ⟨gb294, 1, none⟩ = some (.int .i64 t292) := (blk_cell BK294.out 1).trans rfl; have hcz43_2 : w40.cell? ⟨gb294, 2, none⟩ = some (.int .i64 t293) := (blk_cell BK294.out 2).trans rfl; have hfz43_0 := blk_frozen BK294.out 0; have hfz43_1 := blk_frozen BK294.out 1; have hfz43_2 := blk_frozen BK294.out 2) | (go_at_call 25; (with_reducible refine (spec_TagOk.calls t291 t292 t293 t296 _ A35.out).mono ?_); rintro e w44 ⟨rfl, hb⟩; have n0_ := Aside0.mk (blk_below (g := gb276) (o := .cells #[.int .i64 t285, .int .i64 t286, .int .i64 t287] 35 (0, 0)) (bk_ BK276) hb); have n1_ := Aside0.mk (blk_below (g := gb283) (o := .cells #[.int .i64 t277, .int .i64 t278, .int .i64 t279] 35 (0, 0)) (bk_ BK283) hb); have n2_ := Aside0.mk (blk_below (g := gb284) (o := .cells #[.int .i64 t280, .int .i64 t281, .int .i64 t282] 35 (0, 0)) (bk_ BK284) hb); have n3_ := Aside0.mk (blk_below (g := gb294) (o := .cells #[.int .i64 t291, .int .i64 t292, .int .i64 t293] 35 (0, 0)) (bk_ BK294) hb); have n4_ := Aside0.mk (below_step (by repeat (first | (with_reducible first | exact HB.out | apply below_alloc | apply pw_below_drewN | apply below_drew1 | refine below_set ?_ GE276.out | refine below_set ?_ GE283.out | refine below_set ?_ GE284.out | refine below_set ?_ GE294.out) | exact HB.out)) hb); clear BK276; clear BK283; clear BK284; clear BK294; clear HB; have BK276 := n0_; have BK283 := n1_; have BK284 := n2_; have BK294 := n3_; have HB := n4_; clear n0_ n1_ n2_ n3_ n4_; (try clear hb); (try clear hb2); (try clear hk); (try clear hi)))
    go_meet
    case rel => exact ⟨_, (!t296), (by first | rfl | (simp; done) | (simp [*]; done)), H', ⟨by first | omega | exact Nat.le_refl _⟩, ⟨bk_ BK276⟩, ⟨bk_ BK283⟩, ⟨bk_ BK284⟩, ⟨bk_ BK294⟩, ⟨by repeat (first | (with_reducible first | exact HB.out | apply below_alloc | apply pw_below_drewN | apply below_drew1 | refine below_set ?_ GE276.out | refine below_set ?_ GE283.out | refine below_set ?_ GE284.out | refine below_set ?_ GE294.out) | exact HB.out)⟩⟩
   ·replace c34 := Bool.eq_false_iff.mpr c34
    subst c34
    have H1 : (laws_FnLowered.j0 k t275 true t285 t286 t287 t291 t292 t293) = some r := by rw [if_neg (show ¬ (false = true) by decide)] at H; exact H
    clear H
    have H := H1
    clear H1
    have H' := Aside0.mk H
    clear H
    have hnb45 := NB276_283.out
    have hnc45 := NB283_276.out
    have hnb46 := NB276_284.out
    have hnc46 := NB284_276.out
    have hnb47 := NB276_294.out
    have hnc47 := NB294_276.out
    have hcz48_0 : w29.cell? ⟨gb276, 0, none⟩ = some (.int .i64 t285) := (blk_cell BK276.out 0).trans rfl
    have hcz48_1 : w29.cell? ⟨gb276, 1, none⟩ = some (.int .i64 t286) := (blk_cell BK276.out 1).trans rfl
    have hcz48_2 : w29.cell? ⟨gb276, 2, none⟩ = some (.int .i64 t287) := (blk_cell BK276.out 2).trans rfl
    have hfz48_0 := blk_frozen BK276.out 0
    have hfz48_1 := blk_frozen BK276.out 1
    have hfz48_2 := blk_frozen BK276.out 2
    go_wp2_with (first | ((with_reducible refine gate_callee (f := 27) rfl ?_); refine goesL_ (some 34) rfl rfl Try.func27 (by kernel_rfl) rfl #[.agg #[.int .i64 t285, .int .i64 t286, .int .i64 t287], .int .i64 t275] rfl mt_ ?_; (with_reducible refine (spec_Narrow.calls t285 t286 t287 t275 false _ A33.out).mono ?_); rintro e w49 ⟨rfl, hb⟩; refine ⟨_, rfl, ?_⟩; have n0_ := Aside0.mk (blk_below (g := gb276) (o := .cells #[.int .i64 t285, .int .i64 t286, .int .i64 t287] 35 (0, 0)) (by (with_reducible repeat (first | refine blk_drewN ?_ _ | refine blk_drew ?_ | refine blk_alloc ?_ _)); refine blk_far ?_ NB276_294.out _; (with_reducible repeat (first | refine blk_drewN ?_ _ | refine blk_drew ?_ | refine blk_alloc ?_ _)); refine blk_far ?_ NB276_294.out _; (with_reducible repeat (first | refine blk_drewN ?_ _ | refine blk_drew ?_ | refine blk_alloc ?_ _)); refine blk_far ?_ NB276_294.out _; exact bk_ BK276) hb); have n1_ := Aside0.mk (blk_below (g := gb283) (o := .cells #[.int .i64 t277, .int .i64 t278, .int .i64 t279] 35 (0, 0)) (by (with_reducible repeat (first | refine blk_drewN ?_ _ | refine blk_drew ?_ | refine blk_alloc ?_ _)); refine blk_far ?_ NB283_294.out _; (with_reducible repeat (first | refine blk_drewN ?_ _ | refine blk_drew ?_ | refine blk_alloc ?_ _)); refine blk_far ?_ NB283_294.out _; (with_reducible repeat (first | refine blk_drewN ?_ _ | refine blk_drew ?_ | refine blk_alloc ?_ _)); refine blk_far ?_ NB283_294.out _; exact bk_ BK283) hb); have n2_ := Aside0.mk (blk_below (g := gb284) (o := .cells #[.int .i64 t280, .int .i64 t281, .int .i64 t282] 35 (0, 0)) (by (with_reducible repeat (first | refine blk_drewN ?_ _ | refine blk_drew ?_ | refine blk_alloc ?_ _)); refine blk_far ?_ NB284_294.out _; (with_reducible repeat (first | refine blk_drewN ?_ _ | refine blk_drew ?_ | refine blk_alloc ?_ _)); refine blk_far ?_ NB284_294.out _; (with_reducible repeat (first | refine blk_drewN ?_ _ | refine blk_drew ?_ | refine blk_alloc ?_ _)); refine blk_far ?_ NB284_294.out _; exact bk_ BK284) hb); have n3_ := Aside0.mk (blk_below (g := gb294) (o := .cells #[.int .i64 t291, .int .i64 t292, .int .i64 t293] 35 (0, 0)) (by (with_reducible repeat (first | refine blk_drewN ?_ _ | refine blk_drew ?_ | refine blk_alloc ?_ _)); refine blk_put (cs := #[.int .i64 t291, .int .i64 t292, .int .i64 0]) ?_ 2 _ rfl; (with_reducible repeat (first | refine blk_drewN ?_ _ | refine blk_drew ?_ | refine blk_alloc ?_ _)); refine blk_put (cs := #[.int .i64 t291, .int .i64 0, .int .i64 0]) ?_ 1 _ rfl; (with_reducible repeat (first | refine blk_drewN ?_ _ | refine blk_drew ?_ | refine blk_alloc ?_ _)); refine blk_put (cs := #[.int .i64 0, .int .i64 0, .int .i64 0]) ?_ 0 _ rfl; exact bk_ BK294) hb); have n4_ := Aside0.mk (below_step (by repeat (first | (with_reducible first | exact HB.out | apply below_alloc | apply pw_below_drewN | apply below_drew1 | refine below_set ?_ GE276.out | refine below_set ?_ GE283.out | refine below_set ?_ GE284.out | refine below_set ?_ GE294.out) | exact HB.out)) hb); clear BK276; clear BK283; clear BK284; clear BK294; clear HB; have BK276 := n0_; have BK283 := n1_; have BK284 := n2_; have BK294 := n3_; have HB := n4_; clear n0_ n1_ n2_ n3_ n4_; (try clear hb); (try clear hb2); (try clear hk); (try clear hi)))
    go_meet
    case rel => exact ⟨_, (true), (by first | rfl | (simp; done) | (simp [*]; done)), H', ⟨by first | omega | exact Nat.le_refl _⟩, ⟨bk_ BK276⟩, ⟨bk_ BK283⟩, ⟨bk_ BK284⟩, ⟨bk_ BK294⟩, ⟨by repeat (first | (with_reducible first | exact HB.out | apply below_alloc | apply pw_below_drewN | apply below_drew1 | refine below_set ?_ GE276.out | refine below_set ?_ GE283.out | refine below_set ?_ GE284.out | refine below_set ?_ GE294.out) | exact HB.out)⟩⟩
  case rest =>
   clear HC9
   try clear c1
   try clear c2
   try clear p2
   try clear c3
   try clear c4
   try clear c8
   try clear c16
   try clear c17
   try clear c18
   try clear c19
   try clear c27
   try clear c34
   try clear c36
   try clear c37
   try clear c38
   try clear c41
   try clear c42
   try clear c43
   try clear c44
   try clear c45
   try clear c46
   try clear c47
   try clear hcz12_0
   try clear hcz12_1
   try clear hcz12_2
   try clear hcz18_0
   try clear hcz18_1
   try clear hcz18_2
   try clear hcz20_0
   try clear hcz20_1
   try clear hcz20_2
   try clear hcz21_0
   try clear hcz21_1
   try clear hcz21_2
   try clear hcz23_0
   try clear hcz23_1
   try clear hcz23_2
   try clear hcz39_0
   try clear hcz39_1
   try clear hcz39_2
   try clear hcz43_0
   try clear hcz43_1
   try clear hcz43_2
   try clear hcz48_0
   try clear hcz48_1
   try clear hcz48_2
   try clear hfz12_0
   try clear hfz12_1
   try clear hfz12_2
   try clear hfz18_0
   try clear hfz18_1
   try clear hfz18_2
   try clear hfz20_0
   try clear hfz20_1
   try clear hfz20_2
   try clear hfz21_0
   try clear hfz21_1
   try clear hfz21_2
   try clear hfz23_0
   try clear hfz23_1
   try clear hfz23_2
   try clear hfz39_0
   try clear hfz39_1
   try clear hfz39_2
   try clear hfz43_0
   try clear hfz43_1
   try clear hfz43_2
   try clear hfz48_0
   try clear hfz48_1
   try clear hfz48_2
   obtain ⟨kq, x40_8, rfl, HA, HJ8, BK276, BK283, BK284, BK294, HB⟩ := hcut
   cases kq with
   | zero => exact absurd HA.out (by simp [laws_FnLowered.j0])
   | succ kj8 =>
    have H := HA.out
    clear HA
    simp only [laws_FnLowered.j0] at H
    by_cases c50 : x40_8 = true
    ·subst c50
     have H1 : (some true) = some r := by rw [if_pos rfl] at H; exact H
     clear H
     have H := H1
     clear H1
     obtain rfl := Option.some.inj H
     go_wp2
     go_ret
     exact ⟨by first | rfl | (simp [errW_none, errW_some] <;> rfl) | (simp [*, errW_none, errW_some] <;> rfl), by repeat (first | (with_reducible first | exact HB.out | apply below_alloc | apply pw_below_drewN | apply below_drew1 | refine below_set ?_ GE276.out | refine below_set ?_ GE283.out | refine below_set ?_ GE284.out | refine below_set ?_ GE294.out) | exact HB.out)⟩
    ·replace c50 := Bool.eq_false_iff.mpr c50
     subst c50
     have H1 : ((impl_BaseOf.f t285 t286 t287 t275).bind fun t297 => ((impl_Lower.f t285 t286 t287 t297).bind fun bt298 => ((impl_Lower.f t291 t292 t293 t297).bind fun bt302 => (laws_FnLowered.l0 kj8 t275 t297 0 t285 t286 t287 t291 t292 t293 bt298.1 bt298.2.1 bt298.2.2 bt302.1 bt302.2.1 bt302.2.2)))) = some r := by rw [if_neg (show ¬ (false = true) by decide)] at H; exact H
     clear H
     have H := H1
     clear H1
     replace H := Option.bind_eq_some_iff.mp H
     obtain ⟨t297, A510, H⟩ := H
     replace H : ((impl_Lower.f t285 t286 t287 t297).bind fun bt298 => ((impl_Lower.f t291 t292 t293 t297).bind fun bt302 => (laws_FnLowered.l0 kj8 t275 t297 0 t285 t286 t287 t291 t292 t293 bt298.1 bt298.2.1 bt298.2.2 bt302.1 bt302.2.1 bt302.2.2))) = some r := H
     have A51 := Aside0.mk A510
     clear A510
     replace H := Option.bind_eq_some_iff.mp H
     obtain ⟨⟨t298, t299, t300⟩, A520, H⟩ := H
     replace H : ((impl_Lower.f t291 t292 t293 t297).bind fun bt302 => (laws_FnLowered.l0 kj8 t275 t297 0 t285 t286 t287 t291 t292 t293 t298 t299 t300 bt302.1 bt302.2.1 bt302.2.2)) = some r := H
     have A52 := Aside0.mk A520
     clear A520
     replace H := Option.bind_eq_some_iff.mp H
     obtain ⟨⟨t302, t303, t304⟩, A530, H⟩ := H
     replace H : (laws_FnLowered.l0 kj8 t275 t297 0 t285 t286 t287 t291 t292 t293 t298 t299 t300 t302 t303 t304) = some r := H
     have A53 := Aside0.mk A530
     clear A530
     have H' := Aside0.mk H
     clear H
     have hnb54 := NB276_283.out
     have hnc54 := NB283_276.out
     have hnb55 := NB276_284.out
     have hnc55 := NB284_276.out
     have hnb56 := NB276_294.out
     have hnc56 := NB294_276.out
     have hcz57_0 : wc.cell? ⟨gb276, 0, none⟩ = some (.int .i64 t285) := (blk_cell BK276.out 0).trans rfl
     have hcz57_1 : wc.cell? ⟨gb276, 1, none⟩ = some (.int .i64 t286) := (blk_cell BK276.out 1).trans rfl
     have hcz57_2 : wc.cell? ⟨gb276, 2, none⟩ = some (.int .i64 t287) := (blk_cell BK276.out 2).trans rfl
     have hfz57_0 := blk_frozen BK276.out 0
     have hfz57_1 := blk_frozen BK276.out 1
     have hfz57_2 := blk_frozen BK276.out 2
     go_wp2_with (first | ((with_reducible refine gate_callee (f := 46) rfl ?_); refine goesL_ (some 43) rfl rfl Try.func46 (by kernel_rfl) rfl #[.agg #[.int .i64 t285, .int .i64 t286, .int .i64 t287], .int .i64 t275] rfl mt_ ?_; (with_reducible refine (impl_BaseOf.calls t285 t286 t287 t275 t297 _ A51.out).mono ?_); rintro e w58 ⟨rfl, hb⟩; refine ⟨_, rfl, ?_⟩; have n0_ := Aside0.mk (blk_below (g := gb276) (o := .cells #[.int .i64 t285, .int .i64 t286, .int .i64 t287] 35 (0, 0)) (bk_ BK276) hb); have n1_ := Aside0.mk (blk_below (g := gb283) (o := .cells #[.int .i64 t277, .int .i64 t278, .int .i64 t279] 35 (0, 0)) (bk_ BK283) hb); have n2_ := Aside0.mk (blk_below (g := gb284) (o := .cells #[.int .i64 t280, .int .i64 t281, .int .i64 t282] 35 (0, 0)) (bk_ BK284) hb); have n3_ := Aside0.mk (blk_below (g := gb294) (o := .cells #[.int .i64 t291, .int .i64 t292, .int .i64 t293] 35 (0, 0)) (bk_ BK294) hb); have n4_ := Aside0.mk (below_step (by repeat (first | (with_reducible first | exact HB.out | apply below_alloc | apply pw_below_drewN | apply below_drew1 | refine below_set ?_ GE276.out | refine below_set ?_ GE283.out | refine below_set ?_ GE284.out | refine below_set ?_ GE294.out) | exact HB.out)) hb); clear BK276; clear BK283; clear BK284; clear BK294; clear HB; have BK276 := n0_; have BK283 := n1_; have BK284 := n2_; have BK294 := n3_; have HB := n4_; clear n0_ n1_ n2_ n3_ n4_; (try clear hb); (try clear hb2); (try clear hk); (try clear hi); have hcz59_0 : w58.cell? ⟨gb276, 0, none⟩ = some (.int .i64 t285) := (blk_cell BK276.out 0).trans rfl; have hcz59_1 : w58.cell? ⟨gb276, 1, none⟩ = some (.int .i64 t286) := (blk_cell BK276.out 1).trans rfl; have hcz59_2 : w58.cell? ⟨gb276, 2, none⟩ = some (.int .i64 t287) := (blk_cell BK276.out 2).trans rfl; have hfz59_0 := blk_frozen BK276.out 0; have hfz59_1 := blk_frozen BK276.out 1; have hfz59_2 := blk_frozen BK276.out 2) | ((with_reducible refine gate_callee (f := 47) rfl ?_); refine goesL_ (some 46) rfl rfl Try.func47 (by kernel_rfl) rfl #[.agg #[.int .i64 t285, .int .i64 t286, .int .i64 t287], .int .i64 t297] rfl mt_ ?_; (with_reducible refine (impl_Lower.calls t285 t286 t287 t297 t298 t299 t300 _ A52.out).mono ?_); rintro e w60 ⟨rfl, hb⟩; refine ⟨_, rfl, ?_⟩; have n0_ := Aside0.mk (blk_below (g := gb276) (o := .cells #[.int .i64 t285, .int .i64 t286, .int .i64 t287] 35 (0, 0)) (bk_ BK276) hb); have n1_ := Aside0.mk (blk_below (g := gb283) (o := .cells #[.int .i64 t277, .int .i64 t278, .int .i64 t279] 35 (0, 0)) (bk_ BK283) hb); have n2_ := Aside0.mk (blk_below (g := gb284) (o := .cells #[.int .i64 t280, .int .i64 t281, .int .i64 t282] 35 (0, 0)) (bk_ BK284) hb); have n3_ := Aside0.mk (blk_below (g := gb294) (o := .cells #[.int .i64 t291, .int .i64 t292, .int .i64 t293] 35 (0, 0)) (bk_ BK294) hb); have n4_ := Aside0.mk (below_step (by repeat (first | (with_reducible first | exact HB.out | apply below_alloc | apply pw_below_drewN | apply below_drew1 | refine below_set ?_ GE276.out | refine below_set ?_ GE283.out | refine below_set ?_ GE284.out | refine below_set ?_ GE294.out) | exact HB.out)) hb); clear BK276; clear BK283; clear BK284; clear BK294; clear HB; have BK276 := n0_; have BK283 := n1_; have BK284 := n2_; have BK294 := n3_; have HB := n4_; clear n0_ n1_ n2_ n3_ n4_; (try clear hb); (try clear hb2); (try clear hk); (try clear hi)) | ((with_reducible refine gate_dst (N := 9) rfl ?_); refine box_event ?hg (N := 9) ?hd (cs := #[.int .i64 0, .int .i64 0, .int .i64 0]) (t := 35) ?hr ?_; (case hd => rfl); (case hg => rfl); (case hr => first | (go_simp; done) | (go_simp; rfl)); intro gb301 hg w61 hbox hb; have n0_ := Aside0.mk (blk_below (g := gb276) (o := .cells #[.int .i64 t285, .int .i64 t286, .int .i64 t287] 35 (0, 0)) (bk_ BK276) hb); have n1_ := Aside0.mk (blk_below (g := gb283) (o := .cells #[.int .i64 t277, .int .i64 t278, .int .i64 t279] 35 (0, 0)) (bk_ BK283) hb); have n2_ := Aside0.mk (blk_below (g := gb284) (o := .cells #[.int .i64 t280, .int .i64 t281, .int .i64 t282] 35 (0, 0)) (bk_ BK284) hb); have n3_ := Aside0.mk (blk_below (g := gb294) (o := .cells #[.int .i64 t291, .int .i64 t292, .int .i64 t293] 35 (0, 0)) (bk_ BK294) hb); have n4_ := Aside0.mk (below_step (by repeat (first | (with_reducible first | exact HB.out | apply below_alloc | apply pw_below_drewN | apply below_drew1 | refine below_set ?_ GE276.out | refine below_set ?_ GE283.out | refine below_set ?_ GE284.out | refine below_set ?_ GE294.out) | exact HB.out)) hb); have n5_ := Aside0.mk (hbox); have n6_ := Aside0.mk ((by rw [hg]; exact (below_size (by repeat (first | (with_reducible first | exact HB.out | apply below_alloc | apply pw_below_drewN | apply below_drew1 | refine below_set ?_ GE276.out | refine below_set ?_ GE283.out | refine below_set ?_ GE284.out | refine below_set ?_ GE294.out) | exact HB.out))) : w.heap.size ≤ gb301)); have n7_ := Aside0.mk ((by rw [hg]; exact (below_size (by repeat (first | (with_reducible first | exact HB.out | apply below_alloc | apply pw_below_drewN | apply below_drew1 | refine below_set ?_ GE276.out | refine below_set ?_ GE283.out | refine below_set ?_ GE284.out | refine below_set ?_ GE294.out) | exact HB.out))) : w.heap.size ≤ gb301)); have n8_ := Aside0.mk ((by rw [hg]; exact Nat.ne_of_lt (blk_lt (g := gb276) (o := .cells #[.int .i64 t285, .int .i64 t286, .int .i64 t287] 35 (0, 0)) (bk_ BK276)) : gb276 ≠ gb301)); have n9_ := Aside0.mk ((by rw [hg]; exact Nat.ne_of_gt (blk_lt (g := gb276) (o := .cells #[.int .i64 t285, .int .i64 t286, .int .i64 t287] 35 (0, 0)) (bk_ BK276)) : gb301 ≠ gb276)); have n10_ := Aside0.mk ((by rw [hg]; exact Nat.ne_of_lt (blk_lt (g := gb283) (o := .cells #[.int .i64 t277, .int .i64 t278, .int .i64 t279] 35 (0, 0)) (bk_ BK283)) : gb283 ≠ gb301)); have n11_ := Aside0.mk ((by rw [hg]; exact Nat.ne_of_gt (blk_lt (g := gb283) (o := .cells #[.int .i64 t277, .int .i64 t278, .int .i64 t279] 35 (0, 0)) (bk_ BK283)) : gb301 ≠ gb283)); have n12_ := Aside0.mk ((by rw [hg]; exact Nat.ne_of_lt (blk_lt (g := gb284) (o := .cells #[.int .i64 t280, .int .i64 t281, .int .i64 t282] 35 (0, 0)) (bk_ BK284)) : gb284 ≠ gb301)); have n13_ := Aside0.mk ((by rw [hg]; exact Nat.ne_of_gt (blk_lt (g := gb284) (o := .cells #[.int .i64 t280, .int .i64 t281, .int .i64 t282] 35 (0, 0)) (bk_ BK284)) : gb301 ≠ gb284)); have n14_ := Aside0.mk ((by rw [hg]; exact Nat.ne_of_lt (blk_lt (g := gb294) (o := .cells #[.int .i64 t291, .int .i64 t292, .int .i64 t293] 35 (0, 0)) (bk_ BK294)) : gb294 ≠ gb301)); have n15_ := Aside0.mk ((by rw [hg]; exact Nat.ne_of_gt (blk_lt (g := gb294) (o := .cells #[.int .i64 t291, .int .i64 t292, .int .i64 t293] 35 (0, 0)) (bk_ BK294)) : gb301 ≠ gb294)); clear BK276; clear BK283; clear BK284; clear BK294; clear HB; have BK276 := n0_; have BK283 := n1_; have BK284 := n2_; have BK294 := n3_; have HB := n4_; have BK301 := n5_; have GW301 := n6_; have GE301 := n7_; have NB276_301 := n8_; have NB301_276 := n9_; have NB283_301 := n10_; have NB301_283 := n11_; have NB284_301 := n12_; have NB301_284 := n13_; have NB294_301 := n14_; have NB301_294 := n15_; clear n0_ n1_ n2_ n3_ n4_ n5_ n6_ n7_ n8_ n9_ n10_ n11_ n12_ n13_ n14_ n15_; clear hb hbox hg; have hnb62 := NB301_276.out; have hnc62 := NB276_301.out; have hnb63 := NB301_283.out; have hnc63 := NB283_301.out; have hnb64 := NB301_284.out; have hnc64 := NB284_301.out; have hnb65 := NB301_294.out; have hnc65 := NB294_301.out; have hcz66_0 : w61.cell? ⟨gb301, 0, none⟩ = some (.int .i64 0) := (blk_cell BK301.out 0).trans rfl; have hcz66_1 : w61.cell? ⟨gb301, 1, none⟩ = some (.int .i64 0) := (blk_cell BK301.out 1).trans rfl; have hcz66_2 : w61.cell? ⟨gb301, 2, none⟩ = some (.int .i64 0) := (blk_cell BK301.out 2).trans rfl; have hfz66_0 := blk_frozen BK301.out 0; have hfz66_1 := blk_frozen BK301.out 1; have hfz66_2 := blk_frozen BK301.out 2; have hnb67 := NB294_283.out; have hnc67 := NB283_294.out; have hnb68 := NB294_284.out; have hnc68 := NB284_294.out; have hcz69_0 : w61.cell? ⟨gb294, 0, none⟩ = some (.int .i64 t291) := (blk_cell BK294.out 0).trans rfl; have hcz69_1 : w61.cell? ⟨gb294, 1, none⟩ = some (.int .i64 t292) := (blk_cell BK294.out 1).trans rfl; have hcz69_2 : w61.cell? ⟨gb294, 2, none⟩ = some (.int .i64 t293) := (blk_cell BK294.out 2).trans rfl; have hfz69_0 := blk_frozen BK294.out 0; have hfz69_1 := blk_frozen BK294.out 1; have hfz69_2 := blk_frozen BK294.out 2) | ((with_reducible refine gate_callee (f := 47) rfl ?_); refine goesL_ (some 49) rfl rfl Try.func47 (by kernel_rfl) rfl #[.agg #[.int .i64 t291, .int .i64 t292, .int .i64 t293], .int .i64 t297] rfl mt_ ?_; (with_reducible refine (impl_Lower.calls t291 t292 t293 t297 t302 t303 t304 _ A53.out).mono ?_); rintro e w70 ⟨rfl, hb⟩; refine ⟨_, rfl, ?_⟩; have n0_ := Aside0.mk (blk_below (g := gb276) (o := .cells #[.int .i64 t285, .int .i64 t286, .int .i64 t287] 35 (0, 0)) (by (with_reducible repeat (first | refine blk_drewN ?_ _ | refine blk_drew ?_ | refine blk_alloc ?_ _)); refine blk_far ?_ NB276_301.out _; (with_reducible repeat (first | refine blk_drewN ?_ _ | refine blk_drew ?_ | refine blk_alloc ?_ _)); refine blk_far ?_ NB276_301.out _; (with_reducible repeat (first | refine blk_drewN ?_ _ | refine blk_drew ?_ | refine blk_alloc ?_ _)); refine blk_far ?_ NB276_301.out _; exact bk_ BK276) hb); have n1_ := Aside0.mk (blk_below (g := gb283) (o := .cells #[.int .i64 t277, .int .i64 t278, .int .i64 t279] 35 (0, 0)) (by (with_reducible repeat (first | refine blk_drewN ?_ _ | refine blk_drew ?_ | refine blk_alloc ?_ _)); refine blk_far ?_ NB283_301.out _; (with_reducible repeat (first | refine blk_drewN ?_ _ | refine blk_drew ?_ | refine blk_alloc ?_ _)); refine blk_far ?_ NB283_301.out _; (with_reducible repeat (first | refine blk_drewN ?_ _ | refine blk_drew ?_ | refine blk_alloc ?_ _)); refine blk_far ?_ NB283_301.out _; exact bk_ BK283) hb); have n2_ := Aside0.mk (blk_below (g := gb284) (o := .cells #[.int .i64 t280, .int .i64 t281, .int .i64 t282] 35 (0, 0)) (by (with_reducible repeat (first | refine blk_drewN ?_ _ | refine blk_drew ?_ | refine blk_alloc ?_ _)); refine blk_far ?_ NB284_301.out _; (with_reducible repeat (first | refine blk_drewN ?_ _ | refine blk_drew ?_ | refine blk_alloc ?_ _)); refine blk_far ?_ NB284_301.out _; (with_reducible repeat (first | refine blk_drewN ?_ _ | refine blk_drew ?_ | refine blk_alloc ?_ _)); refine blk_far ?_ NB284_301.out _; exact bk_ BK284) hb); have n3_ := Aside0.mk (blk_below (g := gb294) (o := .cells #[.int .i64 t291, .int .i64 t292, .int .i64 t293] 35 (0, 0)) (by (with_reducible repeat (first | refine blk_drewN ?_ _ | refine blk_drew ?_ | refine blk_alloc ?_ _)); refine blk_far ?_ NB294_301.out _; (with_reducible repeat (first | refine blk_drewN ?_ _ | refine blk_drew ?_ | refine blk_alloc ?_ _)); refine blk_far ?_ NB294_301.out _; (with_reducible repeat (first | refine blk_drewN ?_ _ | refine blk_drew ?_ | refine blk_alloc ?_ _)); refine blk_far ?_ NB294_301.out _; exact bk_ BK294) hb); have n4_ := Aside0.mk (blk_below (g := gb301) (o := .cells #[.int .i64 t298, .int .i64 t299, .int .i64 t300] 35 (0, 0)) (by (with_reducible repeat (first | refine blk_drewN ?_ _ | refine blk_drew ?_ | refine blk_alloc ?_ _)); refine blk_put (cs := #[.int .i64 t298, .int .i64 t299, .int .i64 0]) ?_ 2 _ rfl; (with_reducible repeat (first | refine blk_drewN ?_ _ | refine blk_drew ?_ | refine blk_alloc ?_ _)); refine blk_put (cs := #[.int .i64 t298, .int .i64 0, .int .i64 0]) ?_ 1 _ rfl; (with_reducible repeat (first | refine blk_drewN ?_ _ | refine blk_drew ?_ | refine blk_alloc ?_ _)); refine blk_put (cs := #[.int .i64 0, .int .i64 0, .int .i64 0]) ?_ 0 _ rfl; exact bk_ BK301) hb); have n5_ := Aside0.mk (below_step (by repeat (first | (with_reducible first | exact HB.out | apply below_alloc | apply pw_below_drewN | apply below_drew1 | refine below_set ?_ GE276.out | refine below_set ?_ GE283.out | refine below_set ?_ GE284.out | refine below_set ?_ GE294.out | refine below_set ?_ GE301.out) | exact HB.out)) hb); clear BK276; clear BK283; clear BK284; clear BK294; clear BK301; clear HB; have BK276 := n0_; have BK283 := n1_; have BK284 := n2_; have BK294 := n3_; have BK301 := n4_; have HB := n5_; clear n0_ n1_ n2_ n3_ n4_ n5_; (try clear hb); (try clear hb2); (try clear hk); (try clear hi)) | ((with_reducible refine gate_dst (N := 10) rfl ?_); refine box_event ?hg (N := 10) ?hd (cs := #[.int .i64 0, .int .i64 0, .int .i64 0]) (t := 35) ?hr ?_; (case hd => rfl); (case hg => rfl); (case hr => first | (go_simp; done) | (go_simp; rfl)); intro gb305 hg w71 hbox hb; have n0_ := Aside0.mk (blk_below (g := gb276) (o := .cells #[.int .i64 t285, .int .i64 t286, .int .i64 t287] 35 (0, 0)) (bk_ BK276) hb); have n1_ := Aside0.mk (blk_below (g := gb283) (o := .cells #[.int .i64 t277, .int .i64 t278, .int .i64 t279] 35 (0, 0)) (bk_ BK283) hb); have n2_ := Aside0.mk (blk_below (g := gb284) (o := .cells #[.int .i64 t280, .int .i64 t281, .int .i64 t282] 35 (0, 0)) (bk_ BK284) hb); have n3_ := Aside0.mk (blk_below (g := gb294) (o := .cells #[.int .i64 t291, .int .i64 t292, .int .i64 t293] 35 (0, 0)) (bk_ BK294) hb); have n4_ := Aside0.mk (blk_below (g := gb301) (o := .cells #[.int .i64 t298, .int .i64 t299, .int .i64 t300] 35 (0, 0)) (bk_ BK301) hb); have n5_ := Aside0.mk (below_step (by repeat (first | (with_reducible first | exact HB.out | apply below_alloc | apply pw_below_drewN | apply below_drew1 | refine below_set ?_ GE276.out | refine below_set ?_ GE283.out | refine below_set ?_ GE284.out | refine below_set ?_ GE294.out | refine below_set ?_ GE301.out) | exact HB.out)) hb); have n6_ := Aside0.mk (hbox); have n7_ := Aside0.mk ((by rw [hg]; exact (below_size (by repeat (first | (with_reducible first | exact HB.out | apply below_alloc | apply pw_below_drewN | apply below_drew1 | refine below_set ?_ GE276.out | refine below_set ?_ GE283.out | refine below_set ?_ GE284.out | refine below_set ?_ GE294.out | refine below_set ?_ GE301.out) | exact HB.out))) : w.heap.size ≤ gb305)); have n8_ := Aside0.mk ((by rw [hg]; exact (below_size (by repeat (first | (with_reducible first | exact HB.out | apply below_alloc | apply pw_below_drewN | apply below_drew1 | refine below_set ?_ GE276.out | refine below_set ?_ GE283.out | refine below_set ?_ GE284.out | refine below_set ?_ GE294.out | refine below_set ?_ GE301.out) | exact HB.out))) : w.heap.size ≤ gb305)); have n9_ := Aside0.mk ((by rw [hg]; exact Nat.ne_of_lt (blk_lt (g := gb276) (o := .cells #[.int .i64 t285, .int .i64 t286, .int .i64 t287] 35 (0, 0)) (bk_ BK276)) : gb276 ≠ gb305)); have n10_ := Aside0.mk ((by rw [hg]; exact Nat.ne_of_gt (blk_lt (g := gb276) (o := .cells #[.int .i64 t285, .int .i64 t286, .int .i64 t287] 35 (0, 0)) (bk_ BK276)) : gb305 ≠ gb276)); have n11_ := Aside0.mk ((by rw [hg]; exact Nat.ne_of_lt (blk_lt (g := gb283) (o := .cells #[.int .i64 t277, .int .i64 t278, .int .i64 t279] 35 (0, 0)) (bk_ BK283)) : gb283 ≠ gb305)); have n12_ := Aside0.mk ((by rw [hg]; exact Nat.ne_of_gt (blk_lt (g := gb283) (o := .cells #[.int .i64 t277, .int .i64 t278, .int .i64 t279] 35 (0, 0)) (bk_ BK283)) : gb305 ≠ gb283)); have n13_ := Aside0.mk ((by rw [hg]; exact Nat.ne_of_lt (blk_lt (g := gb284) (o := .cells #[.int .i64 t280, .int .i64 t281, .int .i64 t282] 35 (0, 0)) (bk_ BK284)) : gb284 ≠ gb305)); have n14_ := Aside0.mk ((by rw [hg]; exact Nat.ne_of_gt (blk_lt (g := gb284) (o := .cells #[.int .i64 t280, .int .i64 t281, .int .i64 t282] 35 (0, 0)) (bk_ BK284)) : gb305 ≠ gb284)); have n15_ := Aside0.mk ((by rw [hg]; exact Nat.ne_of_lt (blk_lt (g := gb294) (o := .cells #[.int .i64 t291, .int .i64 t292, .int .i64 t293] 35 (0, 0)) (bk_ BK294)) : gb294 ≠ gb305)); have n16_ := Aside0.mk ((by rw [hg]; exact Nat.ne_of_gt (blk_lt (g := gb294) (o := .cells #[.int .i64 t291, .int .i64 t292, .int .i64 t293] 35 (0, 0)) (bk_ BK294)) : gb305 ≠ gb294)); have n17_ := Aside0.mk ((by rw [hg]; exact Nat.ne_of_lt (blk_lt (g := gb301) (o := .cells #[.int .i64 t298, .int .i64 t299, .int .i64 t300] 35 (0, 0)) (bk_ BK301)) : gb301 ≠ gb305)); have n18_ := Aside0.mk ((by rw [hg]; exact Nat.ne_of_gt (blk_lt (g := gb301) (o := .cells #[.int .i64 t298, .int .i64 t299, .int .i64 t300] 35 (0, 0)) (bk_ BK301)) : gb305 ≠ gb301)); clear BK276; clear BK283; clear BK284; clear BK294; clear BK301; clear HB; have BK276 := n0_; have BK283 := n1_; have BK284 := n2_; have BK294 := n3_; have BK301 := n4_; have HB := n5_; have BK305 := n6_; have GW305 := n7_; have GE305 := n8_; have NB276_305 := n9_; have NB305_276 := n10_; have NB283_305 := n11_; have NB305_283 := n12_; have NB284_305 := n13_; have NB305_284 := n14_; have NB294_305 := n15_; have NB305_294 := n16_; have NB301_305 := n17_; have NB305_301 := n18_; clear n0_ n1_ n2_ n3_ n4_ n5_ n6_ n7_ n8_ n9_ n10_ n11_ n12_ n13_ n14_ n15_ n16_ n17_ n18_; clear hb hbox hg; have hnb72 := NB305_276.out; have hnc72 := NB276_305.out; have hnb73 := NB305_283.out; have hnc73 := NB283_305.out; have hnb74 := NB305_284.out; have hnc74 := NB284_305.out; have hnb75 := NB305_294.out; have hnc75 := NB294_305.out; have hnb76 := NB305_301.out; have hnc76 := NB301_305.out; have hcz77_0 : w71.cell? ⟨gb305, 0, none⟩ = some (.int .i64 0) := (blk_cell BK305.out 0).trans rfl; have hcz77_1 : w71.cell? ⟨gb305, 1, none⟩ = some (.int .i64 0) := (blk_cell BK305.out 1).trans rfl; have hcz77_2 : w71.cell? ⟨gb305, 2, none⟩ = some (.int .i64 0) := (blk_cell BK305.out 2).trans rfl; have hfz77_0 := blk_frozen BK305.out 0; have hfz77_1 := blk_frozen BK305.out 1; have hfz77_2 := blk_frozen BK305.out 2))
     go_loopg [11] kj8 (fun kq v11 w' => ∃ (x11_2 : Int), v11 = .int .i64 x11_2 ∧ Aside0 (laws_FnLowered.l0 kq t275 t297 x11_2 t285 t286 t287 t291 t292 t293 t298 t299 t300 t302 t303 t304 = some r) ∧ Aside0 (kq ≤ kj8) ∧ Aside0 (w'.heap[gb276]? = some (.cells #[.int .i64 t285, .int .i64 t286, .int .i64 t287] 35 (0, 0))) ∧ Aside0 (w'.heap[gb283]? = some (.cells #[.int .i64 t277, .int .i64 t278, .int .i64 t279] 35 (0, 0))) ∧ Aside0 (w'.heap[gb284]? = some (.cells #[.int .i64 t280, .int .i64 t281, .int .i64 t282] 35 (0, 0))) ∧ Aside0 (w'.heap[gb294]? = some (.cells #[.int .i64 t291, .int .i64 t292, .int .i64 t293] 35 (0, 0))) ∧ Aside0 (w'.heap[gb301]? = some (.cells #[.int .i64 t298, .int .i64 t299, .int .i64 t300] 35 (0, 0))) ∧ Aside0 (w'.heap[gb305]? = some (.cells #[.int .i64 t302, .int .i64 t303, .int .i64 t304] 35 (0, 0))) ∧ Aside0 (Below w.heap.size w w'))
     case atStart => exact ⟨(0), (by first | rfl | (simp; done) | (simp [*]; done)), H', ⟨Nat.le_refl _⟩, ⟨by (with_reducible repeat (first | refine blk_drewN ?_ _ | refine blk_drew ?_ | refine blk_alloc ?_ _)); refine blk_far ?_ NB276_305.out _; (with_reducible repeat (first | refine blk_drewN ?_ _ | refine blk_drew ?_ | refine blk_alloc ?_ _)); refine blk_far ?_ NB276_305.out _; (with_reducible repeat (first | refine blk_drewN ?_ _ | refine blk_drew ?_ | refine blk_alloc ?_ _)); refine blk_far ?_ NB276_305.out _; exact bk_ BK276⟩, ⟨by (with_reducible repeat (first | refine blk_drewN ?_ _ | refine blk_drew ?_ | refine blk_alloc ?_ _)); refine blk_far ?_ NB283_305.out _; (with_reducible repeat (first | refine blk_drewN ?_ _ | refine blk_drew ?_ | refine blk_alloc ?_ _)); refine blk_far ?_ NB283_305.out _; (with_reducible repeat (first | refine blk_drewN ?_ _ | refine blk_drew ?_ | refine blk_alloc ?_ _)); refine blk_far ?_ NB283_305.out _; exact bk_ BK283⟩, ⟨by (with_reducible repeat (first | refine blk_drewN ?_ _ | refine blk_drew ?_ | refine blk_alloc ?_ _)); refine blk_far ?_ NB284_305.out _; (with_reducible repeat (first | refine blk_drewN ?_ _ | refine blk_drew ?_ | refine blk_alloc ?_ _)); refine blk_far ?_ NB284_305.out _; (with_reducible repeat (first | refine blk_drewN ?_ _ | refine blk_drew ?_ | refine blk_alloc ?_ _)); refine blk_far ?_ NB284_305.out _; exact bk_ BK284⟩, ⟨by (with_reducible repeat (first | refine blk_drewN ?_ _ | refine blk_drew ?_ | refine blk_alloc ?_ _)); refine blk_far ?_ NB294_305.out _; (with_reducible repeat (first | refine blk_drewN ?_ _ | refine blk_drew ?_ | refine blk_alloc ?_ _)); refine blk_far ?_ NB294_305.out _; (with_reducible repeat (first | refine blk_drewN ?_ _ | refine blk_drew ?_ | refine blk_alloc ?_ _)); refine blk_far ?_ NB294_305.out _; exact bk_ BK294⟩, ⟨by (with_reducible repeat (first | refine blk_drewN ?_ _ | refine blk_drew ?_ | refine blk_alloc ?_ _)); refine blk_far ?_ NB301_305.out _; (with_reducible repeat (first | refine blk_drewN ?_ _ | refine blk_drew ?_ | refine blk_alloc ?_ _)); refine blk_far ?_ NB301_305.out _; (with_reducible repeat (first | refine blk_drewN ?_ _ | refine blk_drew ?_ | refine blk_alloc ?_ _)); refine blk_far ?_ NB301_305.out _; exact bk_ BK301⟩, ⟨by (with_reducible repeat (first | refine blk_drewN ?_ _ | refine blk_drew ?_ | refine blk_alloc ?_ _)); refine blk_put (cs := #[.int .i64 t302, .int .i64 t303, .int .i64 0]) ?_ 2 _ rfl; (with_reducible repeat (first | refine blk_drewN ?_ _ | refine blk_drew ?_ | refine blk_alloc ?_ _)); refine blk_put (cs := #[.int .i64 t302, .int .i64 0, .int .i64 0]) ?_ 1 _ rfl; (with_reducible repeat (first | refine blk_drewN ?_ _ | refine blk_drew ?_ | refine blk_alloc ?_ _)); refine blk_put (cs := #[.int .i64 0, .int .i64 0, .int .i64 0]) ?_ 0 _ rfl; exact bk_ BK305⟩, ⟨by repeat (first | (with_reducible first | exact HB.out | apply below_alloc | apply pw_below_drewN | apply below_drew1 | refine below_set ?_ GE276.out | refine below_set ?_ GE283.out | refine below_set ?_ GE284.out | refine below_set ?_ GE294.out | refine below_set ?_ GE301.out | refine below_set ?_ GE305.out) | exact HB.out)⟩⟩
     case round =>
      clear H'
      try clear c1
      try clear c2
      try clear p2
      try clear c3
      try clear c4
      try clear c5
      try clear c6
      try clear c7
      try clear c8
      try clear c16
      try clear c17
      try clear c18
      try clear c19
      try clear c27
      try clear c34
      try clear c36
      try clear c37
      try clear c38
      try clear c41
      try clear c42
      try clear c43
      try clear c44
      try clear c45
      try clear c46
      try clear c47
      try clear c50
      try clear c54
      try clear c55
      try clear c56
      try clear c62
      try clear c63
      try clear c64
      try clear c65
      try clear c67
      try clear c68
      try clear c72
      try clear c73
      try clear c74
      try clear c75
      try clear c76
      try clear hcz12_0
      try clear hcz12_1
      try clear hcz12_2
      try clear hcz18_0
      try clear hcz18_1
      try clear hcz18_2
      try clear hcz20_0
      try clear hcz20_1
      try clear hcz20_2
      try clear hcz21_0
      try clear hcz21_1
      try clear hcz21_2
      try clear hcz23_0
      try clear hcz23_1
      try clear hcz23_2
      try clear hcz39_0
      try clear hcz39_1
      try clear hcz39_2
      try clear hcz43_0
      try clear hcz43_1
      try clear hcz43_2
      try clear hcz48_0
      try clear hcz48_1
      try clear hcz48_2
      try clear hcz57_0
      try clear hcz57_1
      try clear hcz57_2
      try clear hcz59_0
      try clear hcz59_1
      try clear hcz59_2
      try clear hcz66_0
      try clear hcz66_1
      try clear hcz66_2
      try clear hcz69_0
      try clear hcz69_1
      try clear hcz69_2
      try clear hcz77_0
      try clear hcz77_1
      try clear hcz77_2
      try clear hfz12_0
      try clear hfz12_1
      try clear hfz12_2
      try clear hfz18_0
      try clear hfz18_1
      try clear hfz18_2
      try clear hfz20_0
      try clear hfz20_1
      try clear hfz20_2
      try clear hfz21_0
      try clear hfz21_1
      try clear hfz21_2
      try clear hfz23_0
      try clear hfz23_1
      try clear hfz23_2
      try clear hfz39_0
      try clear hfz39_1
      try clear hfz39_2
      try clear hfz43_0
      try clear hfz43_1
      try clear hfz43_2
      try clear hfz48_0
      try clear hfz48_1
      try clear hfz48_2
      try clear hfz57_0
      try clear hfz57_1
      try clear hfz57_2
      try clear hfz59_0
      try clear hfz59_1
      try clear hfz59_2
      try clear hfz66_0
      try clear hfz66_1
      try clear hfz66_2
      try clear hfz69_0
      try clear hfz69_1
      try clear hfz69_2
      try clear hfz77_0
      try clear hfz77_1
      try clear hfz77_2
      try clear p2
      obtain ⟨x11_2, rfl, HA, HK2, BK276, BK283, BK284, BK294, BK301, BK305, HB⟩ := hrel
      cases gk with
      | zero => exact absurd HA.out (by simp [laws_FnLowered.l0])
      | succ k2 =>
       have H := HA.out
       clear HA
       simp only [laws_FnLowered.l0] at H
       by_cases c78 : x11_2 < 3
       ·rw [if_pos c78] at H
        have c78b0 : decide (x11_2 < 3) = true := decide_eq_true c78
        clear c78
        replace H := Option.bind_eq_some_iff.mp H
        obtain ⟨t308, A790, H⟩ := H
        replace H : ((laws_vec.f t298 t299 t300 x11_2).bind fun t309 => ((laws_vec.f t291 t292 t293 x11_2).bind fun t310 => ((laws_vec.f t285 t286 t287 x11_2).bind fun t311 => (if (wrap64 (t308 - t309)) = (wrap64 (t310 - t311)) then ((laws_vec.f t298 t299 t300 x11_2).bind fun t312 => ((laws_vec.f t285 t286 t287 x11_2).bind fun t313 => (if t312 = (wrap64 (t313 - t297)) then (laws_FnLowered.l0 k2 t275 t297 (wrap64 (x11_2 + 1)) t285 t286 t287 t291 t292 t293 t298 t299 t300 t302 t303 t304) else (some false)))) else (some false))))) = some r := H
        have A79 := Aside0.mk A790
        clear A790
        replace H := Option.bind_eq_some_iff.mp H
        obtain ⟨t309, A800, H⟩ := H
        replace H : ((laws_vec.f t291 t292 t293 x11_2).bind fun t310 => ((laws_vec.f t285 t286 t287 x11_2).bind fun t311 => (if (wrap64 (t308 - t309)) = (wrap64 (t310 - t311)) then ((laws_vec.f t298 t299 t300 x11_2).bind fun t312 => ((laws_vec.f t285 t286 t287 x11_2).bind fun t313 => (if t312 = (wrap64 (t313 - t297)) then (laws_FnLowered.l0 k2 t275 t297 (wrap64 (x11_2 + 1)) t285 t286 t287 t291 t292 t293 t298 t299 t300 t302 t303 t304) else (some false)))) else (some false)))) = some r := H
        have A80 := Aside0.mk A800
        clear A800
        replace H := Option.bind_eq_some_iff.mp H
        obtain ⟨t310, A810, H⟩ := H
        replace H : ((laws_vec.f t285 t286 t287 x11_2).bind fun t311 => (if (wrap64 (t308 - t309)) = (wrap64 (t310 - t311)) then ((laws_vec.f t298 t299 t300 x11_2).bind fun t312 => ((laws_vec.f t285 t286 t287 x11_2).bind fun t313 => (if t312 = (wrap64 (t313 - t297)) then (laws_FnLowered.l0 k2 t275 t297 (wrap64 (x11_2 + 1)) t285 t286 t287 t291 t292 t293 t298 t299 t300 t302 t303 t304) else (some false)))) else (some false))) = some r := H
        have A81 := Aside0.mk A810
        clear A810
        replace H := Option.bind_eq_some_iff.mp H
        obtain ⟨t311, A820, H⟩ := H
        replace H : (if (wrap64 (t308 - t309)) = (wrap64 (t310 - t311)) then ((laws_vec.f t298 t299 t300 x11_2).bind fun t312 => ((laws_vec.f t285 t286 t287 x11_2).bind fun t313 => (if t312 = (wrap64 (t313 - t297)) then (laws_FnLowered.l0 k2 t275 t297 (wrap64 (x11_2 + 1)) t285 t286 t287 t291 t292 t293 t298 t299 t300 t302 t303 t304) else (some false)))) else (some false)) = some r := H
        have A82 := Aside0.mk A820
        clear A820
        by_cases c83 : (wrap64 (t308 - t309)) = (wrap64 (t310 - t311))
        ·rw [if_pos c83] at H
         have c83b0 : ((wrap64 (t308 - t309)) == (wrap64 (t310 - t311))) = true := beq_iff_eq.mpr c83
         have c83b1 : ((wrap64 (t308 - t309)) != (wrap64 (t310 - t311))) = false := bne_eq_false_iff_eq.mpr c83
         clear c83
         replace H := Option.bind_eq_some_iff.mp H
         obtain ⟨t312, A840, H⟩ := H
         replace H : ((laws_vec.f t285 t286 t287 x11_2).bind fun t313 => (if t312 = (wrap64 (t313 - t297)) then (laws_FnLowered.l0 k2 t275 t297 (wrap64 (x11_2 + 1)) t285 t286 t287 t291 t292 t293 t298 t299 t300 t302 t303 t304) else (some false))) = some r := H
         have A84 := Aside0.mk A840
         clear A840
         replace H := Option.bind_eq_some_iff.mp H
         obtain ⟨t313, A850, H⟩ := H
         replace H : (if t312 = (wrap64 (t313 - t297)) then (laws_FnLowered.l0 k2 t275 t297 (wrap64 (x11_2 + 1)) t285 t286 t287 t291 t292 t293 t298 t299 t300 t302 t303 t304) else (some false)) = some r := H
         have A85 := Aside0.mk A850
         clear A850
         by_cases c86 : t312 = (wrap64 (t313 - t297))
         ·rw [if_pos c86] at H
          have c86b0 : (t312 == (wrap64 (t313 - t297))) = true := beq_iff_eq.mpr c86
          have c86b1 : (t312 != (wrap64 (t313 - t297))) = false := bne_eq_false_iff_eq.mpr c86
          clear c86
          have H' := Aside0.mk H
          clear H
          try go_wp2
          have n0_ := Aside0.mk (blk_drew BK276.out)
          have n1_ := Aside0.mk (blk_drew BK283.out)
          have n2_ := Aside0.mk (blk_drew BK284.out)
          have n3_ := Aside0.mk (blk_drew BK294.out)
          have n4_ := Aside0.mk (blk_drew BK301.out)
          have n5_ := Aside0.mk (blk_drew BK305.out)
          have n6_ := Aside0.mk (below_drew1 HB.out)
          clear BK276
          clear BK283
          clear BK284
          clear BK294
          clear BK301
          clear BK305
          clear HB
          have BK276 := n0_
          have BK283 := n1_
          have BK284 := n2_
          have BK294 := n3_
          have BK301 := n4_
          have BK305 := n5_
          have HB := n6_
          clear n0_ n1_ n2_ n3_ n4_ n5_ n6_
          refine start_ (n := 26) (S := fun w' => w'.cell? ⟨gb305, 0, none⟩ = some (.int .i64 t302) ∧ w'.cell? ⟨gb305, 1, none⟩ = some (.int .i64 t303) ∧ w'.cell? ⟨gb305, 2, none⟩ = some (.int .i64 t304) ∧ w'.cell? ⟨gb301, 0, none⟩ = some (.int .i64 t298) ∧ w'.cell? ⟨gb301, 1, none⟩ = some (.int .i64 t299) ∧ w'.cell? ⟨gb301, 2, none⟩ = some (.int .i64 t300) ∧ w'.cell? ⟨gb294, 0, none⟩ = some (.int .i64 t291) ∧ w'.cell? ⟨gb294, 1, none⟩ = some (.int .i64 t292) ∧ w'.cell? ⟨gb294, 2, none⟩ = some (.int .i64 t293) ∧ w'.cell? ⟨gb276, 0, none⟩ = some (.int .i64 t285) ∧ w'.cell? ⟨gb276, 1, none⟩ = some (.int .i64 t286) ∧ w'.cell? ⟨gb276, 2, none⟩ = some (.int .i64 t287)) (ds := []) (bs 26 0) (by kernel_rfl) rfl rfl ⟨(blk_cell BK305.out 0).trans rfl, (blk_cell BK305.out 1).trans rfl, (blk_cell BK305.out 2).trans rfl, (blk_cell BK301.out 0).trans rfl, (blk_cell BK301.out 1).trans rfl, (blk_cell BK301.out 2).trans rfl, (blk_cell BK294.out 0).trans rfl, (blk_cell BK294.out 1).trans rfl, (blk_cell BK294.out 2).trans rfl, (blk_cell BK276.out 0).trans rfl, (blk_cell BK276.out 1).trans rfl, (blk_cell BK276.out 2).trans rfl⟩ (fun hHeld => ?_); refine with_tabW laws_FnLowered.tab15 laws_FnLowered.bits15 (fun HT_ HW_ => ?_)
          generalize wr.drew = w87 at BK276 BK283 BK284 BK294 BK301 BK305 HB hHeld ⊢
          refine pure_s (i := 1) (N := some 55) #[oF,oT,oF,oF,oF,oF,oF,oF,oF,oF,oF,oF,oF,oF,oF,oF,oF,oF,oF,oF,oF,oF,oF,oF,oF,oF] (any_of HT_.out (by kernel_rfl)) (h := ?_)
          refine pure_s (i := 4) (N := some 58) #[oF,oT,oF,oF,oT,oF,oF,oF,oF,oF,oF,oF,oF,oF,oF,oF,oF,oF,oF,oF,oF,oF,oF,oF,oF,oF] (any_of HT_.out (by kernel_rfl)) (h := ?_)
          refine pure_s (i := 8) (N := some 62) #[oF,oT,oF,oF,oT,oF,oF,oF,oT,oF,oF,oF,oF,oF,oF,oF,oF,oF,oF,oF,oF,oF,oF,oF,oF,oF] (any_of HT_.out (by kernel_rfl)) (h := ?_)
          refine pure_s (i := 11) (N := some 65) #[oF,oT,oF,oF,oT,oF,oF,oF,oT,oF,oF,oT,oF,oF,oF,oF,oF,oF,oF,oF,oF,oF,oF,oF,oF,oF] (any_of HT_.out (by kernel_rfl)) (h := ?_)
          refine take_ (i := 0) (N := some 54) (v := ?_) (a' := ?_) #[oT,oT,oF,oF,oT,oF,oF,oF,oT,oF,oF,oT,oF,oF,oF,oF,oF,oF,oF,oF,oF,oF,oF,oF,oF,oF] rfl rfl (take_ofW HT_.out HW_.out (by kernel_rfl)) (fun _ _ _ h => h) (Or.inl ⟨by rfl, ?_⟩) hHeld ?_ ?_
          rotate_left
          ·rintro w' ⟨s0, s1, s2, s3, s4, s5, s6, s7, s8, s9, s10, s11⟩
           go_simp
           with_reducible rfl
          rotate_left
          ·simp only [Act.put, List.setIfInBounds_toArray, List.set_cons_zero, List.set_cons_succ, i64_w, i32_w]
           rfl
          refine take_ (i := 3) (N := some 57) (v := ?_) (a' := ?_) #[oT,oT,oF,oT,oT,oF,oF,oF,oT,oF,oF,oT,oF,oF,oF,oF,oF,oF,oF,oF,oF,oF,oF,oF,oF,oF] rfl rfl (take_ofW HT_.out HW_.out (by kernel_rfl)) (fun _ _ _ h => h) (Or.inl ⟨by rfl, ?_⟩) hHeld ?_ ?_
          rotate_left
          ·rintro w' ⟨s0, s1, s2, s3, s4, s5, s6, s7, s8, s9, s10, s11⟩
           go_simp
           with_reducible rfl
          rotate_left
          ·simp only [Act.put, List.setIfInBounds_toArray, List.set_cons_zero, List.set_cons_succ, i64_w, i32_w]
           rfl
          refine take_ (i := 7) (N := some 61) (v := ?_) (a' := ?_) #[oT,oT,oF,oT,oT,oF,oF,oT,oT,oF,oF,oT,oF,oF,oF,oF,oF,oF,oF,oF,oF,oF,oF,oF,oF,oF] rfl rfl (take_ofW HT_.out HW_.out (by kernel_rfl)) (fun _ _ _ h => h) (Or.inl ⟨by rfl, ?_⟩) hHeld ?_ ?_
          rotate_left
          ·rintro w' ⟨s0, s1, s2, s3, s4, s5, s6, s7, s8, s9, s10, s11⟩
           go_simp
           with_reducible rfl
          rotate_left
          ·simp only [Act.put, List.setIfInBounds_toArray, List.set_cons_zero, List.set_cons_succ, i64_w, i32_w]
           rfl
          refine take_ (i := 10) (N := some 64) (v := ?_) (a' := ?_) #[oT,oT,oF,oT,oT,oF,oF,oT,oT,oF,oT,oT,oF,oF,oF,oF,oF,oF,oF,oF,oF,oF,oF,oF,oF,oF] rfl rfl (take_ofW HT_.out HW_.out (by kernel_rfl)) (fun _ _ _ h => h) (Or.inl ⟨by rfl, ?_⟩) hHeld ?_ ?_
          rotate_left
          ·rintro w' ⟨s0, s1, s2, s3, s4, s5, s6, s7, s8, s9, s10, s11⟩
           go_simp
           with_reducible rfl
          rotate_left
          ·simp only [Act.put, List.setIfInBounds_toArray, List.set_cons_zero, List.set_cons_succ, i64_w, i32_w]
           rfl
          refine one_ (i := 2) (N := some 56) #[oT,oT,oT,oT,oT,oF,oF,oT,oT,oF,oT,oT,oF,oF,oF,oF,oF,oF,oF,oF,oF,oF,oF,oF,oF,oF] rfl rfl (one_of HT_.out (by kernel_rfl)) (by decide) (fun K hK => ?_)
          refine goes_ Try.func35 (by kernel_rfl) rfl #[.agg #[.int .i64 t302, .int .i64 t303, .int .i64 t304], .int .i64 x11_2] (by rfl) rfl rfl mt_ ?_
          with_reducible refine (laws_vec.calls t302 t303 t304 x11_2 t308 _ A79.out).mono ?_
          rintro e w88 ⟨rfl, hb⟩
          refine ⟨_, rfl, ?_⟩
          have n0_ := Aside0.mk (blk_below (g := gb276) (o := .cells #[.int .i64 t285, .int .i64 t286, .int .i64 t287] 35 (0, 0)) (bk_ BK276) hb)
          have n1_ := Aside0.mk (blk_below (g := gb283) (o := .cells #[.int .i64 t277, .int .i64 t278, .int .i64 t279] 35 (0, 0)) (bk_ BK283) hb)
          have n2_ := Aside0.mk (blk_below (g := gb284) (o := .cells #[.int .i64 t280, .int .i64 t281, .int .i64 t282] 35 (0, 0)) (bk_ BK284) hb)
          have n3_ := Aside0.mk (blk_below (g := gb294) (o := .cells #[.int .i64 t291, .int .i64 t292, .int .i64 t293] 35 (0, 0)) (bk_ BK294) hb)
          have n4_ := Aside0.mk (blk_below (g := gb301) (o := .cells #[.int .i64 t298, .int .i64 t299, .int .i64 t300] 35 (0, 0)) (bk_ BK301) hb)
          have n5_ := Aside0.mk (blk_below (g := gb305) (o := .cells #[.int .i64 t302, .int .i64 t303, .int .i64 t304] 35 (0, 0)) (bk_ BK305) hb)
          have n6_ := Aside0.mk (below_step (by repeat (first | (with_reducible first | exact HB.out | apply below_alloc | apply pw_below_drewN | apply below_drew1 | refine below_set ?_ GE276.out | refine below_set ?_ GE283.out | refine below_set ?_ GE284.out | refine below_set ?_ GE294.out | refine below_set ?_ GE301.out | refine below_set ?_ GE305.out) | exact HB.out)) hb)
          clear BK276
          clear BK283
          clear BK284
          clear BK294
          clear BK301
          clear BK305
          clear HB
          have BK276 := n0_
          have BK283 := n1_
          have BK284 := n2_
          have BK294 := n3_
          have BK301 := n4_
          have BK305 := n5_
          have HB := n6_
          clear n0_ n1_ n2_ n3_ n4_ n5_ n6_
          (try clear hb)
          (try clear hb2)
          (try clear hk)
          (try clear hi)
          refine hK.out _ _ ⟨(blk_cell BK305.out 0).trans rfl, (blk_cell BK305.out 1).trans rfl, (blk_cell BK305.out 2).trans rfl, (blk_cell BK301.out 0).trans rfl, (blk_cell BK301.out 1).trans rfl, (blk_cell BK301.out 2).trans rfl, (blk_cell BK294.out 0).trans rfl, (blk_cell BK294.out 1).trans rfl, (blk_cell BK294.out 2).trans rfl, (blk_cell BK276.out 0).trans rfl, (blk_cell BK276.out 1).trans rfl, (blk_cell BK276.out 2).trans rfl⟩ (fun hHeld => ?_)
          clear hK K
          refine norm_ (a' := ?_) ?_ ?_
          rotate_left
          ·show Act.put _ (some 56) _ = _
           simp only [Act.put, List.setIfInBounds_toArray, List.set_cons_zero, List.set_cons_succ, i64_w, i32_w]
           rfl
          refine one_ (i := 5) (N := some 59) #[oT,oT,oT,oT,oT,oT,oF,oT,oT,oF,oT,oT,oF,oF,oF,oF,oF,oF,oF,oF,oF,oF,oF,oF,oF,oF] rfl rfl (one_of HT_.out (by kernel_rfl)) (by decide) (fun K hK => ?_)
          refine goes_ Try.func35 (by kernel_rfl) rfl #[.agg #[.int .i64 t298, .int .i64 t299, .int .i64 t300], .int .i64 x11_2] (by rfl) rfl rfl mt_ ?_
          with_reducible refine (laws_vec.calls t298 t299 t300 x11_2 t309 _ A80.out).mono ?_
          rintro e w89 ⟨rfl, hb⟩
          refine ⟨_, rfl, ?_⟩
          have n0_ := Aside0.mk (blk_below (g := gb276) (o := .cells #[.int .i64 t285, .int .i64 t286, .int .i64 t287] 35 (0, 0)) (bk_ BK276) hb)
          have n1_ := Aside0.mk (blk_below (g := gb283) (o := .cells #[.int .i64 t277, .int .i64 t278, .int .i64 t279] 35 (0, 0)) (bk_ BK283) hb)
          have n2_ := Aside0.mk (blk_below (g := gb284) (o := .cells #[.int .i64 t280, .int .i64 t281, .int .i64 t282] 35 (0, 0)) (bk_ BK284) hb)
          have n3_ := Aside0.mk (blk_below (g := gb294) (o := .cells #[.int .i64 t291, .int .i64 t292, .int .i64 t293] 35 (0, 0)) (bk_ BK294) hb)
          have n4_ := Aside0.mk (blk_below (g := gb301) (o := .cells #[.int .i64 t298, .int .i64 t299, .int .i64 t300] 35 (0, 0)) (bk_ BK301) hb)
          have n5_ := Aside0.mk (blk_below (g := gb305) (o := .cells #[.int .i64 t302, .int .i64 t303, .int .i64 t304] 35 (0, 0)) (bk_ BK305) hb)
          have n6_ := Aside0.mk (below_step (by repeat (first | (with_reducible first | exact HB.out | apply below_alloc | apply pw_below_drewN | apply below_drew1 | refine below_set ?_ GE276.out | refine below_set ?_ GE283.out | refine below_set ?_ GE284.out | refine below_set ?_ GE294.out | refine below_set ?_ GE301.out | refine below_set ?_ GE305.out) | exact HB.out)) hb)
          clear BK276
          clear BK283
          clear BK284
          clear BK294
          clear BK301
          clear BK305
          clear HB
          have BK276 := n0_
          have BK283 := n1_
          have BK284 := n2_
          have BK294 := n3_
          have BK301 := n4_
          have BK305 := n5_
          have HB := n6_
          clear n0_ n1_ n2_ n3_ n4_ n5_ n6_
          (try clear hb)
          (try clear hb2)
          (try clear hk)
          (try clear hi)
          refine hK.out _ _ ⟨(blk_cell BK305.out 0).trans rfl, (blk_cell BK305.out 1).trans rfl, (blk_cell BK305.out 2).trans rfl, (blk_cell BK301.out 0).trans rfl, (blk_cell BK301.out 1).trans rfl, (blk_cell BK301.out 2).trans rfl, (blk_cell BK294.out 0).trans rfl, (blk_cell BK294.out 1).trans rfl, (blk_cell BK294.out 2).trans rfl, (blk_cell BK276.out 0).trans rfl, (blk_cell BK276.out 1).trans rfl, (blk_cell BK276.out 2).trans rfl⟩ (fun hHeld => ?_)
          clear hK K
          refine norm_ (a' := ?_) ?_ ?_
          rotate_left
          ·show Act.put _ (some 59) _ = _
           simp only [Act.put, List.setIfInBounds_toArray, List.set_cons_zero, List.set_cons_succ, i64_w, i32_w]
           rfl
          refine pure_s (i := 6) (N := some 60) #[oT,oT,oT,oT,oT,oT,oT,oT,oT,oF,oT,oT,oF,oF,oF,oF,oF,oF,oF,oF,oF,oF,oF,oF,oF,oF] (any_of HT_.out (by kernel_rfl)) (h := ?_)
          refine one_ (i := 9) (N := some 63) (bs 26 12) rfl rfl (one_of HT_.out (by kernel_rfl)) (by decide) (fun K hK => ?_)
          refine goes_ Try.func35 (by kernel_rfl) rfl #[.agg #[.int .i64 t291, .int .i64 t292, .int .i64 t293], .int .i64 x11_2] (by rfl) rfl rfl mt_ ?_
          with_reducible refine (laws_vec.calls t291 t292 t293 x11_2 t310 _ A81.out).mono ?_
          rintro e w90 ⟨rfl, hb⟩
          refine ⟨_, rfl, ?_⟩
          have n0_ := Aside0.mk (blk_below (g := gb276) (o := .cells #[.int .i64 t285, .int .i64 t286, .int .i64 t287] 35 (0, 0)) (bk_ BK276) hb)
          have n1_ := Aside0.mk (blk_below (g := gb283) (o := .cells #[.int .i64 t277, .int .i64 t278, .int .i64 t279] 35 (0, 0)) (bk_ BK283) hb)
          have n2_ := Aside0.mk (blk_below (g := gb284) (o := .cells #[.int .i64 t280, .int .i64 t281, .int .i64 t282] 35 (0, 0)) (bk_ BK284) hb)
          have n3_ := Aside0.mk (blk_below (g := gb294) (o := .cells #[.int .i64 t291, .int .i64 t292, .int .i64 t293] 35 (0, 0)) (bk_ BK294) hb)
          have n4_ := Aside0.mk (blk_below (g := gb301) (o := .cells #[.int .i64 t298, .int .i64 t299, .int .i64 t300] 35 (0, 0)) (bk_ BK301) hb)
          have n5_ := Aside0.mk (blk_below (g := gb305) (o := .cells #[.int .i64 t302, .int .i64 t303, .int .i64 t304] 35 (0, 0)) (bk_ BK305) hb)
          have n6_ := Aside0.mk (below_step (by repeat (first | (with_reducible first | exact HB.out | apply below_alloc | apply pw_below_drewN | apply below_drew1 | refine below_set ?_ GE276.out | refine below_set ?_ GE283.out | refine below_set ?_ GE284.out | refine below_set ?_ GE294.out | refine below_set ?_ GE301.out | refine below_set ?_ GE305.out) | exact HB.out)) hb)
          clear BK276
          clear BK283
          clear BK284
          clear BK294
          clear BK301
          clear BK305
          clear HB
          have BK276 := n0_
          have BK283 := n1_
          have BK284 := n2_
          have BK294 := n3_
          have BK301 := n4_
          have BK305 := n5_
          have HB := n6_
          clear n0_ n1_ n2_ n3_ n4_ n5_ n6_
          (try clear hb)
          (try clear hb2)
          (try clear hk)
          (try clear hi)
          refine hK.out _ _ ⟨(blk_cell BK305.out 0).trans rfl, (blk_cell BK305.out 1).trans rfl, (blk_cell BK305.out 2).trans rfl, (blk_cell BK301.out 0).trans rfl, (blk_cell BK301.out 1).trans rfl, (blk_cell BK301.out 2).trans rfl, (blk_cell BK294.out 0).trans rfl, (blk_cell BK294.out 1).trans rfl, (blk_cell BK294.out 2).trans rfl, (blk_cell BK276.out 0).trans rfl, (blk_cell BK276.out 1).trans rfl, (blk_cell BK276.out 2).trans rfl⟩ (fun hHeld => ?_)
          clear hK K
          refine norm_ (a' := ?_) ?_ ?_
          rotate_left
          ·show Act.put _ (some 63) _ = _
           simp only [Act.put, List.setIfInBounds_toArray, List.set_cons_zero, List.set_cons_succ, i64_w, i32_w]
           rfl
          refine one_ (i := 12) (N := some 66) (bs 26 13) rfl rfl (one_of HT_.out (by kernel_rfl)) (by decide) (fun K hK => ?_)
          refine goes_ Try.func35 (by kernel_rfl) rfl #[.agg #[.int .i64 t285, .int .i64 t286, .int .i64 t287], .int .i64 x11_2] (by rfl) rfl rfl mt_ ?_
          with_reducible refine (laws_vec.calls t285 t286 t287 x11_2 t311 _ A82.out).mono ?_
          rintro e w91 ⟨rfl, hb⟩
          refine ⟨_, rfl, ?_⟩
          have n0_ := Aside0.mk (blk_below (g := gb276) (o := .cells #[.int .i64 t285, .int .i64 t286, .int .i64 t287] 35 (0, 0)) (bk_ BK276) hb)
          have n1_ := Aside0.mk (blk_below (g := gb283) (o := .cells #[.int .i64 t277, .int .i64 t278, .int .i64 t279] 35 (0, 0)) (bk_ BK283) hb)
          have n2_ := Aside0.mk (blk_below (g := gb284) (o := .cells #[.int .i64 t280, .int .i64 t281, .int .i64 t282] 35 (0, 0)) (bk_ BK284) hb)
          have n3_ := Aside0.mk (blk_below (g := gb294) (o := .cells #[.int .i64 t291, .int .i64 t292, .int .i64 t293] 35 (0, 0)) (bk_ BK294) hb)
          have n4_ := Aside0.mk (blk_below (g := gb301) (o := .cells #[.int .i64 t298, .int .i64 t299, .int .i64 t300] 35 (0, 0)) (bk_ BK301) hb)
          have n5_ := Aside0.mk (blk_below (g := gb305) (o := .cells #[.int .i64 t302, .int .i64 t303, .int .i64 t304] 35 (0, 0)) (bk_ BK305) hb)
          have n6_ := Aside0.mk (below_step (by repeat (first | (with_reducible first | exact HB.out | apply below_alloc | apply pw_below_drewN | apply below_drew1 | refine below_set ?_ GE276.out | refine below_set ?_ GE283.out | refine below_set ?_ GE284.out | refine below_set ?_ GE294.out | refine below_set ?_ GE301.out | refine below_set ?_ GE305.out) | exact HB.out)) hb)
          clear BK276
          clear BK283
          clear BK284
          clear BK294
          clear BK301
          clear BK305
          clear HB
          have BK276 := n0_
          have BK283 := n1_
          have BK284 := n2_
          have BK294 := n3_
          have BK301 := n4_
          have BK305 := n5_
          have HB := n6_
          clear n0_ n1_ n2_ n3_ n4_ n5_ n6_
          (try clear hb)
          (try clear hb2)
          (try clear hk)
          (try clear hi)
          refine hK.out _ _ ⟨(blk_cell BK305.out 0).trans rfl, (blk_cell BK305.out 1).trans rfl, (blk_cell BK305.out 2).trans rfl, (blk_cell BK301.out 0).trans rfl, (blk_cell BK301.out 1).trans rfl, (blk_cell BK301.out 2).trans rfl, (blk_cell BK294.out 0).trans rfl, (blk_cell BK294.out 1).trans rfl, (blk_cell BK294.out 2).trans rfl, (blk_cell BK276.out 0).trans rfl, (blk_cell BK276.out 1).trans rfl, (blk_cell BK276.out 2).trans rfl⟩ (fun hHeld => ?_)
          clear hK K
          refine norm_ (a' := ?_) ?_ ?_
          rotate_left
          ·show Act.put _ (some 66) _ = _
           simp only [Act.put, List.setIfInBounds_toArray, List.set_cons_zero, List.set_cons_succ, i64_w, i32_w]
           rfl
          refine pure_s (i := 13) (N := some 67) (bs 26 14) (any_of HT_.out (by kernel_rfl)) (h := ?_)
          refine pure_s (i := 14) (N := some 68) (bs 26 15) (any_of HT_.out (by kernel_rfl)) (h := ?_)
          refine pure_s (i := 15) (N := some 69) (bs 26 16) (any_of HT_.out (by kernel_rfl)) (h := ?_)
          refine pure_s (i := 17) (N := some 71) #[oT,oT,oT,oT,oT,oT,oT,oT,oT,oT,oT,oT,oT,oT,oT,oT,oF,oT,oF,oF,oF,oF,oF,oF,oF,oF] (any_of HT_.out (by kernel_rfl)) (h := ?_)
          refine pure_s (i := 20) (N := some 74) #[oT,oT,oT,oT,oT,oT,oT,oT,oT,oT,oT,oT,oT,oT,oT,oT,oF,oT,oF,oF,oT,oF,oF,oF,oF,oF] (any_of HT_.out (by kernel_rfl)) (h := ?_)
          refine pure_s (i := 22) (N := some 76) #[oT,oT,oT,oT,oT,oT,oT,oT,oT,oT,oT,oT,oT,oT,oT,oT,oF,oT,oF,oF,oT,oF,oT,oF,oF,oF] (any_of HT_.out (by kernel_rfl)) (h := ?_)
          refine take_ (i := 16) (N := some 70) (v := ?_) (a' := ?_) #[oT,oT,oT,oT,oT,oT,oT,oT,oT,oT,oT,oT,oT,oT,oT,oT,oT,oT,oF,oF,oT,oF,oT,oF,oF,oF] rfl rfl (take_ofW HT_.out HW_.out (by kernel_rfl)) (fun _ _ _ h => h) (Or.inl ⟨by rfl, ?_⟩) hHeld ?_ ?_
          rotate_left
          ·rintro w' ⟨s0, s1, s2, s3, s4, s5, s6, s7, s8, s9, s10, s11⟩
           go_simp
           with_reducible rfl
          rotate_left
          ·simp only [Act.put, List.setIfInBounds_toArray, List.set_cons_zero, List.set_cons_succ, i64_w, i32_w]
           rfl
          refine take_ (i := 19) (N := some 73) (v := ?_) (a' := ?_) #[oT,oT,oT,oT,oT,oT,oT,oT,oT,oT,oT,oT,oT,oT,oT,oT,oT,oT,oF,oT,oT,oF,oT,oF,oF,oF] rfl rfl (take_ofW HT_.out HW_.out (by kernel_rfl)) (fun _ _ _ h => h) (Or.inl ⟨by rfl, ?_⟩) hHeld ?_ ?_
          rotate_left
          ·rintro w' ⟨s0, s1, s2, s3, s4, s5, s6, s7, s8, s9, s10, s11⟩
           go_simp
           with_reducible rfl
          rotate_left
          ·simp only [Act.put, List.setIfInBounds_toArray, List.set_cons_zero, List.set_cons_succ, i64_w, i32_w]
           rfl
          refine one_ (i := 18) (N := some 72) #[oT,oT,oT,oT,oT,oT,oT,oT,oT,oT,oT,oT,oT,oT,oT,oT,oT,oT,oT,oT,oT,oF,oT,oF,oF,oF] rfl rfl (one_of HT_.out (by kernel_rfl)) (by decide) (fun K hK => ?_)
          refine goes_ Try.func35 (by kernel_rfl) rfl #[.agg #[.int .i64 t298, .int .i64 t299, .int .i64 t300], .int .i64 x11_2] (by rfl) rfl rfl mt_ ?_
          with_reducible refine (laws_vec.calls t298 t299 t300 x11_2 t312 _ A84.out).mono ?_
          rintro e w92 ⟨rfl, hb⟩
          refine ⟨_, rfl, ?_⟩
          have n0_ := Aside0.mk (blk_below (g := gb276) (o := .cells #[.int .i64 t285, .int .i64 t286, .int .i64 t287] 35 (0, 0)) (bk_ BK276) hb)
          have n1_ := Aside0.mk (blk_below (g := gb283) (o := .cells #[.int .i64 t277, .int .i64 t278, .int .i64 t279] 35 (0, 0)) (bk_ BK283) hb)
          have n2_ := Aside0.mk (blk_below (g := gb284) (o := .cells #[.int .i64 t280, .int .i64 t281, .int .i64 t282] 35 (0, 0)) (bk_ BK284) hb)
          have n3_ := Aside0.mk (blk_below (g := gb294) (o := .cells #[.int .i64 t291, .int .i64 t292, .int .i64 t293] 35 (0, 0)) (bk_ BK294) hb)
          have n4_ := Aside0.mk (blk_below (g := gb301) (o := .cells #[.int .i64 t298, .int .i64 t299, .int .i64 t300] 35 (0, 0)) (bk_ BK301) hb)
          have n5_ := Aside0.mk (blk_below (g := gb305) (o := .cells #[.int .i64 t302, .int .i64 t303, .int .i64 t304] 35 (0, 0)) (bk_ BK305) hb)
          have n6_ := Aside0.mk (below_step (by repeat (first | (with_reducible first | exact HB.out | apply below_alloc | apply pw_below_drewN | apply below_drew1 | refine below_set ?_ GE276.out | refine below_set ?_ GE283.out | refine below_set ?_ GE284.out | refine below_set ?_ GE294.out | refine below_set ?_ GE301.out | refine below_set ?_ GE305.out) | exact HB.out)) hb)
          clear BK276
          clear BK283
          clear BK284
          clear BK294
          clear BK301
          clear BK305
          clear HB
          have BK276 := n0_
          have BK283 := n1_
          have BK284 := n2_
          have BK294 := n3_
          have BK301 := n4_
          have BK305 := n5_
          have HB := n6_
          clear n0_ n1_ n2_ n3_ n4_ n5_ n6_
          (try clear hb)
          (try clear hb2)
          (try clear hk)
          (try clear hi)
          refine hK.out _ _ ⟨(blk_cell BK305.out 0).trans rfl, (blk_cell BK305.out 1).trans rfl, (blk_cell BK305.out 2).trans rfl, (blk_cell BK301.out 0).trans rfl, (blk_cell BK301.out 1).trans rfl, (blk_cell BK301.out 2).trans rfl, (blk_cell BK294.out 0).trans rfl, (blk_cell BK294.out 1).trans rfl, (blk_cell BK294.out 2).trans rfl, (blk_cell BK276.out 0).trans rfl, (blk_cell BK276.out 1).trans rfl, (blk_cell BK276.out 2).trans rfl⟩ (fun hHeld => ?_)
          clear hK K
          refine norm_ (a' := ?_) ?_ ?_
          rotate_left
          ·show Act.put _ (some 72) _ = _
           simp only [Act.put, List.setIfInBounds_toArray, List.set_cons_zero, List.set_cons_succ, i64_w, i32_w]
           rfl
          refine one_ (i := 21) (N := some 75) (bs 26 23) rfl rfl (one_of HT_.out (by kernel_rfl)) (by decide) (fun K hK => ?_)
          refine goes_ Try.func35 (by kernel_rfl) rfl #[.agg #[.int .i64 t285, .int .i64 t286, .int .i64 t287], .int .i64 x11_2] (by rfl) rfl rfl mt_ ?_
          with_reducible refine (laws_vec.calls t285 t286 t287 x11_2 t313 _ A85.out).mono ?_
          rintro e w93 ⟨rfl, hb⟩
          refine ⟨_, rfl, ?_⟩
          have n0_ := Aside0.mk (blk_below (g := gb276) (o := .cells #[.int .i64 t285, .int .i64 t286, .int .i64 t287] 35 (0, 0)) (bk_ BK276) hb)
          have n1_ := Aside0.mk (blk_below (g := gb283) (o := .cells #[.int .i64 t277, .int .i64 t278, .int .i64 t279] 35 (0, 0)) (bk_ BK283) hb)
          have n2_ := Aside0.mk (blk_below (g := gb284) (o := .cells #[.int .i64 t280, .int .i64 t281, .int .i64 t282] 35 (0, 0)) (bk_ BK284) hb)
          have n3_ := Aside0.mk (blk_below (g := gb294) (o := .cells #[.int .i64 t291, .int .i64 t292, .int .i64 t293] 35 (0, 0)) (bk_ BK294) hb)
          have n4_ := Aside0.mk (blk_below (g := gb301) (o := .cells #[.int .i64 t298, .int .i64 t299, .int .i64 t300] 35 (0, 0)) (bk_ BK301) hb)
          have n5_ := Aside0.mk (blk_below (g := gb305) (o := .cells #[.int .i64 t302, .int .i64 t303, .int .i64 t304] 35 (0, 0)) (bk_ BK305) hb)
          have n6_ := Aside0.mk (below_step (by repeat (first | (with_reducible first | exact HB.out | apply below_alloc | apply pw_below_drewN | apply below_drew1 | refine below_set ?_ GE276.out | refine below_set ?_ GE283.out | refine below_set ?_ GE284.out | refine below_set ?_ GE294.out | refine below_set ?_ GE301.out | refine below_set ?_ GE305.out) | exact HB.out)) hb)
          clear BK276
          clear BK283
          clear BK284
          clear BK294
          clear BK301
          clear BK305
          clear HB
          have BK276 := n0_
          have BK283 := n1_
          have BK284 := n2_
          have BK294 := n3_
          have BK301 := n4_
          have BK305 := n5_
          have HB := n6_
          clear n0_ n1_ n2_ n3_ n4_ n5_ n6_
          (try clear hb)
          (try clear hb2)
          (try clear hk)
          (try clear hi)
          refine hK.out _ _ ⟨(blk_cell BK305.out 0).trans rfl, (blk_cell BK305.out 1).trans rfl, (blk_cell BK305.out 2).trans rfl, (blk_cell BK301.out 0).trans rfl, (blk_cell BK301.out 1).trans rfl, (blk_cell BK301.out 2).trans rfl, (blk_cell BK294.out 0).trans rfl, (blk_cell BK294.out 1).trans rfl, (blk_cell BK294.out 2).trans rfl, (blk_cell BK276.out 0).trans rfl, (blk_cell BK276.out 1).trans rfl, (blk_cell BK276.out 2).trans rfl⟩ (fun hHeld => ?_)
          clear hK K
          refine norm_ (a' := ?_) ?_ ?_
          rotate_left
          ·show Act.put _ (some 75) _ = _
           simp only [Act.put, List.setIfInBounds_toArray, List.set_cons_zero, List.set_cons_succ, i64_w, i32_w]
           rfl
          refine pure_s (i := 23) (N := some 77) (bs 26 24) (any_of HT_.out (by kernel_rfl)) (h := ?_)
          refine pure_s (i := 24) (N := some 78) (bs 26 25) (any_of HT_.out (by kernel_rfl)) (h := ?_)
          refine pure_s (i := 25) (N := some 79) (bs 26 26) (any_of HT_.out (by kernel_rfl)) (h := ?_)
          refine done_ (done_of HT_.out (by kernel_rfl)) ?_
          try go_wp2
          go_roundg k2
          case measure => have := HJ8.out; have := HK2.out; omega
          case rel => exact ⟨(wrap64 (x11_2 + 1)), (by first | rfl | (simp; done) | (simp [*]; done)), H', ⟨by have := HJ8.out; have := HK2.out; omega⟩, ⟨bk_ BK276⟩, ⟨bk_ BK283⟩, ⟨bk_ BK284⟩, ⟨bk_ BK294⟩, ⟨bk_ BK301⟩, ⟨bk_ BK305⟩, ⟨by repeat (first | (with_reducible first | exact HB.out | apply below_alloc | apply pw_below_drewN | apply below_drew1 | refine below_set ?_ GE276.out | refine below_set ?_ GE283.out | refine below_set ?_ GE284.out | refine below_set ?_ GE294.out | refine below_set ?_ GE301.out | refine below_set ?_ GE305.out) | exact HB.out)⟩⟩
         ·rw [if_neg c86] at H
          have c86b0 : (t312 == (wrap64 (t313 - t297))) = false := beq_eq_false_iff_ne.mpr c86
          have c86b1 : (t312 != (wrap64 (t313 - t297))) = true := bne_iff_ne.mpr c86
          obtain rfl := Option.some.inj H
          try go_wp2
          have n0_ := Aside0.mk (blk_drew BK276.out)
          have n1_ := Aside0.mk (blk_drew BK283.out)
          have n2_ := Aside0.mk (blk_drew BK284.out)
          have n3_ := Aside0.mk (blk_drew BK294.out)
          have n4_ := Aside0.mk (blk_drew BK301.out)
          have n5_ := Aside0.mk (blk_drew BK305.out)
          have n6_ := Aside0.mk (below_drew1 HB.out)
          clear BK276
          clear BK283
          clear BK284
          clear BK294
          clear BK301
          clear BK305
          clear HB
          have BK276 := n0_
          have BK283 := n1_
          have BK284 := n2_
          have BK294 := n3_
          have BK301 := n4_
          have BK305 := n5_
          have HB := n6_
          clear n0_ n1_ n2_ n3_ n4_ n5_ n6_
          refine start_ (n := 26) (S := fun w' => w'.cell? ⟨gb305, 0, none⟩ = some (.int .i64 t302) ∧ w'.cell? ⟨gb305, 1, none⟩ = some (.int .i64 t303) ∧ w'.cell? ⟨gb305, 2, none⟩ = some (.int .i64 t304) ∧ w'.cell? ⟨gb301, 0, none⟩ = some (.int .i64 t298) ∧ w'.cell? ⟨gb301, 1, none⟩ = some (.int .i64 t299) ∧ w'.cell? ⟨gb301, 2, none⟩ = some (.int .i64 t300) ∧ w'.cell? ⟨gb294, 0, none⟩ = some (.int .i64 t291) ∧ w'.cell? ⟨gb294, 1, none⟩ = some (.int .i64 t292) ∧ w'.cell? ⟨gb294, 2, none⟩ = some (.int .i64 t293) ∧ w'.cell? ⟨gb276, 0, none⟩ = some (.int .i64 t285) ∧ w'.cell? ⟨gb276, 1, none⟩ = some (.int .i64 t286) ∧ w'.cell? ⟨gb276, 2, none⟩ = some (.int .i64 t287)) (ds := []) (bs 26 0) (by kernel_rfl) rfl rfl ⟨(blk_cell BK305.out 0).trans rfl, (blk_cell BK305.out 1).trans rfl, (blk_cell BK305.out 2).trans rfl, (blk_cell BK301.out 0).trans rfl, (blk_cell BK301.out 1).trans rfl, (blk_cell BK301.out 2).trans rfl, (blk_cell BK294.out 0).trans rfl, (blk_cell BK294.out 1).trans rfl, (blk_cell BK294.out 2).trans rfl, (blk_cell BK276.out 0).trans rfl, (blk_cell BK276.out 1).trans rfl, (blk_cell BK276.out 2).trans rfl⟩ (fun hHeld => ?_); refine with_tabW laws_FnLowered.tab15 laws_FnLowered.bits15 (fun HT_ HW_ => ?_)
          generalize wr.drew = w94 at BK276 BK283 BK284 BK294 BK301 BK305 HB hHeld ⊢
          refine pure_s (i := 1) (N := some 55) #[oF,oT,oF,oF,oF,oF,oF,oF,oF,oF,oF,oF,oF,oF,oF,oF,oF,oF,oF,oF,oF,oF,oF,oF,oF,oF] (any_of HT_.out (by kernel_rfl)) (h := ?_)
          refine pure_s (i := 4) (N := some 58) #[oF,oT,oF,oF,oT,oF,oF,oF,oF,oF,oF,oF,oF,oF,oF,oF,oF,oF,oF,oF,oF,oF,oF,oF,oF,oF] (any_of HT_.out (by kernel_rfl)) (h := ?_)
          refine pure_s (i := 8) (N := some 62) #[oF,oT,oF,oF,oT,oF,oF,oF,oT,oF,oF,oF,oF,oF,oF,oF,oF,oF,oF,oF,oF,oF,oF,oF,oF,oF] (any_of HT_.out (by kernel_rfl)) (h := ?_)
          refine pure_s (i := 11) (N := some 65) #[oF,oT,oF,oF,oT,oF,oF,oF,oT,oF,oF,oT,oF,oF,oF,oF,oF,oF,oF,oF,oF,oF,oF,oF,oF,oF] (any_of HT_.out (by kernel_rfl)) (h := ?_)
          refine take_ (i := 0) (N := some 54) (v := ?_) (a' := ?_) #[oT,oT,oF,oF,oT,oF,oF,oF,oT,oF,oF,oT,oF,oF,oF,oF,oF,oF,oF,oF,oF,oF,oF,oF,oF,oF] rfl rfl (take_ofW HT_.out HW_.out (by kernel_rfl)) (fun _ _ _ h => h) (Or.inl ⟨by rfl, ?_⟩) hHeld ?_ ?_
          rotate_left
          ·rintro w' ⟨s0, s1, s2, s3, s4, s5, s6, s7, s8, s9, s10, s11⟩
           go_simp
           with_reducible rfl
          rotate_left
          ·simp only [Act.put, List.setIfInBounds_toArray, List.set_cons_zero, List.set_cons_succ, i64_w, i32_w]
           rfl
          refine take_ (i := 3) (N := some 57) (v := ?_) (a' := ?_) #[oT,oT,oF,oT,oT,oF,oF,oF,oT,oF,oF,oT,oF,oF,oF,oF,oF,oF,oF,oF,oF,oF,oF,oF,oF,oF] rfl rfl (take_ofW HT_.out HW_.out (by kernel_rfl)) (fun _ _ _ h => h) (Or.inl ⟨by rfl, ?_⟩) hHeld ?_ ?_
          rotate_left
          ·rintro w' ⟨s0, s1, s2, s3, s4, s5, s6, s7, s8, s9, s10, s11⟩
           go_simp
           with_reducible rfl
          rotate_left
          ·simp only [Act.put, List.setIfInBounds_toArray, List.set_cons_zero, List.set_cons_succ, i64_w, i32_w]
           rfl
          refine take_ (i := 7) (N := some 61) (v := ?_) (a' := ?_) #[oT,oT,oF,oT,oT,oF,oF,oT,oT,oF,oF,oT,oF,oF,oF,oF,oF,oF,oF,oF,oF,oF,oF,oF,oF,oF] rfl rfl (take_ofW HT_.out HW_.out (by kernel_rfl)) (fun _ _ _ h => h) (Or.inl ⟨by rfl, ?_⟩) hHeld ?_ ?_
          rotate_left
          ·rintro w' ⟨s0, s1, s2, s3, s4, s5, s6, s7, s8, s9, s10, s11⟩
           go_simp
           with_reducible rfl
          rotate_left
          ·simp only [Act.put, List.setIfInBounds_toArray, List.set_cons_zero, List.set_cons_succ, i64_w, i32_w]
           rfl
          refine take_ (i := 10) (N := some 64) (v := ?_) (a' := ?_) #[oT,oT,oF,oT,oT,oF,oF,oT,oT,oF,oT,oT,oF,oF,oF,oF,oF,oF,oF,oF,oF,oF,oF,oF,oF,oF] rfl rfl (take_ofW HT_.out HW_.out (by kernel_rfl)) (fun _ _ _ h => h) (Or.inl ⟨by rfl, ?_⟩) hHeld ?_ ?_
          rotate_left
          ·rintro w' ⟨s0, s1, s2, s3, s4, s5, s6, s7, s8, s9, s10, s11⟩
           go_simp
           with_reducible rfl
          rotate_left
          ·simp only [Act.put, List.setIfInBounds_toArray, List.set_cons_zero, List.set_cons_succ, i64_w, i32_w]
           rfl
          refine one_ (i := 2) (N := some 56) #[oT,oT,oT,oT,oT,oF,oF,oT,oT,oF,oT,oT,oF,oF,oF,oF,oF,oF,oF,oF,oF,oF,oF,oF,oF,oF] rfl rfl (one_of HT_.out (by kernel_rfl)) (by decide) (fun K hK => ?_)
          refine goes_ Try.func35 (by kernel_rfl) rfl #[.agg #[.int .i64 t302, .int .i64 t303, .int .i64 t304], .int .i64 x11_2] (by rfl) rfl rfl mt_ ?_
          with_reducible refine (laws_vec.calls t302 t303 t304 x11_2 t308 _ A79.out).mono ?_
          rintro e w95 ⟨rfl, hb⟩
          refine ⟨_, rfl, ?_⟩
          have n0_ := Aside0.mk (blk_below (g := gb276) (o := .cells #[.int .i64 t285, .int .i64 t286, .int .i64 t287] 35 (0, 0)) (bk_ BK276) hb)
          have n1_ := Aside0.mk (blk_below (g := gb283) (o := .cells #[.int .i64 t277, .int .i64 t278, .int .i64 t279] 35 (0, 0)) (bk_ BK283) hb)
          have n2_ := Aside0.mk (blk_below (g := gb284) (o := .cells #[.int .i64 t280, .int .i64 t281, .int .i64 t282] 35 (0, 0)) (bk_ BK284) hb)
          have n3_ := Aside0.mk (blk_below (g := gb294) (o := .cells #[.int .i64 t291, .int .i64 t292, .int .i64 t293] 35 (0, 0)) (bk_ BK294) hb)
          have n4_ := Aside0.mk (blk_below (g := gb301) (o := .cells #[.int .i64 t298, .int .i64 t299, .int .i64 t300] 35 (0, 0)) (bk_ BK301) hb)
          have n5_ := Aside0.mk (blk_below (g := gb305) (o := .cells #[.int .i64 t302, .int .i64 t303, .int .i64 t304] 35 (0, 0)) (bk_ BK305) hb)
          have n6_ := Aside0.mk (below_step (by repeat (first | (with_reducible first | exact HB.out | apply below_alloc | apply pw_below_drewN | apply below_drew1 | refine below_set ?_ GE276.out | refine below_set ?_ GE283.out | refine below_set ?_ GE284.out | refine below_set ?_ GE294.out | refine below_set ?_ GE301.out | refine below_set ?_ GE305.out) | exact HB.out)) hb)
          clear BK276
          clear BK283
          clear BK284
          clear BK294
          clear BK301
          clear BK305
          clear HB
          have BK276 := n0_
          have BK283 := n1_
          have BK284 := n2_
          have BK294 := n3_
          have BK301 := n4_
          have BK305 := n5_
          have HB := n6_
          clear n0_ n1_ n2_ n3_ n4_ n5_ n6_
          (try clear hb)
          (try clear hb2)
          (try clear hk)
          (try clear hi)
          refine hK.out _ _ ⟨(blk_cell BK305.out 0).trans rfl, (blk_cell BK305.out 1).trans rfl, (blk_cell BK305.out 2).trans rfl, (blk_cell BK301.out 0).trans rfl, (blk_cell BK301.out 1).trans rfl, (blk_cell BK301.out 2).trans rfl, (blk_cell BK294.out 0).trans rfl, (blk_cell BK294.out 1).trans rfl, (blk_cell BK294.out 2).trans rfl, (blk_cell BK276.out 0).trans rfl, (blk_cell BK276.out 1).trans rfl, (blk_cell BK276.out 2).trans rfl⟩ (fun hHeld => ?_)
          clear hK K
          refine norm_ (a' := ?_) ?_ ?_
          rotate_left
          ·show Act.put _ (some 56) _ = _
           simp only [Act.put, List.setIfInBounds_toArray, List.set_cons_zero, List.set_cons_succ, i64_w, i32_w]
           rfl
          refine one_ (i := 5) (N := some 59) #[oT,oT,oT,oT,oT,oT,oF,oT,oT,oF,oT,oT,oF,oF,oF,oF,oF,oF,oF,oF,oF,oF,oF,oF,oF,oF] rfl rfl (one_of HT_.out (by kernel_rfl)) (by decide) (fun K hK => ?_)
          refine goes_ Try.func35 (by kernel_rfl) rfl #[.agg #[.int .i64 t298, .int .i64 t299, .int .i64 t300], .int .i64 x11_2] (by rfl) rfl rfl mt_ ?_
          with_reducible refine (laws_vec.calls t298 t299 t300 x11_2 t309 _ A80.out).mono ?_
          rintro e w96 ⟨rfl, hb⟩
          refine ⟨_, rfl, ?_⟩
          have n0_ := Aside0.mk (blk_below (g := gb276) (o := .cells #[.int .i64 t285, .int .i64 t286, .int .i64 t287] 35 (0, 0)) (bk_ BK276) hb)
          have n1_ := Aside0.mk (blk_below (g := gb283) (o := .cells #[.int .i64 t277, .int .i64 t278, .int .i64 t279] 35 (0, 0)) (bk_ BK283) hb)
          have n2_ := Aside0.mk (blk_below (g := gb284) (o := .cells #[.int .i64 t280, .int .i64 t281, .int .i64 t282] 35 (0, 0)) (bk_ BK284) hb)
          have n3_ := Aside0.mk (blk_below (g := gb294) (o := .cells #[.int .i64 t291, .int .i64 t292, .int .i64 t293] 35 (0, 0)) (bk_ BK294) hb)
          have n4_ := Aside0.mk (blk_below (g := gb301) (o := .cells #[.int .i64 t298, .int .i64 t299, .int .i64 t300] 35 (0, 0)) (bk_ BK301) hb)
          have n5_ := Aside0.mk (blk_below (g := gb305) (o := .cells #[.int .i64 t302, .int .i64 t303, .int .i64 t304] 35 (0, 0)) (bk_ BK305) hb)
          have n6_ := Aside0.mk (below_step (by repeat (first | (with_reducible first | exact HB.out | apply below_alloc | apply pw_below_drewN | apply below_drew1 | refine below_set ?_ GE276.out | refine below_set ?_ GE283.out | refine below_set ?_ GE284.out | refine below_set ?_ GE294.out | refine below_set ?_ GE301.out | refine below_set ?_ GE305.out) | exact HB.out)) hb)
          clear BK276
          clear BK283
          clear BK284
          clear BK294
          clear BK301
          clear BK305
          clear HB
          have BK276 := n0_
          have BK283 := n1_
          have BK284 := n2_
          have BK294 := n3_
          have BK301 := n4_
          have BK305 := n5_
          have HB := n6_
          clear n0_ n1_ n2_ n3_ n4_ n5_ n6_
          (try clear hb)
          (try clear hb2)
          (try clear hk)
          (try clear hi)
          refine hK.out _ _ ⟨(blk_cell BK305.out 0).trans rfl, (blk_cell BK305.out 1).trans rfl, (blk_cell BK305.out 2).trans rfl, (blk_cell BK301.out 0).trans rfl, (blk_cell BK301.out 1).trans rfl, (blk_cell BK301.out 2).trans rfl, (blk_cell BK294.out 0).trans rfl, (blk_cell BK294.out 1).trans rfl, (blk_cell BK294.out 2).trans rfl, (blk_cell BK276.out 0).trans rfl, (blk_cell BK276.out 1).trans rfl, (blk_cell BK276.out 2).trans rfl⟩ (fun hHeld => ?_)
          clear hK K
          refine norm_ (a' := ?_) ?_ ?_
          rotate_left
          ·show Act.put _ (some 59) _ = _
           simp only [Act.put, List.setIfInBounds_toArray, List.set_cons_zero, List.set_cons_succ, i64_w, i32_w]
           rfl
          refine pure_s (i := 6) (N := some 60) #[oT,oT,oT,oT,oT,oT,oT,oT,oT,oF,oT,oT,oF,oF,oF,oF,oF,oF,oF,oF,oF,oF,oF,oF,oF,oF] (any_of HT_.out (by kernel_rfl)) (h := ?_)
          refine one_ (i := 9) (N := some 63) (bs 26 12) rfl rfl (one_of HT_.out (by kernel_rfl)) (by decide) (fun K hK => ?_)
          refine goes_ Try.func35 (by kernel_rfl) rfl #[.agg #[.int .i64 t291, .int .i64 t292, .int .i64 t293], .int .i64 x11_2] (by rfl) rfl rfl mt_ ?_
          with_reducible refine (laws_vec.calls t291 t292 t293 x11_2 t310 _ A81.out).mono ?_
          rintro e w97 ⟨rfl, hb⟩
          refine ⟨_, rfl, ?_⟩
          have n0_ := Aside0.mk (blk_below (g := gb276) (o := .cells #[.int .i64 t285, .int .i64 t286, .int .i64 t287] 35 (0, 0)) (bk_ BK276) hb)
          have n1_ := Aside0.mk (blk_below (g := gb283) (o := .cells #[.int .i64 t277, .int .i64 t278, .int .i64 t279] 35 (0, 0)) (bk_ BK283) hb)
          have n2_ := Aside0.mk (blk_below (g := gb284) (o := .cells #[.int .i64 t280, .int .i64 t281, .int .i64 t282] 35 (0, 0)) (bk_ BK284) hb)
          have n3_ := Aside0.mk (blk_below (g := gb294) (o := .cells #[.int .i64 t291, .int .i64 t292, .int .i64 t293] 35 (0, 0)) (bk_ BK294) hb)
          have n4_ := Aside0.mk (blk_below (g := gb301) (o := .cells #[.int .i64 t298, .int .i64 t299, .int .i64 t300] 35 (0, 0)) (bk_ BK301) hb)
          have n5_ := Aside0.mk (blk_below (g := gb305) (o := .cells #[.int .i64 t302, .int .i64 t303, .int .i64 t304] 35 (0, 0)) (bk_ BK305) hb)
          have n6_ := Aside0.mk (below_step (by repeat (first | (with_reducible first | exact HB.out | apply below_alloc | apply pw_below_drewN | apply below_drew1 | refine below_set ?_ GE276.out | refine below_set ?_ GE283.out | refine below_set ?_ GE284.out | refine below_set ?_ GE294.out | refine below_set ?_ GE301.out | refine below_set ?_ GE305.out) | exact HB.out)) hb)
          clear BK276
          clear BK283
          clear BK284
          clear BK294
          clear BK301
          clear BK305
          clear HB
          have BK276 := n0_
          have BK283 := n1_
          have BK284 := n2_
          have BK294 := n3_
          have BK301 := n4_
          have BK305 := n5_
          have HB := n6_
          clear n0_ n1_ n2_ n3_ n4_ n5_ n6_
          (try clear hb)
          (try clear hb2)
          (try clear hk)
          (try clear hi)
          refine hK.out _ _ ⟨(blk_cell BK305.out 0).trans rfl, (blk_cell BK305.out 1).trans rfl, (blk_cell BK305.out 2).trans rfl, (blk_cell BK301.out 0).trans rfl, (blk_cell BK301.out 1).trans rfl, (blk_cell BK301.out 2).trans rfl, (blk_cell BK294.out 0).trans rfl, (blk_cell BK294.out 1).trans rfl, (blk_cell BK294.out 2).trans rfl, (blk_cell BK276.out 0).trans rfl, (blk_cell BK276.out 1).trans rfl, (blk_cell BK276.out 2).trans rfl⟩ (fun hHeld => ?_)
          clear hK K
          refine norm_ (a' := ?_) ?_ ?_
          rotate_left
          ·show Act.put _ (some 63) _ = _
           simp only [Act.put, List.setIfInBounds_toArray, List.set_cons_zero, List.set_cons_succ, i64_w, i32_w]
           rfl
          refine one_ (i := 12) (N := some 66) (bs 26 13) rfl rfl (one_of HT_.out (by kernel_rfl)) (by decide) (fun K hK => ?_)
          refine goes_ Try.func35 (by kernel_rfl) rfl #[.agg #[.int .i64 t285, .int .i64 t286, .int .i64 t287], .int .i64 x11_2] (by rfl) rfl rfl mt_ ?_
          with_reducible refine (laws_vec.calls t285 t286 t287 x11_2 t311 _ A82.out).mono ?_
          rintro e w98 ⟨rfl, hb⟩
          refine ⟨_, rfl, ?_⟩
          have n0_ := Aside0.mk (blk_below (g := gb276) (o := .cells #[.int .i64 t285, .int .i64 t286, .int .i64 t287] 35 (0, 0)) (bk_ BK276) hb)
          have n1_ := Aside0.mk (blk_below (g := gb283) (o := .cells #[.int .i64 t277, .int .i64 t278, .int .i64 t279] 35 (0, 0)) (bk_ BK283) hb)
          have n2_ := Aside0.mk (blk_below (g := gb284) (o := .cells #[.int .i64 t280, .int .i64 t281, .int .i64 t282] 35 (0, 0)) (bk_ BK284) hb)
          have n3_ := Aside0.mk (blk_below (g := gb294) (o := .cells #[.int .i64 t291, .int .i64 t292, .int .i64 t293] 35 (0, 0)) (bk_ BK294) hb)
          have n4_ := Aside0.mk (blk_below (g := gb301) (o := .cells #[.int .i64 t298, .int .i64 t299, .int .i64 t300] 35 (0, 0)) (bk_ BK301) hb)
          have n5_ := Aside0.mk (blk_below (g := gb305) (o := .cells #[.int .i64 t302, .int .i64 t303, .int .i64 t304] 35 (0, 0)) (bk_ BK305) hb)
          have n6_ := Aside0.mk (below_step (by repeat (first | (with_reducible first | exact HB.out | apply below_alloc | apply pw_below_drewN | apply below_drew1 | refine below_set ?_ GE276.out | refine below_set ?_ GE283.out | refine below_set ?_ GE284.out | refine below_set ?_ GE294.out | refine below_set ?_ GE301.out | refine below_set ?_ GE305.out) | exact HB.out)) hb)
          clear BK276
          clear BK283
          clear BK284
          clear BK294
          clear BK301
          clear BK305
          clear HB
          have BK276 := n0_
          have BK283 := n1_
          have BK284 := n2_
          have BK294 := n3_
          have BK301 := n4_
          have BK305 := n5_
          have HB := n6_
          clear n0_ n1_ n2_ n3_ n4_ n5_ n6_
          (try clear hb)
          (try clear hb2)
          (try clear hk)
          (try clear hi)
          refine hK.out _ _ ⟨(blk_cell BK305.out 0).trans rfl, (blk_cell BK305.out 1).trans rfl, (blk_cell BK305.out 2).trans rfl, (blk_cell BK301.out 0).trans rfl, (blk_cell BK301.out 1).trans rfl, (blk_cell BK301.out 2).trans rfl, (blk_cell BK294.out 0).trans rfl, (blk_cell BK294.out 1).trans rfl, (blk_cell BK294.out 2).trans rfl, (blk_cell BK276.out 0).trans rfl, (blk_cell BK276.out 1).trans rfl, (blk_cell BK276.out 2).trans rfl⟩ (fun hHeld => ?_)
          clear hK K
          refine norm_ (a' := ?_) ?_ ?_
          rotate_left
          ·show Act.put _ (some 66) _ = _
           simp only [Act.put, List.setIfInBounds_toArray, List.set_cons_zero, List.set_cons_succ, i64_w, i32_w]
           rfl
          refine pure_s (i := 13) (N := some 67) (bs 26 14) (any_of HT_.out (by kernel_rfl)) (h := ?_)
          refine pure_s (i := 14) (N := some 68) (bs 26 15) (any_of HT_.out (by kernel_rfl)) (h := ?_)
          refine pure_s (i := 15) (N := some 69) (bs 26 16) (any_of HT_.out (by kernel_rfl)) (h := ?_)
          refine pure_s (i := 17) (N := some 71) #[oT,oT,oT,oT,oT,oT,oT,oT,oT,oT,oT,oT,oT,oT,oT,oT,oF,oT,oF,oF,oF,oF,oF,oF,oF,oF] (any_of HT_.out (by kernel_rfl)) (h := ?_)
          refine pure_s (i := 20) (N := some 74) #[oT,oT,oT,oT,oT,oT,oT,oT,oT,oT,oT,oT,oT,oT,oT,oT,oF,oT,oF,oF,oT,oF,oF,oF,oF,oF] (any_of HT_.out (by kernel_rfl)) (h := ?_)
          refine pure_s (i := 22) (N := some 76) #[oT,oT,oT,oT,oT,oT,oT,oT,oT,oT,oT,oT,oT,oT,oT,oT,oF,oT,oF,oF,oT,oF,oT,oF,oF,oF] (any_of HT_.out (by kernel_rfl)) (h := ?_)
          refine take_ (i := 16) (N := some 70) (v := ?_) (a' := ?_) #[oT,oT,oT,oT,oT,oT,oT,oT,oT,oT,oT,oT,oT,oT,oT,oT,oT,oT,oF,oF,oT,oF,oT,oF,oF,oF] rfl rfl (take_ofW HT_.out HW_.out (by kernel_rfl)) (fun _ _ _ h => h) (Or.inl ⟨by rfl, ?_⟩) hHeld ?_ ?_
          rotate_left
          ·rintro w' ⟨s0, s1, s2, s3, s4, s5, s6, s7, s8, s9, s10, s11⟩
           go_simp
           with_reducible rfl
          rotate_left
          ·simp only [Act.put, List.setIfInBounds_toArray, List.set_cons_zero, List.set_cons_succ, i64_w, i32_w]
           rfl
          refine take_ (i := 19) (N := some 73) (v := ?_) (a' := ?_) #[oT,oT,oT,oT,oT,oT,oT,oT,oT,oT,oT,oT,oT,oT,oT,oT,oT,oT,oF,oT,oT,oF,oT,oF,oF,oF] rfl rfl (take_ofW HT_.out HW_.out (by kernel_rfl)) (fun _ _ _ h => h) (Or.inl ⟨by rfl, ?_⟩) hHeld ?_ ?_
          rotate_left
          ·rintro w' ⟨s0, s1, s2, s3, s4, s5, s6, s7, s8, s9, s10, s11⟩
           go_simp
           with_reducible rfl
          rotate_left
          ·simp only [Act.put, List.setIfInBounds_toArray, List.set_cons_zero, List.set_cons_succ, i64_w, i32_w]
           rfl
          refine one_ (i := 18) (N := some 72) #[oT,oT,oT,oT,oT,oT,oT,oT,oT,oT,oT,oT,oT,oT,oT,oT,oT,oT,oT,oT,oT,oF,oT,oF,oF,oF] rfl rfl (one_of HT_.out (by kernel_rfl)) (by decide) (fun K hK => ?_)
          refine goes_ Try.func35 (by kernel_rfl) rfl #[.agg #[.int .i64 t298, .int .i64 t299, .int .i64 t300], .int .i64 x11_2] (by rfl) rfl rfl mt_ ?_
          with_reducible refine (laws_vec.calls t298 t299 t300 x11_2 t312 _ A84.out).mono ?_
          rintro e w99 ⟨rfl, hb⟩
          refine ⟨_, rfl, ?_⟩
          have n0_ := Aside0.mk (blk_below (g := gb276) (o := .cells #[.int .i64 t285, .int .i64 t286, .int .i64 t287] 35 (0, 0)) (bk_ BK276) hb)
          have n1_ := Aside0.mk (blk_below (g := gb283) (o := .cells #[.int .i64 t277, .int .i64 t278, .int .i64 t279] 35 (0, 0)) (bk_ BK283) hb)
          have n2_ := Aside0.mk (blk_below (g := gb284) (o := .cells #[.int .i64 t280, .int .i64 t281, .int .i64 t282] 35 (0, 0)) (bk_ BK284) hb)
          have n3_ := Aside0.mk (blk_below (g := gb294) (o := .cells #[.int .i64 t291, .int .i64 t292, .int .i64 t293] 35 (0, 0)) (bk_ BK294) hb)
          have n4_ := Aside0.mk (blk_below (g := gb301) (o := .cells #[.int .i64 t298, .int .i64 t299, .int .i64 t300] 35 (0, 0)) (bk_ BK301) hb)
          have n5_ := Aside0.mk (blk_below (g := gb305) (o := .cells #[.int .i64 t302, .int .i64 t303, .int .i64 t304] 35 (0, 0)) (bk_ BK305) hb)
          have n6_ := Aside0.mk (below_step (by repeat (first | (with_reducible first | exact HB.out | apply below_alloc | apply pw_below_drewN | apply below_drew1 | refine below_set ?_ GE276.out | refine below_set ?_ GE283.out | refine below_set ?_ GE284.out | refine below_set ?_ GE294.out | refine below_set ?_ GE301.out | refine below_set ?_ GE305.out) | exact HB.out)) hb)
          clear BK276
          clear BK283
          clear BK284
          clear BK294
          clear BK301
          clear BK305
          clear HB
          have BK276 := n0_
          have BK283 := n1_
          have BK284 := n2_
          have BK294 := n3_
          have BK301 := n4_
          have BK305 := n5_
          have HB := n6_
          clear n0_ n1_ n2_ n3_ n4_ n5_ n6_
          (try clear hb)
          (try clear hb2)
          (try clear hk)
          (try clear hi)
          refine hK.out _ _ ⟨(blk_cell BK305.out 0).trans rfl, (blk_cell BK305.out 1).trans rfl, (blk_cell BK305.out 2).trans rfl, (blk_cell BK301.out 0).trans rfl, (blk_cell BK301.out 1).trans rfl, (blk_cell BK301.out 2).trans rfl, (blk_cell BK294.out 0).trans rfl, (blk_cell BK294.out 1).trans rfl, (blk_cell BK294.out 2).trans rfl, (blk_cell BK276.out 0).trans rfl, (blk_cell BK276.out 1).trans rfl, (blk_cell BK276.out 2).trans rfl⟩ (fun hHeld => ?_)
          clear hK K
          refine norm_ (a' := ?_) ?_ ?_
          rotate_left
          ·show Act.put _ (some 72) _ = _
           simp only [Act.put, List.setIfInBounds_toArray, List.set_cons_zero, List.set_cons_succ, i64_w, i32_w]
           rfl
          refine one_ (i := 21) (N := some 75) (bs 26 23) rfl rfl (one_of HT_.out (by kernel_rfl)) (by decide) (fun K hK => ?_)
          refine goes_ Try.func35 (by kernel_rfl) rfl #[.agg #[.int .i64 t285, .int .i64 t286, .int .i64 t287], .int .i64 x11_2] (by rfl) rfl rfl mt_ ?_
          with_reducible refine (laws_vec.calls t285 t286 t287 x11_2 t313 _ A85.out).mono ?_
          rintro e w100 ⟨rfl, hb⟩
          refine ⟨_, rfl, ?_⟩
          have n0_ := Aside0.mk (blk_below (g := gb276) (o := .cells #[.int .i64 t285, .int .i64 t286, .int .i64 t287] 35 (0, 0)) (bk_ BK276) hb)
          have n1_ := Aside0.mk (blk_below (g := gb283) (o := .cells #[.int .i64 t277, .int .i64 t278, .int .i64 t279] 35 (0, 0)) (bk_ BK283) hb)
          have n2_ := Aside0.mk (blk_below (g := gb284) (o := .cells #[.int .i64 t280, .int .i64 t281, .int .i64 t282] 35 (0, 0)) (bk_ BK284) hb)
          have n3_ := Aside0.mk (blk_below (g := gb294) (o := .cells #[.int .i64 t291, .int .i64 t292, .int .i64 t293] 35 (0, 0)) (bk_ BK294) hb)
          have n4_ := Aside0.mk (blk_below (g := gb301) (o := .cells #[.int .i64 t298, .int .i64 t299, .int .i64 t300] 35 (0, 0)) (bk_ BK301) hb)
          have n5_ := Aside0.mk (blk_below (g := gb305) (o := .cells #[.int .i64 t302, .int .i64 t303, .int .i64 t304] 35 (0, 0)) (bk_ BK305) hb)
          have n6_ := Aside0.mk (below_step (by repeat (first | (with_reducible first | exact HB.out | apply below_alloc | apply pw_below_drewN | apply below_drew1 | refine below_set ?_ GE276.out | refine below_set ?_ GE283.out | refine below_set ?_ GE284.out | refine below_set ?_ GE294.out | refine below_set ?_ GE301.out | refine below_set ?_ GE305.out) | exact HB.out)) hb)
          clear BK276
          clear BK283
          clear BK284
          clear BK294
          clear BK301
          clear BK305
          clear HB
          have BK276 := n0_
          have BK283 := n1_
          have BK284 := n2_
          have BK294 := n3_
          have BK301 := n4_
          have BK305 := n5_
          have HB := n6_
          clear n0_ n1_ n2_ n3_ n4_ n5_ n6_
          (try clear hb)
          (try clear hb2)
          (try clear hk)
          (try clear hi)
          refine hK.out _ _ ⟨(blk_cell BK305.out 0).trans rfl, (blk_cell BK305.out 1).trans rfl, (blk_cell BK305.out 2).trans rfl, (blk_cell BK301.out 0).trans rfl, (blk_cell BK301.out 1).trans rfl, (blk_cell BK301.out 2).trans rfl, (blk_cell BK294.out 0).trans rfl, (blk_cell BK294.out 1).trans rfl, (blk_cell BK294.out 2).trans rfl, (blk_cell BK276.out 0).trans rfl, (blk_cell BK276.out 1).trans rfl, (blk_cell BK276.out 2).trans rfl⟩ (fun hHeld => ?_)
          clear hK K
          refine norm_ (a' := ?_) ?_ ?_
          rotate_left
          ·show Act.put _ (some 75) _ = _
           simp only [Act.put, List.setIfInBounds_toArray, List.set_cons_zero, List.set_cons_succ, i64_w, i32_w]
           rfl
          refine pure_s (i := 23) (N := some 77) (bs 26 24) (any_of HT_.out (by kernel_rfl)) (h := ?_)
          refine pure_s (i := 24) (N := some 78) (bs 26 25) (any_of HT_.out (by kernel_rfl)) (h := ?_)
          refine pure_s (i := 25) (N := some 79) (bs 26 26) (any_of HT_.out (by kernel_rfl)) (h := ?_)
          refine done_ (done_of HT_.out (by kernel_rfl)) ?_
          try go_wp2
          go_ret
          exact ⟨by first | rfl | (simp [errW_none, errW_some] <;> rfl) | (simp [*, errW_none, errW_some] <;> rfl), by repeat (first | (with_reducible first | exact HB.out | apply below_alloc | apply pw_below_drewN | apply below_drew1 | refine below_set ?_ GE276.out | refine below_set ?_ GE283.out | refine below_set ?_ GE284.out | refine below_set ?_ GE294.out | refine below_set ?_ GE301.out | refine below_set ?_ GE305.out) | exact HB.out)⟩
        ·rw [if_neg c83] at H
         have c83b0 : ((wrap64 (t308 - t309)) == (wrap64 (t310 - t311))) = false := beq_eq_false_iff_ne.mpr c83
         have c83b1 : ((wrap64 (t308 - t309)) != (wrap64 (t310 - t311))) = true := bne_iff_ne.mpr c83
         obtain rfl := Option.some.inj H
         try go_wp2
         have n0_ := Aside0.mk (blk_drew BK276.out)
         have n1_ := Aside0.mk (blk_drew BK283.out)
         have n2_ := Aside0.mk (blk_drew BK284.out)
         have n3_ := Aside0.mk (blk_drew BK294.out)
         have n4_ := Aside0.mk (blk_drew BK301.out)
         have n5_ := Aside0.mk (blk_drew BK305.out)
         have n6_ := Aside0.mk (below_drew1 HB.out)
         clear BK276
         clear BK283
         clear BK284
         clear BK294
         clear BK301
         clear BK305
         clear HB
         have BK276 := n0_
         have BK283 := n1_
         have BK284 := n2_
         have BK294 := n3_
         have BK301 := n4_
         have BK305 := n5_
         have HB := n6_
         clear n0_ n1_ n2_ n3_ n4_ n5_ n6_
         refine start_ (n := 26) (S := fun w' => w'.cell? ⟨gb305, 0, none⟩ = some (.int .i64 t302) ∧ w'.cell? ⟨gb305, 1, none⟩ = some (.int .i64 t303) ∧ w'.cell? ⟨gb305, 2, none⟩ = some (.int .i64 t304) ∧ w'.cell? ⟨gb301, 0, none⟩ = some (.int .i64 t298) ∧ w'.cell? ⟨gb301, 1, none⟩ = some (.int .i64 t299) ∧ w'.cell? ⟨gb301, 2, none⟩ = some (.int .i64 t300) ∧ w'.cell? ⟨gb294, 0, none⟩ = some (.int .i64 t291) ∧ w'.cell? ⟨gb294, 1, none⟩ = some (.int .i64 t292) ∧ w'.cell? ⟨gb294, 2, none⟩ = some (.int .i64 t293) ∧ w'.cell? ⟨gb276, 0, none⟩ = some (.int .i64 t285) ∧ w'.cell? ⟨gb276, 1, none⟩ = some (.int .i64 t286) ∧ w'.cell? ⟨gb276, 2, none⟩ = some (.int .i64 t287)) (ds := []) (bs 26 0) (by kernel_rfl) rfl rfl ⟨(blk_cell BK305.out 0).trans rfl, (blk_cell BK305.out 1).trans rfl, (blk_cell BK305.out 2).trans rfl, (blk_cell BK301.out 0).trans rfl, (blk_cell BK301.out 1).trans rfl, (blk_cell BK301.out 2).trans rfl, (blk_cell BK294.out 0).trans rfl, (blk_cell BK294.out 1).trans rfl, (blk_cell BK294.out 2).trans rfl, (blk_cell BK276.out 0).trans rfl, (blk_cell BK276.out 1).trans rfl, (blk_cell BK276.out 2).trans rfl⟩ (fun hHeld => ?_); refine with_tabW laws_FnLowered.tab15 laws_FnLowered.bits15 (fun HT_ HW_ => ?_)
         generalize wr.drew = w101 at BK276 BK283 BK284 BK294 BK301 BK305 HB hHeld ⊢
         refine pure_s (i := 1) (N := some 55) #[oF,oT,oF,oF,oF,oF,oF,oF,oF,oF,oF,oF,oF,oF,oF,oF,oF,oF,oF,oF,oF,oF,oF,oF,oF,oF] (any_of HT_.out (by kernel_rfl)) (h := ?_)
         refine pure_s (i := 4) (N := some 58) #[oF,oT,oF,oF,oT,oF,oF,oF,oF,oF,oF,oF,oF,oF,oF,oF,oF,oF,oF,oF,oF,oF,oF,oF,oF,oF] (any_of HT_.out (by kernel_rfl)) (h := ?_)
         refine pure_s (i := 8) (N := some 62) #[oF,oT,oF,oF,oT,oF,oF,oF,oT,oF,oF,oF,oF,oF,oF,oF,oF,oF,oF,oF,oF,oF,oF,oF,oF,oF] (any_of HT_.out (by kernel_rfl)) (h := ?_)
         refine pure_s (i := 11) (N := some 65) #[oF,oT,oF,oF,oT,oF,oF,oF,oT,oF,oF,oT,oF,oF,oF,oF,oF,oF,oF,oF,oF,oF,oF,oF,oF,oF] (any_of HT_.out (by kernel_rfl)) (h := ?_)
         refine take_ (i := 0) (N := some 54) (v := ?_) (a' := ?_) #[oT,oT,oF,oF,oT,oF,oF,oF,oT,oF,oF,oT,oF,oF,oF,oF,oF,oF,oF,oF,oF,oF,oF,oF,oF,oF] rfl rfl (take_ofW HT_.out HW_.out (by kernel_rfl)) (fun _ _ _ h => h) (Or.inl ⟨by rfl, ?_⟩) hHeld ?_ ?_
         rotate_left
         ·rintro w' ⟨s0, s1, s2, s3, s4, s5, s6, s7, s8, s9, s10, s11⟩
          go_simp
          with_reducible rfl
         rotate_left
         ·simp only [Act.put, List.setIfInBounds_toArray, List.set_cons_zero, List.set_cons_succ, i64_w, i32_w]
          rfl
         refine take_ (i := 3) (N := some 57) (v := ?_) (a' := ?_) #[oT,oT,oF,oT,oT,oF,oF,oF,oT,oF,oF,oT,oF,oF,oF,oF,oF,oF,oF,oF,oF,oF,oF,oF,oF,oF] rfl rfl (take_ofW HT_.out HW_.out (by kernel_rfl)) (fun _ _ _ h => h) (Or.inl ⟨by rfl, ?_⟩) hHeld ?_ ?_
         rotate_left
         ·rintro w' ⟨s0, s1, s2, s3, s4, s5, s6, s7, s8, s9, s10, s11⟩
          go_simp
          with_reducible rfl
         rotate_left
         ·simp only [Act.put, List.setIfInBounds_toArray, List.set_cons_zero, List.set_cons_succ, i64_w, i32_w]
          rfl
         refine take_ (i := 7) (N := some 61) (v := ?_) (a' := ?_) #[oT,oT,oF,oT,oT,oF,oF,oT,oT,oF,oF,oT,oF,oF,oF,oF,oF,oF,oF,oF,oF,oF,oF,oF,oF,oF] rfl rfl (take_ofW HT_.out HW_.out (by kernel_rfl)) (fun _ _ _ h => h) (Or.inl ⟨by rfl, ?_⟩) hHeld ?_ ?_
         rotate_left
         ·rintro w' ⟨s0, s1, s2, s3, s4, s5, s6, s7, s8, s9, s10, s11⟩
          go_simp
          with_reducible rfl
         rotate_left
         ·simp only [Act.put, List.setIfInBounds_toArray, List.set_cons_zero, List.set_cons_succ, i64_w, i32_w]
          rfl
         refine take_ (i := 10) (N := some 64) (v := ?_) (a' := ?_) #[oT,oT,oF,oT,oT,oF,oF,oT,oT,oF,oT,oT,oF,oF,oF,oF,oF,oF,oF,oF,oF,oF,oF,oF,oF,oF] rfl rfl (take_ofW HT_.out HW_.out (by kernel_rfl)) (fun _ _ _ h => h) (Or.inl ⟨by rfl, ?_⟩) hHeld ?_ ?_
         rotate_left
         ·rintro w' ⟨s0, s1, s2, s3, s4, s5, s6, s7, s8, s9, s10, s11⟩
          go_simp
          with_reducible rfl
         rotate_left
         ·simp only [Act.put, List.setIfInBounds_toArray, List.set_cons_zero, List.set_cons_succ, i64_w, i32_w]
          rfl
         refine one_ (i := 2) (N := some 56) #[oT,oT,oT,oT,oT,oF,oF,oT,oT,oF,oT,oT,oF,oF,oF,oF,oF,oF,oF,oF,oF,oF,oF,oF,oF,oF] rfl rfl (one_of HT_.out (by kernel_rfl)) (by decide) (fun K hK => ?_)
         refine goes_ Try.func35 (by kernel_rfl) rfl #[.agg #[.int .i64 t302, .int .i64 t303, .int .i64 t304], .int .i64 x11_2] (by rfl) rfl rfl mt_ ?_
         with_reducible refine (laws_vec.calls t302 t303 t304 x11_2 t308 _ A79.out).mono ?_
         rintro e w102 ⟨rfl, hb⟩
         refine ⟨_, rfl, ?_⟩
         have n0_ := Aside0.mk (blk_below (g := gb276) (o := .cells #[.int .i64 t285, .int .i64 t286, .int .i64 t287] 35 (0, 0)) (bk_ BK276) hb)
         have n1_ := Aside0.mk (blk_below (g := gb283) (o := .cells #[.int .i64 t277, .int .i64 t278, .int .i64 t279] 35 (0, 0)) (bk_ BK283) hb)
         have n2_ := Aside0.mk (blk_below (g := gb284) (o := .cells #[.int .i64 t280, .int .i64 t281, .int .i64 t282] 35 (0, 0)) (bk_ BK284) hb)
         have n3_ := Aside0.mk (blk_below (g := gb294) (o := .cells #[.int .i64 t291, .int .i64 t292, .int .i64 t293] 35 (0, 0)) (bk_ BK294) hb)
         have n4_ := Aside0.mk (blk_below (g := gb301) (o := .cells #[.int .i64 t298, .int .i64 t299, .int .i64 t300] 35 (0, 0)) (bk_ BK301) hb)
         have n5_ := Aside0.mk (blk_below (g := gb305) (o := .cells #[.int .i64 t302, .int .i64 t303, .int .i64 t304] 35 (0, 0)) (bk_ BK305) hb)
         have n6_ := Aside0.mk (below_step (by repeat (first | (with_reducible first | exact HB.out | apply below_alloc | apply pw_below_drewN | apply below_drew1 | refine below_set ?_ GE276.out | refine below_set ?_ GE283.out | refine below_set ?_ GE284.out | refine below_set ?_ GE294.out | refine below_set ?_ GE301.out | refine below_set ?_ GE305.out) | exact HB.out)) hb)
         clear BK276
         clear BK283
         clear BK284
         clear BK294
         clear BK301
         clear BK305
         clear HB
         have BK276 := n0_
         have BK283 := n1_
         have BK284 := n2_
         have BK294 := n3_
         have BK301 := n4_
         have BK305 := n5_
         have HB := n6_
         clear n0_ n1_ n2_ n3_ n4_ n5_ n6_
         (try clear hb)
         (try clear hb2)
         (try clear hk)
         (try clear hi)
         refine hK.out _ _ ⟨(blk_cell BK305.out 0).trans rfl, (blk_cell BK305.out 1).trans rfl, (blk_cell BK305.out 2).trans rfl, (blk_cell BK301.out 0).trans rfl, (blk_cell BK301.out 1).trans rfl, (blk_cell BK301.out 2).trans rfl, (blk_cell BK294.out 0).trans rfl, (blk_cell BK294.out 1).trans rfl, (blk_cell BK294.out 2).trans rfl, (blk_cell BK276.out 0).trans rfl, (blk_cell BK276.out 1).trans rfl, (blk_cell BK276.out 2).trans rfl⟩ (fun hHeld => ?_)
         clear hK K
         refine norm_ (a' := ?_) ?_ ?_
         rotate_left
         ·show Act.put _ (some 56) _ = _
          simp only [Act.put, List.setIfInBounds_toArray, List.set_cons_zero, List.set_cons_succ, i64_w, i32_w]
          rfl
         refine one_ (i := 5) (N := some 59) #[oT,oT,oT,oT,oT,oT,oF,oT,oT,oF,oT,oT,oF,oF,oF,oF,oF,oF,oF,oF,oF,oF,oF,oF,oF,oF] rfl rfl (one_of HT_.out (by kernel_rfl)) (by decide) (fun K hK => ?_)
         refine goes_ Try.func35 (by kernel_rfl) rfl #[.agg #[.int .i64 t298, .int .i64 t299, .int .i64 t300], .int .i64 x11_2] (by rfl) rfl rfl mt_ ?_
         with_reducible refine (laws_vec.calls t298 t299 t300 x11_2 t309 _ A80.out).mono ?_
         rintro e w103 ⟨rfl, hb⟩
         refine ⟨_, rfl, ?_⟩
         have n0_ := Aside0.mk (blk_below (g := gb276) (o := .cells #[.int .i64 t285, .int .i64 t286, .int .i64 t287] 35 (0, 0)) (bk_ BK276) hb)
         have n1_ := Aside0.mk (blk_below (g := gb283) (o := .cells #[.int .i64 t277, .int .i64 t278, .int .i64 t279] 35 (0, 0)) (bk_ BK283) hb)
         have n2_ := Aside0.mk (blk_below (g := gb284) (o := .cells #[.int .i64 t280, .int .i64 t281, .int .i64 t282] 35 (0, 0)) (bk_ BK284) hb)
         have n3_ := Aside0.mk (blk_below (g := gb294) (o := .cells #[.int .i64 t291, .int .i64 t292, .int .i64 t293] 35 (0, 0)) (bk_ BK294) hb)
         have n4_ := Aside0.mk (blk_below (g := gb301) (o := .cells #[.int .i64 t298, .int .i64 t299, .int .i64 t300] 35 (0, 0)) (bk_ BK301) hb)
         have n5_ := Aside0.mk (blk_below (g := gb305) (o := .cells #[.int .i64 t302, .int .i64 t303, .int .i64 t304] 35 (0, 0)) (bk_ BK305) hb)
         have n6_ := Aside0.mk (below_step (by repeat (first | (with_reducible first | exact HB.out | apply below_alloc | apply pw_below_drewN | apply below_drew1 | refine below_set ?_ GE276.out | refine below_set ?_ GE283.out | refine below_set ?_ GE284.out | refine below_set ?_ GE294.out | refine below_set ?_ GE301.out | refine below_set ?_ GE305.out) | exact HB.out)) hb)
         clear BK276
         clear BK283
         clear BK284
         clear BK294
         clear BK301
         clear BK305
         clear HB
         have BK276 := n0_
         have BK283 := n1_
         have BK284 := n2_
         have BK294 := n3_
         have BK301 := n4_
         have BK305 := n5_
         have HB := n6_
         clear n0_ n1_ n2_ n3_ n4_ n5_ n6_
         (try clear hb)
         (try clear hb2)
         (try clear hk)
         (try clear hi)
         refine hK.out _ _ ⟨(blk_cell BK305.out 0).trans rfl, (blk_cell BK305.out 1).trans rfl, (blk_cell BK305.out 2).trans rfl, (blk_cell BK301.out 0).trans rfl, (blk_cell BK301.out 1).trans rfl, (blk_cell BK301.out 2).trans rfl, (blk_cell BK294.out 0).trans rfl, (blk_cell BK294.out 1).trans rfl, (blk_cell BK294.out 2).trans rfl, (blk_cell BK276.out 0).trans rfl, (blk_cell BK276.out 1).trans rfl, (blk_cell BK276.out 2).trans rfl⟩ (fun hHeld => ?_)
         clear hK K
         refine norm_ (a' := ?_) ?_ ?_
         rotate_left
         ·show Act.put _ (some 59) _ = _
          simp only [Act.put, List.setIfInBounds_toArray, List.set_cons_zero, List.set_cons_succ, i64_w, i32_w]
          rfl
         refine pure_s (i := 6) (N := some 60) #[oT,oT,oT,oT,oT,oT,oT,oT,oT,oF,oT,oT,oF,oF,oF,oF,oF,oF,oF,oF,oF,oF,oF,oF,oF,oF] (any_of HT_.out (by kernel_rfl)) (h := ?_)
         refine one_ (i := 9) (N := some 63) (bs 26 12) rfl rfl (one_of HT_.out (by kernel_rfl)) (by decide) (fun K hK => ?_)
         refine goes_ Try.func35 (by kernel_rfl) rfl #[.agg #[.int .i64 t291, .int .i64 t292, .int .i64 t293], .int .i64 x11_2] (by rfl) rfl rfl mt_ ?_
         with_reducible refine (laws_vec.calls t291 t292 t293 x11_2 t310 _ A81.out).mono ?_
         rintro e w104 ⟨rfl, hb⟩
         refine ⟨_, rfl, ?_⟩
         have n0_ := Aside0.mk (blk_below (g := gb276) (o := .cells #[.int .i64 t285, .int .i64 t286, .int .i64 t287] 35 (0, 0)) (bk_ BK276) hb)
         have n1_ := Aside0.mk (blk_below (g := gb283) (o := .cells #[.int .i64 t277, .int .i64 t278, .int .i64 t279] 35 (0, 0)) (bk_ BK283) hb)
         have n2_ := Aside0.mk (blk_below (g := gb284) (o := .cells #[.int .i64 t280, .int .i64 t281, .int .i64 t282] 35 (0, 0)) (bk_ BK284) hb)
         have n3_ := Aside0.mk (blk_below (g := gb294) (o := .cells #[.int .i64 t291, .int .i64 t292, .int .i64 t293] 35 (0, 0)) (bk_ BK294) hb)
         have n4_ := Aside0.mk (blk_below (g := gb301) (o := .cells #[.int .i64 t298, .int .i64 t299, .int .i64 t300] 35 (0, 0)) (bk_ BK301) hb)
         have n5_ := Aside0.mk (blk_below (g := gb305) (o := .cells #[.int .i64 t302, .int .i64 t303, .int .i64 t304] 35 (0, 0)) (bk_ BK305) hb)
         have n6_ := Aside0.mk (below_step (by repeat (first | (with_reducible first | exact HB.out | apply below_alloc | apply pw_below_drewN | apply below_drew1 | refine below_set ?_ GE276.out | refine below_set ?_ GE283.out | refine below_set ?_ GE284.out | refine below_set ?_ GE294.out | refine below_set ?_ GE301.out | refine below_set ?_ GE305.out) | exact HB.out)) hb)
         clear BK276
         clear BK283
         clear BK284
         clear BK294
         clear BK301
         clear BK305
         clear HB
         have BK276 := n0_
         have BK283 := n1_
         have BK284 := n2_
         have BK294 := n3_
         have BK301 := n4_
         have BK305 := n5_
         have HB := n6_
         clear n0_ n1_ n2_ n3_ n4_ n5_ n6_
         (try clear hb)
         (try clear hb2)
         (try clear hk)
         (try clear hi)
         refine hK.out _ _ ⟨(blk_cell BK305.out 0).trans rfl, (blk_cell BK305.out 1).trans rfl, (blk_cell BK305.out 2).trans rfl, (blk_cell BK301.out 0).trans rfl, (blk_cell BK301.out 1).trans rfl, (blk_cell BK301.out 2).trans rfl, (blk_cell BK294.out 0).trans rfl, (blk_cell BK294.out 1).trans rfl, (blk_cell BK294.out 2).trans rfl, (blk_cell BK276.out 0).trans rfl, (blk_cell BK276.out 1).trans rfl, (blk_cell BK276.out 2).trans rfl⟩ (fun hHeld => ?_)
         clear hK K
         refine norm_ (a' := ?_) ?_ ?_
         rotate_left
         ·show Act.put _ (some 63) _ = _
          simp only [Act.put, List.setIfInBounds_toArray, List.set_cons_zero, List.set_cons_succ, i64_w, i32_w]
          rfl
         refine one_ (i := 12) (N := some 66) (bs 26 13) rfl rfl (one_of HT_.out (by kernel_rfl)) (by decide) (fun K hK => ?_)
         refine goes_ Try.func35 (by kernel_rfl) rfl #[.agg #[.int .i64 t285, .int .i64 t286, .int .i64 t287], .int .i64 x11_2] (by rfl) rfl rfl mt_ ?_
         with_reducible refine (laws_vec.calls t285 t286 t287 x11_2 t311 _ A82.out).mono ?_
         rintro e w105 ⟨rfl, hb⟩
         refine ⟨_, rfl, ?_⟩
         have n0_ := Aside0.mk (blk_below (g := gb276) (o := .cells #[.int .i64 t285, .int .i64 t286, .int .i64 t287] 35 (0, 0)) (bk_ BK276) hb)
         have n1_ := Aside0.mk (blk_below (g := gb283) (o := .cells #[.int .i64 t277, .int .i64 t278, .int .i64 t279] 35 (0, 0)) (bk_ BK283) hb)
         have n2_ := Aside0.mk (blk_below (g := gb284) (o := .cells #[.int .i64 t280, .int .i64 t281, .int .i64 t282] 35 (0, 0)) (bk_ BK284) hb)
         have n3_ := Aside0.mk (blk_below (g := gb294) (o := .cells #[.int .i64 t291, .int .i64 t292, .int .i64 t293] 35 (0, 0)) (bk_ BK294) hb)
         have n4_ := Aside0.mk (blk_below (g := gb301) (o := .cells #[.int .i64 t298, .int .i64 t299, .int .i64 t300] 35 (0, 0)) (bk_ BK301) hb)
         have n5_ := Aside0.mk (blk_below (g := gb305) (o := .cells #[.int .i64 t302, .int .i64 t303, .int .i64 t304] 35 (0, 0)) (bk_ BK305) hb)
         have n6_ := Aside0.mk (below_step (by repeat (first | (with_reducible first | exact HB.out | apply below_alloc | apply pw_below_drewN | apply below_drew1 | refine below_set ?_ GE276.out | refine below_set ?_ GE283.out | refine below_set ?_ GE284.out | refine below_set ?_ GE294.out | refine below_set ?_ GE301.out | refine below_set ?_ GE305.out) | exact HB.out)) hb)
         clear BK276
         clear BK283
         clear BK284
         clear BK294
         clear BK301
         clear BK305
         clear HB
         have BK276 := n0_
         have BK283 := n1_
         have BK284 := n2_
         have BK294 := n3_
         have BK301 := n4_
         have BK305 := n5_
         have HB := n6_
         clear n0_ n1_ n2_ n3_ n4_ n5_ n6_
         (try clear hb)
         (try clear hb2)
         (try clear hk)
         (try clear hi)
         refine hK.out _ _ ⟨(blk_cell BK305.out 0).trans rfl, (blk_cell BK305.out 1).trans rfl, (blk_cell BK305.out 2).trans rfl, (blk_cell BK301.out 0).trans rfl, (blk_cell BK301.out 1).trans rfl, (blk_cell BK301.out 2).trans rfl, (blk_cell BK294.out 0).trans rfl, (blk_cell BK294.out 1).trans rfl, (blk_cell BK294.out 2).trans rfl, (blk_cell BK276.out 0).trans rfl, (blk_cell BK276.out 1).trans rfl, (blk_cell BK276.out 2).trans rfl⟩ (fun hHeld => ?_)
         clear hK K
         refine norm_ (a' := ?_) ?_ ?_
         rotate_left
         ·show Act.put _ (some 66) _ = _
          simp only [Act.put, List.setIfInBounds_toArray, List.set_cons_zero, List.set_cons_succ, i64_w, i32_w]
          rfl
         refine pure_s (i := 13) (N := some 67) (bs 26 14) (any_of HT_.out (by kernel_rfl)) (h := ?_)
         refine pure_s (i := 14) (N := some 68) (bs 26 15) (any_of HT_.out (by kernel_rfl)) (h := ?_)
         refine pure_s (i := 15) (N := some 69) (bs 26 16) (any_of HT_.out (by kernel_rfl)) (h := ?_)
         refine pure_u (i := 16) (N := some 70) (bs 26 17) (any_of HT_.out (by kernel_rfl)) (h := ?_)
         refine pure_u (i := 17) (N := some 71) (bs 26 18) (any_of HT_.out (by kernel_rfl)) (h := ?_)
         refine pure_u (i := 18) (N := some 72) (bs 26 19) (any_of HT_.out (by kernel_rfl)) (h := ?_)
         refine pure_u (i := 19) (N := some 73) (bs 26 20) (any_of HT_.out (by kernel_rfl)) (h := ?_)
         refine pure_u (i := 20) (N := some 74) (bs 26 21) (any_of HT_.out (by kernel_rfl)) (h := ?_)
         refine pure_u (i := 21) (N := some 75) (bs 26 22) (any_of HT_.out (by kernel_rfl)) (h := ?_)
         refine pure_u (i := 22) (N := some 76) (bs 26 23) (any_of HT_.out (by kernel_rfl)) (h := ?_)
         refine pure_u (i := 23) (N := some 77) (bs 26 24) (any_of HT_.out (by kernel_rfl)) (h := ?_)
         refine pure_u (i := 24) (N := some 78) (bs 26 25) (any_of HT_.out (by kernel_rfl)) (h := ?_)
         refine pure_s (i := 25) (N := some 79) (bs 26 26) (any_of HT_.out (by kernel_rfl)) (h := ?_)
         refine done_ (done_of HT_.out (by kernel_rfl)) ?_
         try go_wp2
         go_ret
         exact ⟨by first | rfl | (simp [errW_none, errW_some] <;> rfl) | (simp [*, errW_none, errW_some] <;> rfl), by repeat (first | (with_reducible first | exact HB.out | apply below_alloc | apply pw_below_drewN | apply below_drew1 | refine below_set ?_ GE276.out | refine below_set ?_ GE283.out | refine below_set ?_ GE284.out | refine below_set ?_ GE294.out | refine below_set ?_ GE301.out | refine below_set ?_ GE305.out) | exact HB.out)⟩
       ·rw [if_neg c78] at H
        have c78b0 : decide (x11_2 < 3) = false := decide_eq_false c78
        clear c78
        replace H := Option.bind_eq_some_iff.mp H
        obtain ⟨t306, A1060, H⟩ := H
        replace H : (if t297 = t306 then ((spec_VecTop.f t298 t299 t300).bind fun t307 => (some (decide (t307 ≤ t275)))) else (some false)) = some r := H
        have A106 := Aside0.mk A1060
        clear A1060
        by_cases c107 : t297 = t306
        ·rw [if_pos c107] at H
         have c107b0 : (t297 == t306) = true := beq_iff_eq.mpr c107
         have c107b1 : (t297 != t306) = false := bne_eq_false_iff_eq.mpr c107
         clear c107
         replace H := Option.bind_eq_some_iff.mp H
         obtain ⟨t307, A1080, H⟩ := H
         replace H : (some (decide (t307 ≤ t275))) = some r := H
         have A108 := Aside0.mk A1080
         clear A1080
         obtain rfl := Option.some.inj H
         have hnb109 := NB276_283.out
         have hnc109 := NB283_276.out
         have hnb110 := NB276_284.out
         have hnc110 := NB284_276.out
         have hnb111 := NB276_294.out
         have hnc111 := NB294_276.out
         have hnb112 := NB276_301.out
         have hnc112 := NB301_276.out
         have hnb113 := NB276_305.out
         have hnc113 := NB305_276.out
         have hcz114_0 : wr.cell? ⟨gb276, 0, none⟩ = some (.int .i64 t285) := (blk_cell BK276.out 0).trans rfl
         have hcz114_1 : wr.cell? ⟨gb276, 1, none⟩ = some (.int .i64 t286) := (blk_cell BK276.out 1).trans rfl
         have hcz114_2 : wr.cell? ⟨gb276, 2, none⟩ = some (.int .i64 t287) := (blk_cell BK276.out 2).trans rfl
         have hfz114_0 := blk_frozen BK276.out 0
         have hfz114_1 := blk_frozen BK276.out 1
         have hfz114_2 := blk_frozen BK276.out 2
         go_wp2_with (first | ((with_reducible refine gate_callee (f := 48) rfl ?_); refine goesL_ (some 83) rfl rfl Try.func48 (by kernel_rfl) rfl #[.agg #[.int .i64 t285, .int .i64 t286, .int .i64 t287], .int .i64 t275] rfl mt_ ?_; (with_reducible refine (spec_BaseOf.calls t285 t286 t287 t275 t306 _ A106.out).mono ?_); rintro e w115 ⟨rfl, hb⟩; refine ⟨_, rfl, ?_⟩; have n0_ := Aside0.mk (blk_below (g := gb276) (o := .cells #[.int .i64 t285, .int .i64 t286, .int .i64 t287] 35 (0, 0)) (bk_ BK276) hb); have n1_ := Aside0.mk (blk_below (g := gb283) (o := .cells #[.int .i64 t277, .int .i64 t278, .int .i64 t279] 35 (0, 0)) (bk_ BK283) hb); have n2_ := Aside0.mk (blk_below (g := gb284) (o := .cells #[.int .i64 t280, .int .i64 t281, .int .i64 t282] 35 (0, 0)) (bk_ BK284) hb); have n3_ := Aside0.mk (blk_below (g := gb294) (o := .cells #[.int .i64 t291, .int .i64 t292, .int .i64 t293] 35 (0, 0)) (bk_ BK294) hb); have n4_ := Aside0.mk (blk_below (g := gb301) (o := .cells #[.int .i64 t298, .int .i64 t299, .int .i64 t300] 35 (0, 0)) (bk_ BK301) hb); have n5_ := Aside0.mk (blk_below (g := gb305) (o := .cells #[.int .i64 t302, .int .i64 t303, .int .i64 t304] 35 (0, 0)) (bk_ BK305) hb); have n6_ := Aside0.mk (below_step (by repeat (first | (with_reducible first | exact HB.out | apply below_alloc | apply pw_below_drewN | apply below_drew1 | refine below_set ?_ GE276.out | refine below_set ?_ GE283.out | refine below_set ?_ GE284.out | refine below_set ?_ GE294.out | refine below_set ?_ GE301.out | refine below_set ?_ GE305.out) | exact HB.out)) hb); clear BK276; clear BK283; clear BK284; clear BK294; clear BK301; clear BK305; clear HB; have BK276 := n0_; have BK283 := n1_; have BK284 := n2_; have BK294 := n3_; have BK301 := n4_; have BK305 := n5_; have HB := n6_; clear n0_ n1_ n2_ n3_ n4_ n5_ n6_; (try clear hb); (try clear hb2); (try clear hk); (try clear hi); have hnb116 := NB301_283.out; have hnc116 := NB283_301.out; have hnb117 := NB301_284.out; have hnc117 := NB284_301.out; have hnb118 := NB301_294.out; have hnc118 := NB294_301.out; have hnb119 := NB301_305.out; have hnc119 := NB305_301.out; have hcz120_0 : w115.cell? ⟨gb301, 0, none⟩ = some (.int .i64 t298) := (blk_cell BK301.out 0).trans rfl; have hcz120_1 : w115.cell? ⟨gb301, 1, none⟩ = some (.int .i64 t299) := (blk_cell BK301.out 1).trans rfl; have hcz120_2 : w115.cell? ⟨gb301, 2, none⟩ = some (.int .i64 t300) := (blk_cell BK301.out 2).trans rfl; have hfz120_0 := blk_frozen BK301.out 0; have hfz120_1 := blk_frozen BK301.out 1; have hfz120_2 := blk_frozen BK301.out 2) | (go_at_call 29; (with_reducible refine (spec_VecTop.calls t298 t299 t300 t307 _ A108.out).mono ?_); rintro e w121 ⟨rfl, hb⟩; have n0_ := Aside0.mk (blk_below (g := gb276) (o := .cells #[.int .i64 t285, .int .i64 t286, .int .i64 t287] 35 (0, 0)) (bk_ BK276) hb); have n1_ := Aside0.mk (blk_below (g := gb283) (o := .cells #[.int .i64 t277, .int .i64 t278, .int .i64 t279] 35 (0, 0)) (bk_ BK283) hb); have n2_ := Aside0.mk (blk_below (g := gb284) (o := .cells #[.int .i64 t280, .int .i64 t281, .int .i64 t282] 35 (0, 0)) (bk_ BK284) hb); have n3_ := Aside0.mk (blk_below (g := gb294) (o := .cells #[.int .i64 t291, .int .i64 t292, .int .i64 t293] 35 (0, 0)) (bk_ BK294) hb); have n4_ := Aside0.mk (blk_below (g := gb301) (o := .cells #[.int .i64 t298, .int .i64 t299, .int .i64 t300] 35 (0, 0)) (bk_ BK301) hb); have n5_ := Aside0.mk (blk_below (g := gb305) (o := .cells #[.int .i64 t302, .int .i64 t303, .int .i64 t304] 35 (0, 0)) (bk_ BK305) hb); have n6_ := Aside0.mk (below_step (by repeat (first | (with_reducible first | exact HB.out | apply below_alloc | apply pw_below_drewN | apply below_drew1 | refine below_set ?_ GE276.out | refine below_set ?_ GE283.out | refine below_set ?_ GE284.out | refine below_set ?_ GE294.out | refine below_set ?_ GE301.out | refine below_set ?_ GE305.out) | exact HB.out)) hb); clear BK276; clear BK283; clear BK284; clear BK294; clear BK301; clear BK305; clear HB; have BK276 := n0_; have BK283 := n1_; have BK284 := n2_; have BK294 := n3_; have BK301 := n4_; have BK305 := n5_; have HB := n6_; clear n0_ n1_ n2_ n3_ n4_ n5_ n6_; (try clear hb); (try clear hb2); (try clear hk); (try clear hi)))
         go_ret
         exact ⟨by first | rfl | (simp [errW_none, errW_some] <;> rfl) | (simp [*, errW_none, errW_some] <;> rfl), by repeat (first | (with_reducible first | exact HB.out | apply below_alloc | apply pw_below_drewN | apply below_drew1 | refine below_set ?_ GE276.out | refine below_set ?_ GE283.out | refine below_set ?_ GE284.out | refine below_set ?_ GE294.out | refine below_set ?_ GE301.out | refine below_set ?_ GE305.out) | exact HB.out)⟩
        ·rw [if_neg c107] at H
         have c107b0 : (t297 == t306) = false := beq_eq_false_iff_ne.mpr c107
         have c107b1 : (t297 != t306) = true := bne_iff_ne.mpr c107
         obtain rfl := Option.some.inj H
         have hnb122 := NB276_283.out
         have hnc122 := NB283_276.out
         have hnb123 := NB276_284.out
         have hnc123 := NB284_276.out
         have hnb124 := NB276_294.out
         have hnc124 := NB294_276.out
         have hnb125 := NB276_301.out
         have hnc125 := NB301_276.out
         have hnb126 := NB276_305.out
         have hnc126 := NB305_276.out
         have hcz127_0 : wr.cell? ⟨gb276, 0, none⟩ = some (.int .i64 t285) := (blk_cell BK276.out 0).trans rfl
         have hcz127_1 : wr.cell? ⟨gb276, 1, none⟩ = some (.int .i64 t286) := (blk_cell BK276.out 1).trans rfl
         have hcz127_2 : wr.cell? ⟨gb276, 2, none⟩ = some (.int .i64 t287) := (blk_cell BK276.out 2).trans rfl
         have hfz127_0 := blk_frozen BK276.out 0
         have hfz127_1 := blk_frozen BK276.out 1
         have hfz127_2 := blk_frozen BK276.out 2
         go_wp2_with (first | ((with_reducible refine gate_callee (f := 48) rfl ?_); refine goesL_ (some 83) rfl rfl Try.func48 (by kernel_rfl) rfl #[.agg #[.int .i64 t285, .int .i64 t286, .int .i64 t287], .int .i64 t275] rfl mt_ ?_; (with_reducible refine (spec_BaseOf.calls t285 t286 t287 t275 t306 _ A106.out).mono ?_); rintro e w128 ⟨rfl, hb⟩; refine ⟨_, rfl, ?_⟩; have n0_ := Aside0.mk (blk_below (g := gb276) (o := .cells #[.int .i64 t285, .int .i64 t286, .int .i64 t287] 35 (0, 0)) (bk_ BK276) hb); have n1_ := Aside0.mk (blk_below (g := gb283) (o := .cells #[.int .i64 t277, .int .i64 t278, .int .i64 t279] 35 (0, 0)) (bk_ BK283) hb); have n2_ := Aside0.mk (blk_below (g := gb284) (o := .cells #[.int .i64 t280, .int .i64 t281, .int .i64 t282] 35 (0, 0)) (bk_ BK284) hb); have n3_ := Aside0.mk (blk_below (g := gb294) (o := .cells #[.int .i64 t291, .int .i64 t292, .int .i64 t293] 35 (0, 0)) (bk_ BK294) hb); have n4_ := Aside0.mk (blk_below (g := gb301) (o := .cells #[.int .i64 t298, .int .i64 t299, .int .i64 t300] 35 (0, 0)) (bk_ BK301) hb); have n5_ := Aside0.mk (blk_below (g := gb305) (o := .cells #[.int .i64 t302, .int .i64 t303, .int .i64 t304] 35 (0, 0)) (bk_ BK305) hb); have n6_ := Aside0.mk (below_step (by repeat (first | (with_reducible first | exact HB.out | apply below_alloc | apply pw_below_drewN | apply below_drew1 | refine below_set ?_ GE276.out | refine below_set ?_ GE283.out | refine below_set ?_ GE284.out | refine below_set ?_ GE294.out | refine below_set ?_ GE301.out | refine below_set ?_ GE305.out) | exact HB.out)) hb); clear BK276; clear BK283; clear BK284; clear BK294; clear BK301; clear BK305; clear HB; have BK276 := n0_; have BK283 := n1_; have BK284 := n2_; have BK294 := n3_; have BK301 := n4_; have BK305 := n5_; have HB := n6_; clear n0_ n1_ n2_ n3_ n4_ n5_ n6_; (try clear hb); (try clear hb2); (try clear hk); (try clear hi)))
         go_ret
         exact ⟨by first | rfl | (simp [errW_none, errW_some] <;> rfl) | (simp [*, errW_none, errW_some] <;> rfl), by repeat (first | (with_reducible first | exact HB.out | apply below_alloc | apply pw_below_drewN | apply below_drew1 | refine below_set ?_ GE276.out | refine below_set ?_ GE283.out | refine below_set ?_ GE284.out | refine below_set ?_ GE294.out | refine below_set ?_ GE301.out | refine below_set ?_ GE305.out) | exact HB.out)⟩

/-- THE ONE PURE STATEMENT of laws_FnLowered: yours. -/
def laws_FnLowered.Pure : Prop := ∀ (l0 : List Int), l0.length ≤ maxLen → l0.length * 1 ≤ 140737488351232 → (∀ x ∈ l0, (Lit.int .u8 x).wf = true) → ∃ k, laws_FnLowered.f k l0 = some true
theorem laws_FnLowered.walk (P : laws_FnLowered.Pure) (a0 : Option Addr) (len0 cap0 : Nat) (z0 : List Int) (w : World) (w0 : (a0 = none ∧ len0 = 0 ∧ cap0 = 0 ∧ z0 = []) ∨ ∃ x, a0 = some x ∧ len0 ≤ cap0 ∧ cap0 ≤ maxLen ∧ z0.length = cap0 ∧ (∀ i, i < z0.length → w.cell? (x.add i) = some (.int .u8 (z0.getD i 0))) ∧ ∀ n ∈ z0, (Lit.int .u8 n).wf = true) (y0 : len0 * 1 ≤ 140737488351232) :
  Calls Try.prog 8 #[.slice a0 len0 cap0] w fun e w' => e = .returned (.bool true) ∧ Below w.heap.size w w' := by
 obtain ⟨l0, rfl, hr0, hm0, hw0, hc0⟩ := ReadsInt.ofRowC w0
 obtain ⟨k, h⟩ := P l0 hm0 y0 hw0
 refine (laws_FnLowered.calls k _ _ l0 true w (Kd.C_of_reads (d := (0 : Int)) (h1 := fun _ => rfl) hr0) hc0 h).mono ?_
 rintro e w' ⟨rfl, hd⟩
 exact ⟨rfl, hd⟩

end Go.Proofs.Ytbijdkmchdkgfaa.PFnLowered
