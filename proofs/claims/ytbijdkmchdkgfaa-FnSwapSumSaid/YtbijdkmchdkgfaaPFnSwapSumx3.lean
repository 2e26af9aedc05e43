-- printed by a program of this session (wip/printx) out of the translation; Lean checks it
import Derived.Test.YtbijdkmchdkgfaaPFnSwapSumx0
import Derived.Test.YtbijdkmchdkgfaaPFnSwapSumx1
import Derived.Test.YtbijdkmchdkgfaaPFnSwapSumx2
namespace Go.Proofs.Ytbijdkmchdkgfaa.PFnSwapSum
open Go.RowKit Go.Proofs.YtbijdkmchdkgfaaW.PrintWords Go.Proofs.YtbijdkmchdkgfaaW.PrintLast Go.Proofs.YtbijdkmchdkgfaaW.PrintMore
attribute [local go_sem] max2_int min2_int max_two min_two max_three min_three max_four min_four   -- for this text's walks alone
set_option linter.unusedVariables false
set_option linter.unusedSimpArgs false

/-! ### impl_SumSwap: function 65 -/
def impl_SumSwap.f (k : Nat) (a0 : Int) (a1 : Int) (a2 : Int) : Option (Int) := (impl_areWords.f k (([a0, a1, a2] : List Int))).bind fun t173 => (if t173 = true then ((impl_swap.f a0 a1 a2).bind fun t174 => (some t174)) else (some (-1)))
theorem impl_SumSwap.mono : ∀ a0 a1 a2 k, LeO (impl_SumSwap.f k a0 a1 a2) (impl_SumSwap.f (k + 1) a0 a1 a2) := by
 intro a0 a1 a2 k
 unfold impl_SumSwap.f
 repeat' first
   | (with_reducible exact impl_areWords.mono _ _)
   | (with_reducible exact LeO.refl _)
   | (with_reducible exact LeO.none _)
   | (with_reducible refine LeO.ite ?_ ?_)
   | (with_reducible refine LeO.bind ?_ (fun _ => ?_))
   | exact impl_areWords.mono _ _
   | exact LeO.none _
   | refine LeO.ite ?_ ?_
   | refine LeO.bind ?_ (fun _ => ?_)
set_option maxHeartbeats 8000000 in
set_option maxRecDepth 100000 in
theorem impl_SumSwap.calls (k : Nat) (a0 : Int) (a1 : Int) (a2 : Int) (r : Int) (w : World) (h : impl_SumSwap.f k a0 a1 a2 = some r) :
  Calls Try.prog 65 #[.int .i64 a0, .int .i64 a1, .int .i64 a2] w fun e w' => e = .returned (.int .i64 r) ∧ Below w.heap.size w w' := by
 have HB := Aside0.mk (Below.refl w.heap.size w)
 have H : ((impl_areWords.f k (([a0, a1, a2] : List Int))).bind fun t173 => (if t173 = true then ((impl_swap.f a0 a1 a2).bind fun t174 => (some t174)) else (some (-1)))) = some r := h
 clear h
 obtain ⟨y170, hy170⟩ : ∃ y_ : List Int, y_ = (([a0, a1, a2] : List Int)) := ⟨_, rfl⟩
 replace H : ((impl_areWords.f k y170).bind fun t173 => (if t173 = true then ((impl_swap.f a0 a1 a2).bind fun t174 => (some t174)) else (some (-1)))) = some r := by first | (rw [hy170]; with_reducible exact H) | (have H2_ := (Option.bind_some _ _).symm.trans H; rw [hy170]; with_reducible exact H2_) | (have H2_ := (Option.bind_some _ _).symm.trans H; with_reducible exact H2_) | with_reducible exact H | (rw [hy170]; exact H) | exact H
 have Ny170 := Aside0.mk hy170
 clear hy170
 replace H := Option.bind_eq_some_iff.mp H
 obtain ⟨t173, A40, H⟩ := H
 replace H : (if t173 = true then ((impl_swap.f a0 a1 a2).bind fun t174 => (some t174)) else (some (-1))) = some r := H
 have A4 := Aside0.mk A40
 clear A40
 by_cases c5 : t173 = true
 ·subst c5
  have H1 : ((impl_swap.f a0 a1 a2).bind fun t174 => (some t174)) = some r := by rw [if_pos rfl] at H; exact H
  clear H
  have H := H1
  clear H1
  replace H := Option.bind_eq_some_iff.mp H
  obtain ⟨t174, A60, H⟩ := H
  replace H : (some t174) = some r := H
  have A6 := Aside0.mk A60
  clear A60
  obtain rfl := Option.some.inj H
  go_enter Try.func65, Try.ntmps65
  go_wp2_with (first | ((with_reducible refine gate_dst (N := 10) rfl ?_); refine Kd.R_lit (Kd.int .i64) _ 3 ?hg (N := 10) ?hd (xs := ([a0, a1, a2] : List Int)) (inner := [.int .i64 a0, .int .i64 a1, .int .i64 a2]) (ok := fun _ => True) (okp := fun _ => True) ?hr ?hp (fun _ hk => by first | exact hk | grind) trivial (Below.refl _ _) (Nat.le_refl _) (by simp) ?_; (case hd => rfl); (case hg => rfl); (case hr => first | (go_simp; done) | (go_simp; rfl)); (case hp => exact (Reps.one (show Kd.M (Kd.int .i64) _ _ _ a0 [.int .i64 a0] from rfl) (Reps.one (show Kd.M (Kd.int .i64) _ _ _ a1 [.int .i64 a1] from rfl) (Reps.one (show Kd.M (Kd.int .i64) _ _ _ a2 [.int .i64 a2] from rfl) (Reps.none _ _))))); intro v171 w7 ho8 hb hg_ hnew_; clear hg_ hnew_; (first | rw [← Ny170.out] at ho8 | (simp only [Int.reduceToNat] at ho8; rw [← Ny170.out] at ho8)); have n0_ := Aside0.mk (Kd.R_lower ho8 (below_size (be_ HB))); have n1_ := Aside0.mk (below_step (be_ HB) hb); clear HB; have HO172 := n0_; have HB := n1_; clear n0_ n1_; clear hb ho8; obtain ⟨Ao9, co9, eo9⟩ := Kd.R_slice HO172.out; subst eo9) | ((with_reducible refine gate_callee (f := 113) rfl ?_); refine goesL_ (some 11) rfl rfl Try.func113 (by kernel_rfl) rfl #[.slice Ao9 y170.length co9] rfl mt_ ?_; (with_reducible refine (impl_areWords.calls k _ _ y170 true _ ?side1 ?side2 A4.out).mono ?_); (case side1 => exact cr_ HO172); (case side2 => exact (Kd.R_reads' HO172.out).2.1); rintro e w' ⟨rfl, ⟨nd, rfl⟩⟩; refine ⟨_, rfl, ?_⟩) | ((with_reducible refine gate_callee (f := 114) rfl ?_); refine goesL_ (some 16) rfl rfl Try.func114 (by kernel_rfl) rfl #[.int .i64 a0, .int .i64 a1, .int .i64 a2] rfl mt_ ?_; (with_reducible refine (impl_swap.calls a0 a1 a2 t174 _ A6.out).mono ?_); rintro e w' ⟨rfl, ⟨nd, rfl⟩⟩; refine ⟨_, rfl, ?_⟩))
  go_ret
  exact ⟨by first | rfl | (simp [errW_none, errW_some] <;> rfl) | (simp [*, errW_none, errW_some] <;> rfl), be_ HB⟩
 ·replace c5 := Bool.eq_false_iff.mpr c5
  subst c5
  have H1 : (some (-1)) = some r := by rw [if_neg (show ¬ (false = true) by decide)] at H; exact H
  clear H
  have H := H1
  clear H1
  obtain rfl := Option.some.inj H
  go_enter Try.func65, Try.ntmps65
  go_wp2_with (first | ((with_reducible refine gate_dst (N := 10) rfl ?_); refine Kd.R_lit (Kd.int .i64) _ 3 ?hg (N := 10) ?hd (xs := ([a0, a1, a2] : List Int)) (inner := [.int .i64 a0, .int .i64 a1, .int .i64 a2]) (ok := fun _ => True) (okp := fun _ => True) ?hr ?hp (fun _ hk => by first | exact hk | grind) trivial (Below.refl _ _) (Nat.le_refl _) (by simp) ?_; (case hd => rfl); (case hg => rfl); (case hr => first | (go_simp; done) | (go_simp; rfl)); (case hp => exact (Reps.one (show Kd.M (Kd.int .i64) _ _ _ a0 [.int .i64 a0] from rfl) (Reps.one (show Kd.M (Kd.int .i64) _ _ _ a1 [.int .i64 a1] from rfl) (Reps.one (show Kd.M (Kd.int .i64) _ _ _ a2 [.int .i64 a2] from rfl) (Reps.none _ _))))); intro v171 w10 ho11 hb hg_ hnew_; clear hg_ hnew_; (first | rw [← Ny170.out] at ho11 | (simp only [Int.reduceToNat] at ho11; rw [← Ny170.out] at ho11)); have n0_ := Aside0.mk (Kd.R_lower ho11 (below_size (be_ HB))); have n1_ := Aside0.mk (below_step (be_ HB) hb); clear HB; have HO172 := n0_; have HB := n1_; clear n0_ n1_; clear hb ho11; obtain ⟨Ao12, co12, eo12⟩ := Kd.R_slice HO172.out; subst eo12) | ((with_reducible refine gate_callee (f := 113) rfl ?_); refine goesL_ (some 11) rfl rfl Try.func113 (by kernel_rfl) rfl #[.slice Ao12 y170.length co12] rfl mt_ ?_; (with_reducible refine (impl_areWords.calls k _ _ y170 false _ ?side1 ?side2 A4.out).mono ?_); (case side1 => exact cr_ HO172); (case side2 => exact (Kd.R_reads' HO172.out).2.1); rintro e w' ⟨rfl, ⟨nd, rfl⟩⟩; refine ⟨_, rfl, ?_⟩))
  go_ret
  exact ⟨by first | rfl | (simp [errW_none, errW_some] <;> rfl) | (simp [*, errW_none, errW_some] <;> rfl), be_ HB⟩

/-! ### laws_FnSwapSum: function 12 -/
mutual
def laws_FnSwapSum.j0 : Nat → List Int → List Int → Bool → Option (Bool)
  | 0, _, _, _ => none
  | k + 1, x0, x3, x21 => if x21 = true then (some true) else (if 0 ≤ (wrap64 ((x3.length : Int) - ((x3.length : Int) % 2))) then (if (wrap64 ((x3.length : Int) - ((x3.length : Int) % 2))) ≤ (x3.length : Int) then ((some (x3.take ((wrap64 ((x3.length : Int) - ((x3.length : Int) % 2))) : Int).toNat : List Int)).bind fun y179 => ((laws_pick.f k x0 1 (wrap64 ((y179.length : Int) / 2))).bind fun t182 => ((spec_Be16.f y179 (wrap64 (2 * t182))).bind fun bt183 => ((laws_pick.f k x0 2 256).bind fun t185 => ((laws_pick.f k x0 3 256).bind fun t186 => (if 0 ≤ (wrap64 (2 * t182)) then (if (wrap64 (2 * t182)) ≤ (y179.length : Int) then ((laws_bytesOf.f (y179.take ((wrap64 (2 * t182)) : Int).toNat)).bind fun t191 => ((spec_Put16.f (wrap64 ((wrap64 (t185 * 256)) + t186))).bind fun t194 => (if t191.length + t194.length < 140737488355328 then ((some (t191 ++ t194 : List Int)).bind fun y197 => (if 0 ≤ (wrap64 ((wrap64 (2 * t182)) + 2)) then (if (wrap64 ((wrap64 (2 * t182)) + 2)) ≤ (y179.length : Int) then ((some (y179.drop ((wrap64 ((wrap64 (2 * t182)) + 2)) : Int).toNat : List Int)).bind fun y200 => (if y197.length + y200.length < 140737488355328 then ((some (y197 ++ y200 : List Int)).bind fun y204 => ((spec_OnesSum.f k y179).bind fun t207 => (if t207 = 0 then (laws_FnSwapSum.j1 k y179 bt183.1 (wrap64 ((wrap64 (t185 * 256)) + t186)) y204 true) else ((spec_OnesSum.f k y204).bind fun t208 => (laws_FnSwapSum.j1 k y179 bt183.1 (wrap64 ((wrap64 (t185 * 256)) + t186)) y204 (t208 == 0)))))) else (none))) else (none)) else (none))) else (none)))) else (none)) else (none))))))) else (none)) else (none))
def laws_FnSwapSum.j1 : Nat → List Int → Int → Int → List Int → Bool → Option (Bool)
  | 0, _, _, _, _, _ => none
  | k + 1, x3, x5, x7, x8, x67 => if x67 = true then (some true) else ((laws_bytesOf.f x3).bind fun t209 => ((impl_Checksum.f k t209).bind fun t212 => ((spec_Checksum.f k x3).bind fun t213 => (if t212 = t213 then ((impl_SumSwap.f k t212 x5 x7).bind fun t214 => ((laws_bytesOf.f x8).bind fun t215 => ((impl_Checksum.f k t215).bind fun t218 => (if t214 = t218 then ((laws_bytesOf.f x8).bind fun t219 => ((impl_Checksum.f k t219).bind fun t222 => ((spec_Checksum.f k x8).bind fun t223 => (some (t222 == t223))))) else (some false))))) else (some false)))))
end
def laws_FnSwapSum.f (k : Nat) (l0 : List Int) : Option (Bool) := (laws_big.f l0).bind fun t175 => (if t175 = true then (some true) else ((spec_DrawOnesSum.f k l0).bind fun t176 => (if (t176.length : Int) > 60 then (laws_FnSwapSum.j0 k l0 t176 true) else (laws_FnSwapSum.j0 k l0 t176 (decide ((t176.length : Int) < 2))))))
theorem laws_FnSwapSum.mono_l : ∀ k, (∀ y0 y1 y2, LeO (laws_FnSwapSum.j0 k y0 y1 y2) (laws_FnSwapSum.j0 (k + 1) y0 y1 y2)) ∧ (∀ y0 y1 y2 y3 y4, LeO (laws_FnSwapSum.j1 k y0 y1 y2 y3 y4) (laws_FnSwapSum.j1 (k + 1) y0 y1 y2 y3 y4))
 | 0 => ⟨fun _ _ _ r h => by simp [laws_FnSwapSum.j0] at h, fun _ _ _ _ _ r h => by simp [laws_FnSwapSum.j1] at h⟩
 | k + 1 => by
  obtain ⟨ih0, ih1⟩ := laws_FnSwapSum.mono_l k
  refine ⟨?_, ?_⟩
  ·intro y0 y1 y2
   unfold laws_FnSwapSum.j0
   repeat' first
   | (with_reducible exact ih0 _ _ _)
   | (with_reducible exact ih1 _ _ _ _ _)
   | (with_reducible exact impl_Checksum.mono _ _)
   | (with_reducible exact impl_SumSwap.mono _ _ _ _)
   | (with_reducible exact laws_pick.mono _ _ _ _)
   | (with_reducible exact spec_Checksum.mono _ _)
   | (with_reducible exact spec_DrawOnesSum.mono _ _)
   | (with_reducible exact spec_OnesSum.mono _ _)
   | (with_reducible exact LeO.refl _)
   | (with_reducible exact LeO.none _)
   | (with_reducible refine LeO.ite ?_ ?_)
   | (with_reducible refine LeO.bind ?_ (fun _ => ?_))
   | exact ih0 _ _ _
   | exact ih1 _ _ _ _ _
   | exact impl_Checksum.mono _ _
   | exact impl_SumSwap.mono _ _ _ _
   | exact laws_pick.mono _ _ _ _
   | exact spec_Checksum.mono _ _
   | exact spec_DrawOnesSum.mono _ _
   | exact spec_OnesSum.mono _ _
   | exact LeO.none _
   | refine LeO.ite ?_ ?_
   | refine LeO.bind ?_ (fun _ => ?_)
  ·intro y0 y1 y2 y3 y4
   unfold laws_FnSwapSum.j1
   repeat' first
   | (with_reducible exact ih0 _ _ _)
   | (with_reducible exact ih1 _ _ _ _ _)
   | (with_reducible exact impl_Checksum.mono _ _)
   | (with_reducible exact impl_SumSwap.mono _ _ _ _)
   | (with_reducible exact laws_pick.mono _ _ _ _)
   | (with_reducible exact spec_Checksum.mono _ _)
   | (with_reducible exact spec_DrawOnesSum.mono _ _)
   | (with_reducible exact spec_OnesSum.mono _ _)
   | (with_reducible exact LeO.refl _)
   | (with_reducible exact LeO.none _)
   | (with_reducible refine LeO.ite ?_ ?_)
   | (with_reducible refine LeO.bind ?_ (fun _ => ?_))
   | exact ih0 _ _ _
   | exact ih1 _ _ _ _ _
   | exact impl_Checksum.mono _ _
   | exact impl_SumSwap.mono _ _ _ _
   | exact laws_pick.mono _ _ _ _
   | exact spec_Checksum.mono _ _
   | exact spec_DrawOnesSum.mono _ _
   | exact spec_OnesSum.mono _ _
   | exact LeO.none _
   | refine LeO.ite ?_ ?_
   | refine LeO.bind ?_ (fun _ => ?_)
theorem laws_FnSwapSum.mono : ∀ a0 k, LeO (laws_FnSwapSum.f k a0) (laws_FnSwapSum.f (k + 1) a0) := by
 intro a0 k
 obtain ⟨ih0, ih1⟩ := laws_FnSwapSum.mono_l k
 unfold laws_FnSwapSum.f
 repeat' first
   | (with_reducible exact ih0 _ _ _)
   | (with_reducible exact ih1 _ _ _ _ _)
   | (with_reducible exact impl_Checksum.mono _ _)
   | (with_reducible exact impl_SumSwap.mono _ _ _ _)
   | (with_reducible exact laws_pick.mono _ _ _ _)
   | (with_reducible exact spec_Checksum.mono _ _)
   | (with_reducible exact spec_DrawOnesSum.mono _ _)
   | (with_reducible exact spec_OnesSum.mono _ _)
   | (with_reducible exact LeO.refl _)
   | (with_reducible exact LeO.none _)
   | (with_reducible refine LeO.ite ?_ ?_)
   | (with_reducible refine LeO.bind ?_ (fun _ => ?_))
   | exact ih0 _ _ _
   | exact ih1 _ _ _ _ _
   | exact impl_Checksum.mono _ _
   | exact impl_SumSwap.mono _ _ _ _
   | exact laws_pick.mono _ _ _ _
   | exact spec_Checksum.mono _ _
   | exact spec_DrawOnesSum.mono _ _
   | exact spec_OnesSum.mono _ _
   | exact LeO.none _
   | refine LeO.ite ?_ ?_
   | refine LeO.bind ?_ (fun _ => ?_)
def laws_FnSwapSum.T10 : Bool × List (List Nat × List Nat) := (true, [([], []), ([], []), ([0, 1], [0, 1]), ([2], [2]), ([], []), ([4, 3], [4]), ([3, 5, 5], [3, 5]), ([], []), ([], []), ([8], [8]), ([7, 9], [7, 9]), ([6, 10, 6], [6, 10]), ([11, 11, 0, 1, 2, 3, 4, 5, 6, 7, 8, 9, 10, 11], [11])])
def laws_FnSwapSum.B10 : List Nat := [0, 0, 3, 7, 0, 31, 63, 0, 0, 256, 896, 2047, 4095]
theorem laws_FnSwapSum.tab10 : rtab .any (opsOf Try.f12 10) = laws_FnSwapSum.T10 := by kernel_rfl
theorem laws_FnSwapSum.bits10 : waitsOk laws_FnSwapSum.T10.2 laws_FnSwapSum.B10 = true := by kernel_rfl
set_option maxHeartbeats 8000000 in
set_option maxRecDepth 100000 in
theorem laws_FnSwapSum.calls (k : Nat) (A0 : Option Addr) (c0 : Nat) (l0 : List Int) (r : Bool) (w : World) (hr0 : Kd.C (Kd.int .u8) w A0 l0.length l0) (hc0 : l0.length ≤ c0) (h : laws_FnSwapSum.f k l0 = some r) :
  Calls Try.prog 12 #[.slice A0 l0.length c0] w fun e w' => e = .returned (.bool r) ∧ Below w.heap.size w w' := by
 have HR0 := Aside0.mk hr0
 have HC0 := Aside0.mk hc0
 clear hr0 hc0; have HB := Aside0.mk (Below.refl w.heap.size w)
 have H : ((laws_big.f l0).bind fun t175 => (if t175 = true then (some true) else ((spec_DrawOnesSum.f k l0).bind fun t176 => (if (t176.length : Int) > 60 then (laws_FnSwapSum.j0 k l0 t176 true) else (laws_FnSwapSum.j0 k l0 t176 (decide ((t176.length : Int) < 2))))))) = some r := h
 clear h
 replace H := Option.bind_eq_some_iff.mp H
 obtain ⟨t175, A20, H⟩ := H
 replace H : (if t175 = true then (some true) else ((spec_DrawOnesSum.f k l0).bind fun t176 => (if (t176.length : Int) > 60 then (laws_FnSwapSum.j0 k l0 t176 true) else (laws_FnSwapSum.j0 k l0 t176 (decide ((t176.length : Int) < 2)))))) = some r := H
 have A2 := Aside0.mk A20
 clear A20
 by_cases c3 : t175 = true
 ·subst c3
  have H1 : (some true) = some r := by rw [if_pos rfl] at H; exact H
  clear H
  have H := H1
  clear H1
  obtain rfl := Option.some.inj H
  go_enter Try.func12, Try.ntmps12
  go_wp2_with (first | ((with_reducible refine gate_callee (f := 18) rfl ?_); refine goesL_ (some 11) rfl rfl Try.func18 (by kernel_rfl) rfl #[.slice A0 l0.length c0] rfl mt_ ?_; (with_reducible refine (laws_big.calls _ _ l0 true _ ?side1 ?side2 A2.out).mono ?_); (case side1 => repeat (first | exact HR0.out | (with_reducible refine Kd.C_alloc ?_ _) | (with_reducible refine Kd.C_drewN ?_ _) | (with_reducible refine Kd.C_drew ?_))); (case side2 => exact HC0.out); rintro e w' ⟨rfl, ⟨nd, rfl⟩⟩; refine ⟨_, rfl, ?_⟩))
  go_ret
  exact ⟨by first | rfl | (simp [errW_none, errW_some] <;> rfl) | (simp [*, errW_none, errW_some] <;> rfl), be_ HB⟩
 ·replace c3 := Bool.eq_false_iff.mpr c3
  subst c3
  have H1 : ((spec_DrawOnesSum.f k l0).bind fun t176 => (if (t176.length : Int) > 60 then (laws_FnSwapSum.j0 k l0 t176 true) else (laws_FnSwapSum.j0 k l0 t176 (decide ((t176.length : Int) < 2))))) = some r := by rw [if_neg (show ¬ (false = true) by decide)] at H; exact H
  clear H
  have H := H1
  clear H1
  replace H := Option.bind_eq_some_iff.mp H
  obtain ⟨t176, A40, H⟩ := H
  replace H : (if (t176.length : Int) > 60 then (laws_FnSwapSum.j0 k l0 t176 true) else (laws_FnSwapSum.j0 k l0 t176 (decide ((t176.length : Int) < 2)))) = some r := H
  have A4 := Aside0.mk A40
  clear A40
  have HC5 := Aside0.mk H
  clear H
  go_enter Try.func12, Try.ntmps12
  go_upto_region 4 with (first | ((with_reducible refine gate_callee (f := 18) rfl ?_); refine goesL_ (some 11) rfl rfl Try.func18 (by kernel_rfl) rfl #[.slice A0 l0.length c0] rfl mt_ ?_; (with_reducible refine (laws_big.calls _ _ l0 false _ ?side1 ?side2 A2.out).mono ?_); (case side1 => repeat (first | exact HR0.out | (with_reducible refine Kd.C_alloc ?_ _) | (with_reducible refine Kd.C_drewN ?_ _) | (with_reducible refine Kd.C_drew ?_))); (case side2 => exact HC0.out); rintro e w' ⟨rfl, ⟨nd, rfl⟩⟩; refine ⟨_, rfl, ?_⟩) | ((with_reducible refine gate_callee (f := 36) rfl ?_); refine goesL_ (some 13) rfl rfl Try.func36 (by kernel_rfl) rfl #[.slice A0 l0.length c0] rfl mt_ ?_; (with_reducible refine (spec_DrawOnesSum.calls k _ _ l0 t176 _ ?side1 ?side2 A4.out).mono ?_); (case side1 => repeat (first | exact HR0.out | (with_reducible refine Kd.C_alloc ?_ _) | (with_reducible refine Kd.C_drewN ?_ _) | (with_reducible refine Kd.C_drew ?_))); (case side2 => exact HC0.out); rintro e w6 ⟨v177, rfl, ho0, hb⟩; refine ⟨_, rfl, ?_⟩; have n0_ := Aside0.mk (Kd.R_lower ho0 (below_size (be_ HB))); have n1_ := Aside0.mk (below_step (be_ HB) hb); clear HB; have HO178 := n0_; have HB := n1_; clear n0_ n1_; (try clear hb); (try clear hb2); (try clear hk); (try clear hi); (try clear ho0)))
  (try simp only [Act.put, List.setIfInBounds_toArray, List.set_cons_zero, List.set_cons_succ])
  go_cut [21] (fun v21 wc => ∃ (kq : Nat) (x21_4 : Bool), v21 = .bool x21_4 ∧ Aside0 (laws_FnSwapSum.j0 kq l0 t176 x21_4 = some r) ∧ Aside0 (kq ≤ k) ∧ Aside0 (Kd.R (Kd.int .u8) 5 wc w.heap.size (fun _ => True) v177 t176) ∧ Aside0 (Below w.heap.size w wc))
  case first =>
   have H := HC5.out
   clear HC5
   by_cases c7 : (t176.length : Int) > 60
   ·rw [if_pos c7] at H
    have c7b0 : decide (60 < (t176.length : Int)) = true := decide_eq_true c7
    have c7b1 : decide (60 < t176.length) = true := decide_eq_true (by omega)
    clear c7
    (first | rw [c7b0] | (simp only [i64_w, i32_w]; rw [c7b0]) | skip)
    have H' := Aside0.mk H
    clear H
    obtain ⟨Ao8, co8, eo8⟩ := Kd.R_slice HO178.out
    subst eo8
    go_wp2
    go_meet
    case rel => exact ⟨_, (true), (by first | rfl | (simp; done) | (simp [*]; done)), H', ⟨by first | omega | exact Nat.le_refl _⟩, ⟨kr_ HO178⟩, ⟨be_ HB⟩⟩
   ·rw [if_neg c7] at H
    have c7b0 : decide (60 < (t176.length : Int)) = false := decide_eq_false c7
    have c7b1 : decide (60 < t176.length) = false := decide_eq_false (by omega)
    clear c7
    (first | rw [c7b0] | (simp only [i64_w, i32_w]; rw [c7b0]) | skip)
    have H' := Aside0.mk H
    clear H
    obtain ⟨Ao9, co9, eo9⟩ := Kd.R_slice HO178.out
    subst eo9
    go_wp2
    go_meet
    case rel => exact ⟨_, (decide ((t176.length : Int) < 2)), (by first | rfl | (simp; done) | (simp [*]; done)), H', ⟨by first | omega | exact Nat.le_refl _⟩, ⟨kr_ HO178⟩, ⟨be_ HB⟩⟩
  case rest =>
   clear HC5; (try clear c1); (try clear p2); (try clear c3); (try clear c7); (try clear c7b0); (try clear c7b1)
   obtain ⟨kq, x21_4, rfl, HA, HJ4, HO_3, HB⟩ := hcut
   cases kq with
   | zero => exact absurd HA.out (by simp [laws_FnSwapSum.j0])
   | succ kj4 =>
    have H := HA.out
    clear HA
    simp only [laws_FnSwapSum.j0] at H
    by_cases c10 : x21_4 = true
    ·subst c10
     have H1 : (some true) = some r := by rw [if_pos rfl] at H; exact H
     clear H
     have H := H1
     clear H1
     obtain rfl := Option.some.inj H
     go_wp2
     go_ret
     exact ⟨by first | rfl | (simp [errW_none, errW_some] <;> rfl) | (simp [*, errW_none, errW_some] <;> rfl), be_ HB⟩
    ·replace c10 := Bool.eq_false_iff.mpr c10
     subst c10
     have H1 : (if 0 ≤ (wrap64 ((t176.length : Int) - ((t176.length : Int) % 2))) then (if (wrap64 ((t176.length : Int) - ((t176.length : Int) % 2))) ≤ (t176.length : Int) then ((some (t176.take ((wrap64 ((t176.length : Int) - ((t176.length : Int) % 2))) : Int).toNat : List Int)).bind fun y179 => ((laws_pick.f kj4 l0 1 (wrap64 ((y179.length : Int) / 2))).bind fun t182 => ((spec_Be16.f y179 (wrap64 (2 * t182))).bind fun bt183 => ((laws_pick.f kj4 l0 2 256).bind fun t185 => ((laws_pick.f kj4 l0 3 256).bind fun t186 => (if 0 ≤ (wrap64 (2 * t182)) then (if (wrap64 (2 * t182)) ≤ (y179.length : Int) then ((laws_bytesOf.f (y179.take ((wrap64 (2 * t182)) : Int).toNat)).bind fun t191 => ((spec_Put16.f (wrap64 ((wrap64 (t185 * 256)) + t186))).bind fun t194 => (if t191.length + t194.length < 140737488355328 then ((some (t191 ++ t194 : List Int)).bind fun y197 => (if 0 ≤ (wrap64 ((wrap64 (2 * t182)) + 2)) then (if (wrap64 ((wrap64 (2 * t182)) + 2)) ≤ (y179.length : Int) then ((some (y179.drop ((wrap64 ((wrap64 (2 * t182)) + 2)) : Int).toNat : List Int)).bind fun y200 => (if y197.length + y200.length < 140737488355328 then ((some (y197 ++ y200 : List Int)).bind fun y204 => ((spec_OnesSum.f kj4 y179).bind fun t207 => (if t207 = 0 then (laws_FnSwapSum.j1 kj4 y179 bt183.1 (wrap64 ((wrap64 (t185 * 256)) + t186)) y204 true) else ((spec_OnesSum.f kj4 y204).bind fun t208 => (laws_FnSwapSum.j1 kj4 y179 bt183.1 (wrap64 ((wrap64 (t185 * 256)) + t186)) y204 (t208 == 0)))))) else (none))) else (none)) else (none))) else (none)))) else (none)) else (none))))))) else (none)) else (none)) = some r := by rw [if_neg (show ¬ (false = true) by decide)] at H; exact H
     clear H
     have H := H1
     clear H1
     obtain ⟨ji11, hji11⟩ : ∃ j_ : Int, (wrap64 ((t176.length : Int) - ((t176.length : Int) % 2))) = j_ := ⟨_, rfl⟩
     replace H : (if 0 ≤ (ji11) then (if (ji11) ≤ (t176.length : Int) then ((some (t176.take ((ji11) : Int).toNat : List Int)).bind fun y179 => ((laws_pick.f kj4 l0 1 (wrap64 ((y179.length : Int) / 2))).bind fun t182 => ((spec_Be16.f y179 (wrap64 (2 * t182))).bind fun bt183 => ((laws_pick.f kj4 l0 2 256).bind fun t185 => ((laws_pick.f kj4 l0 3 256).bind fun t186 => (if 0 ≤ (wrap64 (2 * t182)) then (if (wrap64 (2 * t182)) ≤ (y179.length : Int) then ((laws_bytesOf.f (y179.take ((wrap64 (2 * t182)) : Int).toNat)).bind fun t191 => ((spec_Put16.f (wrap64 ((wrap64 (t185 * 256)) + t186))).bind fun t194 => (if t191.length + t194.length < 140737488355328 then ((some (t191 ++ t194 : List Int)).bind fun y197 => (if 0 ≤ (wrap64 ((wrap64 (2 * t182)) + 2)) then (if (wrap64 ((wrap64 (2 * t182)) + 2)) ≤ (y179.length : Int) then ((some (y179.drop ((wrap64 ((wrap64 (2 * t182)) + 2)) : Int).toNat : List Int)).bind fun y200 => (if y197.length + y200.length < 140737488355328 then ((some (y197 ++ y200 : List Int)).bind fun y204 => ((spec_OnesSum.f kj4 y179).bind fun t207 => (if t207 = 0 then (laws_FnSwapSum.j1 kj4 y179 bt183.1 (wrap64 ((wrap64 (t185 * 256)) + t186)) y204 true) else ((spec_OnesSum.f kj4 y204).bind fun t208 => (laws_FnSwapSum.j1 kj4 y179 bt183.1 (wrap64 ((wrap64 (t185 * 256)) + t186)) y204 (t208 == 0)))))) else (none))) else (none)) else (none))) else (none)))) else (none)) else (none))))))) else (none)) else (none)) = some r := by first | (rw [hji11] at H; exact H) | (simp only [hji11] at H ⊢; exact H)
     have hji11w : (IntKind.i64.wrap ((t176.length : Int) - ((t176.length : Int) % 2))) = ji11 := (i64_w _).trans hji11
     by_cases c12 : 0 ≤ (ji11)
     ·rw [if_pos c12] at H
      have c12b0 := eq_true c12
      have c12b1 : decide (0 ≤ (ji11)) = true := decide_eq_true c12
      clear c12
      by_cases c13 : (ji11) ≤ (t176.length : Int)
      ·rw [if_pos c13] at H
       have c13b0 := eq_true c13
       have c13b1 : decide ((ji11) ≤ (t176.length : Int)) = true := decide_eq_true c13
       clear c13
       obtain ⟨y179, hy179⟩ : ∃ y_ : List Int, y_ = (t176.take ((ji11) : Int).toNat) := ⟨_, rfl⟩
       replace H : ((laws_pick.f kj4 l0 1 (wrap64 ((y179.length : Int) / 2))).bind fun t182 => ((spec_Be16.f y179 (wrap64 (2 * t182))).bind fun bt183 => ((laws_pick.f kj4 l0 2 256).bind fun t185 => ((laws_pick.f kj4 l0 3 256).bind fun t186 => (if 0 ≤ (wrap64 (2 * t182)) then (if (wrap64 (2 * t182)) ≤ (y179.length : Int) then ((laws_bytesOf.f (y179.take ((wrap64 (2 * t182)) : Int).toNat)).bind fun t191 => ((spec_Put16.f (wrap64 ((wrap64 (t185 * 256)) + t186))).bind fun t194 => (if t191.length + t194.length < 140737488355328 then ((some (t191 ++ t194 : List Int)).bind fun y197 => (if 0 ≤ (wrap64 ((wrap64 (2 * t182)) + 2)) then (if (wrap64 ((wrap64 (2 * t182)) + 2)) ≤ (y179.length : Int) then ((some (y179.drop ((wrap64 ((wrap64 (2 * t182)) + 2)) : Int).toNat : List Int)).bind fun y200 => (if y197.length + y200.length < 140737488355328 then ((some (y197 ++ y200 : List Int)).bind fun y204 => ((spec_OnesSum.f kj4 y179).bind fun t207 => (if t207 = 0 then (laws_FnSwapSum.j1 kj4 y179 bt183.1 (wrap64 ((wrap64 (t185 * 256)) + t186)) y204 true) else ((spec_OnesSum.f kj4 y204).bind fun t208 => (laws_FnSwapSum.j1 kj4 y179 bt183.1 (wrap64 ((wrap64 (t185 * 256)) + t186)) y204 (t208 == 0)))))) else (none))) else (none)) else (none))) else (none)))) else (none)) else (none)))))) = some r := by first | (rw [hy179]; with_reducible exact H) | (have H2_ := (Option.bind_some _ _).symm.trans H; rw [hy179]; with_reducible exact H2_) | (have H2_ := (Option.bind_some _ _).symm.trans H; with_reducible exact H2_) | with_reducible exact H | (rw [hy179]; exact H) | exact H
       have Ny179 := Aside0.mk hy179
       clear hy179
       replace H := Option.bind_eq_some_iff.mp H
       obtain ⟨t182, A140, H⟩ := H
       replace H : ((spec_Be16.f y179 (wrap64 (2 * t182))).bind fun bt183 => ((laws_pick.f kj4 l0 2 256).bind fun t185 => ((laws_pick.f kj4 l0 3 256).bind fun t186 => (if 0 ≤ (wrap64 (2 * t182)) then (if (wrap64 (2 * t182)) ≤ (y179.length : Int) then ((laws_bytesOf.f (y179.take ((wrap64 (2 * t182)) : Int).toNat)).bind fun t191 => ((spec_Put16.f (wrap64 ((wrap64 (t185 * 256)) + t186))).bind fun t194 => (if t191.length + t194.length < 140737488355328 then ((some (t191 ++ t194 : List Int)).bind fun y197 => (if 0 ≤ (wrap64 ((wrap64 (2 * t182)) + 2)) then (if (wrap64 ((wrap64 (2 * t182)) + 2)) ≤ (y179.length : Int) then ((some (y179.drop ((wrap64 ((wrap64 (2 * t182)) + 2)) : Int).toNat : List Int)).bind fun y200 => (if y197.length + y200.length < 140737488355328 then ((some (y197 ++ y200 : List Int)).bind fun y204 => ((spec_OnesSum.f kj4 y179).bind fun t207 => (if t207 = 0 then (laws_FnSwapSum.j1 kj4 y179 bt183.1 (wrap64 ((wrap64 (t185 * 256)) + t186)) y204 true) else ((spec_OnesSum.f kj4 y204).bind fun t208 => (laws_FnSwapSum.j1 kj4 y179 bt183.1 (wrap64 ((wrap64 (t185 * 256)) + t186)) y204 (t208 == 0)))))) else (none))) else (none)) else (none))) else (none)))) else (none)) else (none))))) = some r := H
       have A14 := Aside0.mk A140
       clear A140
       replace H := Option.bind_eq_some_iff.mp H
       obtain ⟨⟨t183, t184⟩, A150, H⟩ := H
       replace H : ((laws_pick.f kj4 l0 2 256).bind fun t185 => ((laws_pick.f kj4 l0 3 256).bind fun t186 => (if 0 ≤ (wrap64 (2 * t182)) then (if (wrap64 (2 * t182)) ≤ (y179.length : Int) then ((laws_bytesOf.f (y179.take ((wrap64 (2 * t182)) : Int).toNat)).bind fun t191 => ((spec_Put16.f (wrap64 ((wrap64 (t185 * 256)) + t186))).bind fun t194 => (if t191.length + t194.length < 140737488355328 then ((some (t191 ++ t194 : List Int)).bind fun y197 => (if 0 ≤ (wrap64 ((wrap64 (2 * t182)) + 2)) then (if (wrap64 ((wrap64 (2 * t182)) + 2)) ≤ (y179.length : Int) then ((some (y179.drop ((wrap64 ((wrap64 (2 * t182)) + 2)) : Int).toNat : List Int)).bind fun y200 => (if y197.length + y200.length < 140737488355328 then ((some (y197 ++ y200 : List Int)).bind fun y204 => ((spec_OnesSum.f kj4 y179).bind fun t207 => (if t207 = 0 then (laws_FnSwapSum.j1 kj4 y179 t183 (wrap64 ((wrap64 (t185 * 256)) + t186)) y204 true) else ((spec_OnesSum.f kj4 y204).bind fun t208 => (laws_FnSwapSum.j1 kj4 y179 t183 (wrap64 ((wrap64 (t185 * 256)) + t186)) y204 (t208 == 0)))))) else (none))) else (none)) else (none))) else (none)))) else (none)) else (none)))) = some r := H
       have A15 := Aside0.mk A150
       clear A150
       replace H := Option.bind_eq_some_iff.mp H
       obtain ⟨t185, A160, H⟩ := H
       replace H : ((laws_pick.f kj4 l0 3 256).bind fun t186 => (if 0 ≤ (wrap64 (2 * t182)) then (if (wrap64 (2 * t182)) ≤ (y179.length : Int) then ((laws_bytesOf.f (y179.take ((wrap64 (2 * t182)) : Int).toNat)).bind fun t191 => ((spec_Put16.f (wrap64 ((wrap64 (t185 * 256)) + t186))).bind fun t194 => (if t191.length + t194.length < 140737488355328 then ((some (t191 ++ t194 : List Int)).bind fun y197 => (if 0 ≤ (wrap64 ((wrap64 (2 * t182)) + 2)) then (if (wrap64 ((wrap64 (2 * t182)) + 2)) ≤ (y179.length : Int) then ((some (y179.drop ((wrap64 ((wrap64 (2 * t182)) + 2)) : Int).toNat : List Int)).bind fun y200 => (if y197.length + y200.length < 140737488355328 then ((some (y197 ++ y200 : List Int)).bind fun y204 => ((spec_OnesSum.f kj4 y179).bind fun t207 => (if t207 = 0 then (laws_FnSwapSum.j1 kj4 y179 t183 (wrap64 ((wrap64 (t185 * 256)) + t186)) y204 true) else ((spec_OnesSum.f kj4 y204).bind fun t208 => (laws_FnSwapSum.j1 kj4 y179 t183 (wrap64 ((wrap64 (t185 * 256)) + t186)) y204 (t208 == 0)))))) else (none))) else (none)) else (none))) else (none)))) else (none)) else (none))) = some r := H
       have A16 := Aside0.mk A160
       clear A160
       replace H := Option.bind_eq_some_iff.mp H
       obtain ⟨t186, A170, H⟩ := H
       replace H : (if 0 ≤ (wrap64 (2 * t182)) then (if (wrap64 (2 * t182)) ≤ (y179.length : Int) then ((laws_bytesOf.f (y179.take ((wrap64 (2 * t182)) : Int).toNat)).bind fun t191 => ((spec_Put16.f (wrap64 ((wrap64 (t185 * 256)) + t186))).bind fun t194 => (if t191.length + t194.length < 140737488355328 then ((some (t191 ++ t194 : List Int)).bind fun y197 => (if 0 ≤ (wrap64 ((wrap64 (2 * t182)) + 2)) then (if (wrap64 ((wrap64 (2 * t182)) + 2)) ≤ (y179.length : Int) then ((some (y179.drop ((wrap64 ((wrap64 (2 * t182)) + 2)) : Int).toNat : List Int)).bind fun y200 => (if y197.length + y200.length < 140737488355328 then ((some (y197 ++ y200 : List Int)).bind fun y204 => ((spec_OnesSum.f kj4 y179).bind fun t207 => (if t207 = 0 then (laws_FnSwapSum.j1 kj4 y179 t183 (wrap64 ((wrap64 (t185 * 256)) + t186)) y204 true) else ((spec_OnesSum.f kj4 y204).bind fun t208 => (laws_FnSwapSum.j1 kj4 y179 t183 (wrap64 ((wrap64 (t185 * 256)) + t186)) y204 (t208 == 0)))))) else (none))) else (none)) else (none))) else (none)))) else (none)) else (none)) = some r := H
       have A17 := Aside0.mk A170
       clear A170
       obtain ⟨ji18, hji18⟩ : ∃ j_ : Int, (wrap64 (2 * t182)) = j_ := ⟨_, rfl⟩
       replace H : (if 0 ≤ (ji18) then (if (ji18) ≤ (y179.length : Int) then ((laws_bytesOf.f (y179.take ((ji18) : Int).toNat)).bind fun t191 => ((spec_Put16.f (wrap64 ((wrap64 (t185 * 256)) + t186))).bind fun t194 => (if t191.length + t194.length < 140737488355328 then ((some (t191 ++ t194 : List Int)).bind fun y197 => (if 0 ≤ (wrap64 ((ji18) + 2)) then (if (wrap64 ((ji18) + 2)) ≤ (y179.length : Int) then ((some (y179.drop ((wrap64 ((ji18) + 2)) : Int).toNat : List Int)).bind fun y200 => (if y197.length + y200.length < 140737488355328 then ((some (y197 ++ y200 : List Int)).bind fun y204 => ((spec_OnesSum.f kj4 y179).bind fun t207 => (if t207 = 0 then (laws_FnSwapSum.j1 kj4 y179 t183 (wrap64 ((wrap64 (t185 * 256)) + t186)) y204 true) else ((spec_OnesSum.f kj4 y204).bind fun t208 => (laws_FnSwapSum.j1 kj4 y179 t183 (wrap64 ((wrap64 (t185 * 256)) + t186)) y204 (t208 == 0)))))) else (none))) else (none)) else (none))) else (none)))) else (none)) else (none)) = some r := by first | (rw [hji18] at H; exact H) | (simp only [hji18] at H ⊢; exact H)
       (try rw [hji18] at A14)
       (try rw [hji18] at A15)
       (try rw [hji18] at A16)
       (try rw [hji18] at A17)
       have hji18w : (IntKind.i64.wrap (2 * t182)) = ji18 := (i64_w _).trans hji18
       by_cases c19 : 0 ≤ (ji18)
       ·rw [if_pos c19] at H
        have c19b0 := eq_true c19
        have c19b1 : decide (0 ≤ (ji18)) = true := decide_eq_true c19
        clear c19
        by_cases c20 : (ji18) ≤ (y179.length : Int)
        ·rw [if_pos c20] at H
         have c20b0 := eq_true c20
         have c20b1 : decide ((ji18) ≤ (y179.length : Int)) = true := decide_eq_true c20
         clear c20
         obtain ⟨y187, hy187⟩ : ∃ y_ : List Int, y_ = (y179.take ((ji18) : Int).toNat) := ⟨_, rfl⟩
         replace H : ((laws_bytesOf.f y187).bind fun t191 => ((spec_Put16.f (wrap64 ((wrap64 (t185 * 256)) + t186))).bind fun t194 => (if t191.length + t194.length < 140737488355328 then ((some (t191 ++ t194 : List Int)).bind fun y197 => (if 0 ≤ (wrap64 ((ji18) + 2)) then (if (wrap64 ((ji18) + 2)) ≤ (y179.length : Int) then ((some (y179.drop ((wrap64 ((ji18) + 2)) : Int).toNat : List Int)).bind fun y200 => (if y197.length + y200.length < 140737488355328 then ((some (y197 ++ y200 : List Int)).bind fun y204 => ((spec_OnesSum.f kj4 y179).bind fun t207 => (if t207 = 0 then (laws_FnSwapSum.j1 kj4 y179 t183 (wrap64 ((wrap64 (t185 * 256)) + t186)) y204 true) else ((spec_OnesSum.f kj4 y204).bind fun t208 => (laws_FnSwapSum.j1 kj4 y179 t183 (wrap64 ((wrap64 (t185 * 256)) + t186)) y204 (t208 == 0)))))) else (none))) else (none)) else (none))) else (none)))) = some r := by first | (rw [hy187]; with_reducible exact H) | (have H2_ := (Option.bind_some _ _).symm.trans H; rw [hy187]; with_reducible exact H2_) | (have H2_ := (Option.bind_some _ _).symm.trans H; with_reducible exact H2_) | with_reducible exact H | (rw [hy187]; exact H) | exact H
         have Ny187 := Aside0.mk hy187
         clear hy187
         replace H := Option.bind_eq_some_iff.mp H
         obtain ⟨t191, A210, H⟩ := H
         replace H : ((spec_Put16.f (wrap64 ((wrap64 (t185 * 256)) + t186))).bind fun t194 => (if t191.length + t194.length < 140737488355328 then ((some (t191 ++ t194 : List Int)).bind fun y197 => (if 0 ≤ (wrap64 ((ji18) + 2)) then (if (wrap64 ((ji18) + 2)) ≤ (y179.length : Int) then ((some (y179.drop ((wrap64 ((ji18) + 2)) : Int).toNat : List Int)).bind fun y200 => (if y197.length + y200.length < 140737488355328 then ((some (y197 ++ y200 : List Int)).bind fun y204 => ((spec_OnesSum.f kj4 y179).bind fun t207 => (if t207 = 0 then (laws_FnSwapSum.j1 kj4 y179 t183 (wrap64 ((wrap64 (t185 * 256)) + t186)) y204 true) else ((spec_OnesSum.f kj4 y204).bind fun t208 => (laws_FnSwapSum.j1 kj4 y179 t183 (wrap64 ((wrap64 (t185 * 256)) + t186)) y204 (t208 == 0)))))) else (none))) else (none)) else (none))) else (none))) = some r := H
         have A21 := Aside0.mk A210
         clear A210
         replace H := Option.bind_eq_some_iff.mp H
         obtain ⟨t194, A220, H⟩ := H
         replace H : (if t191.length + t194.length < 140737488355328 then ((some (t191 ++ t194 : List Int)).bind fun y197 => (if 0 ≤ (wrap64 ((ji18) + 2)) then (if (wrap64 ((ji18) + 2)) ≤ (y179.length : Int) then ((some (y179.drop ((wrap64 ((ji18) + 2)) : Int).toNat : List Int)).bind fun y200 => (if y197.length + y200.length < 140737488355328 then ((some (y197 ++ y200 : List Int)).bind fun y204 => ((spec_OnesSum.f kj4 y179).bind fun t207 => (if t207 = 0 then (laws_FnSwapSum.j1 kj4 y179 t183 (wrap64 ((wrap64 (t185 * 256)) + t186)) y204 true) else ((spec_OnesSum.f kj4 y204).bind fun t208 => (laws_FnSwapSum.j1 kj4 y179 t183 (wrap64 ((wrap64 (t185 * 256)) + t186)) y204 (t208 == 0)))))) else (none))) else (none)) else (none))) else (none)) = some r := H
         have A22 := Aside0.mk A220
         clear A220
         by_cases c23 : t191.length + t194.length < 140737488355328
         ·rw [if_pos c23] at H
          have LMc23 := Aside0.mk c23
          clear c23
          obtain ⟨y197, hy197⟩ : ∃ y_ : List Int, y_ = (t191 ++ t194) := ⟨_, rfl⟩
          replace H : (if 0 ≤ (wrap64 ((ji18) + 2)) then (if (wrap64 ((ji18) + 2)) ≤ (y179.length : Int) then ((some (y179.drop ((wrap64 ((ji18) + 2)) : Int).toNat : List Int)).bind fun y200 => (if y197.length + y200.length < 140737488355328 then ((some (y197 ++ y200 : List Int)).bind fun y204 => ((spec_OnesSum.f kj4 y179).bind fun t207 => (if t207 = 0 then (laws_FnSwapSum.j1 kj4 y179 t183 (wrap64 ((wrap64 (t185 * 256)) + t186)) y204 true) else ((spec_OnesSum.f kj4 y204).bind fun t208 => (laws_FnSwapSum.j1 kj4 y179 t183 (wrap64 ((wrap64 (t185 * 256)) + t186)) y204 (t208 == 0)))))) else (none))) else (none)) else (none)) = some r := by first | (rw [hy197]; with_reducible exact H) | (have H2_ := (Option.bind_some _ _).symm.trans H; rw [hy197]; with_reducible exact H2_) | (have H2_ := (Option.bind_some _ _).symm.trans H; with_reducible exact H2_) | with_reducible exact H | (rw [hy197]; exact H) | exact H
          have Ny197 := Aside0.mk hy197
          clear hy197
          obtain ⟨ji24, hji24⟩ : ∃ j_ : Int, (wrap64 ((ji18) + 2)) = j_ := ⟨_, rfl⟩
          replace H : (if 0 ≤ (ji24) then (if (ji24) ≤ (y179.length : Int) then ((some (y179.drop ((ji24) : Int).toNat : List Int)).bind fun y200 => (if y197.length + y200.length < 140737488355328 then ((some (y197 ++ y200 : List Int)).bind fun y204 => ((spec_OnesSum.f kj4 y179).bind fun t207 => (if t207 = 0 then (laws_FnSwapSum.j1 kj4 y179 t183 (wrap64 ((wrap64 (t185 * 256)) + t186)) y204 true) else ((spec_OnesSum.f kj4 y204).bind fun t208 => (laws_FnSwapSum.j1 kj4 y179 t183 (wrap64 ((wrap64 (t185 * 256)) + t186)) y204 (t208 == 0)))))) else (none))) else (none)) else (none)) = some r := by first | (rw [hji24] at H; exact H) | (simp only [hji24] at H ⊢; exact H)
          (try rw [hji24] at A14)
          (try rw [hji24] at A15)
          (try rw [hji24] at A16)
          (try rw [hji24] at A17)
          (try rw [hji24] at A21)
          (try rw [hji24] at A22)
          have hji24w : (IntKind.i64.wrap ((ji18) + 2)) = ji24 := (i64_w _).trans hji24
          by_cases c25 : 0 ≤ (ji24)
          ·rw [if_pos c25] at H
           have c25b0 := eq_true c25
           have c25b1 : decide (0 ≤ (ji24)) = true := decide_eq_true c25
           clear c25
           by_cases c26 : (ji24) ≤ (y179.length : Int)
           ·rw [if_pos c26] at H
            have c26b0 := eq_true c26
            have c26b1 : decide ((ji24) ≤ (y179.length : Int)) = true := decide_eq_true c26
            clear c26
            obtain ⟨y200, hy200⟩ : ∃ y_ : List Int, y_ = (y179.drop ((ji24) : Int).toNat) := ⟨_, rfl⟩
            replace H : (if y197.length + y200.length < 140737488355328 then ((some (y197 ++ y200 : List Int)).bind fun y204 => ((spec_OnesSum.f kj4 y179).bind fun t207 => (if t207 = 0 then (laws_FnSwapSum.j1 kj4 y179 t183 (wrap64 ((wrap64 (t185 * 256)) + t186)) y204 true) else ((spec_OnesSum.f kj4 y204).bind fun t208 => (laws_FnSwapSum.j1 kj4 y179 t183 (wrap64 ((wrap64 (t185 * 256)) + t186)) y204 (t208 == 0)))))) else (none)) = some r := by first | (rw [hy200]; with_reducible exact H) | (have H2_ := (Option.bind_some _ _).symm.trans H; rw [hy200]; with_reducible exact H2_) | (have H2_ := (Option.bind_some _ _).symm.trans H; with_reducible exact H2_) | with_reducible exact H | (rw [hy200]; exact H) | exact H
            have Ny200 := Aside0.mk hy200
            clear hy200
            by_cases c27 : y197.length + y200.length < 140737488355328
            ·rw [if_pos c27] at H
             have LMc27 := Aside0.mk c27
             clear c27
             obtain ⟨y204, hy204⟩ : ∃ y_ : List Int, y_ = (y197 ++ y200) := ⟨_, rfl⟩
             replace H : ((spec_OnesSum.f kj4 y179).bind fun t207 => (if t207 = 0 then (laws_FnSwapSum.j1 kj4 y179 t183 (wrap64 ((wrap64 (t185 * 256)) + t186)) y204 true) else ((spec_OnesSum.f kj4 y204).bind fun t208 => (laws_FnSwapSum.j1 kj4 y179 t183 (wrap64 ((wrap64 (t185 * 256)) + t186)) y204 (t208 == 0))))) = some r := by first | (rw [hy204]; with_reducible exact H) | (have H2_ := (Option.bind_some _ _).symm.trans H; rw [hy204]; with_reducible exact H2_) | (have H2_ := (Option.bind_some _ _).symm.trans H; with_reducible exact H2_) | with_reducible exact H | (rw [hy204]; exact H) | exact H
             have Ny204 := Aside0.mk hy204
             clear hy204
             have HC28 := Aside0.mk H
             clear H
             obtain ⟨Ao29, co29, eo29⟩ := Kd.R_slice HO_3.out
             subst eo29
             have q30 : ((ji11) : Int) ≤ ((t176.length : Int) : Int) := of_decide_eq_true (by first | (with_reducible assumption) | assumption)
             obtain ⟨i030, hi030, _, hsz30, _⟩ := info_parts info5
             have hcut30 := cut_to (P := Try.prog) 28 5 .i64 Try.underlying28 hi030 Ao29 t176.length co29 (ji11) (of_decide_eq_true (by first | (with_reducible assumption) | assumption)) q30 (Kd.R_reads' HO_3.out).2.1
             have hr30 := Kd.R_take (m := ((ji11) : Int).toNat) HO_3.out (by omega)
             have hy30 : y179.length = ((ji11) : Int).toNat := (by rw [Ny179.out, List.length_take]; omega)
             rw [← Ny179.out] at hr30
             rw [← hy30] at hr30 hcut30
             clear hy30 hi030 hsz30 HO_3; have HO181 := Aside0.mk hr30; clear hr30
             replace q30 := eq_true q30
             try go_wp2_with (first | ((with_reducible refine gate_callee (f := 41) rfl ?_); refine goesL_ (some 34) rfl rfl Try.func41 (by kernel_rfl) rfl #[.slice A0 l0.length c0, .int .i64 1, .int .i64 (wrap64 ((y179.length : Int) / 2))] rfl mt_ ?_; (with_reducible refine (laws_pick.calls kj4 _ _ l0 1 (wrap64 ((y179.length : Int) / 2)) t182 _ ?side1 ?side2 A14.out).mono ?_); (case side1 => repeat (first | exact (Kd.C_below HR0.out HB.out) | (with_reducible refine Kd.C_alloc ?_ _) | (with_reducible refine Kd.C_drewN ?_ _) | (with_reducible refine Kd.C_drew ?_))); (case side2 => exact HC0.out); rintro e w' ⟨rfl, ⟨nd, rfl⟩⟩; refine ⟨_, rfl, ?_⟩) | ((with_reducible refine gate_callee (f := 61) rfl ?_); refine goesL_ (some 39) rfl rfl Try.func61 (by kernel_rfl) rfl #[.slice Ao29 y179.length co29, .int .i64 ji18] rfl (by (try simp only [List.map_toArray, List.map_cons, List.map_nil]); first | done | (simp only [hji18]; rfl) | rfl | (simp only [List.length_drop, List.length_take]; rfl)) ?_; (with_reducible refine (spec_Be16.calls _ _ y179 ji18 t183 t184 _ ?side1 ?side2 A15.out).mono ?_); (case side1 => exact cr_ HO181); (case side2 => exact (Kd.R_reads' HO181.out).2.1); rintro e w' ⟨rfl, ⟨nd, rfl⟩⟩; refine ⟨_, rfl, ?_⟩) | ((with_reducible refine gate_callee (f := 41) rfl ?_); refine goesL_ (some 43) rfl rfl Try.func41 (by kernel_rfl) rfl #[.slice A0 l0.length c0, .int .i64 2, .int .i64 256] rfl mt_ ?_; (with_reducible refine (laws_pick.calls kj4 _ _ l0 2 256 t185 _ ?side1 ?side2 A16.out).mono ?_); (case side1 => repeat (first | exact (Kd.C_below HR0.out (be_ HB)) | (with_reducible refine Kd.C_alloc ?_ _) | (with_reducible refine Kd.C_drewN ?_ _) | (with_reducible refine Kd.C_drew ?_))); (case side2 => exact HC0.out); rintro e w' ⟨rfl, ⟨nd, rfl⟩⟩; refine ⟨_, rfl, ?_⟩) | ((with_reducible refine gate_callee (f := 41) rfl ?_); refine goesL_ (some 46) rfl rfl Try.func41 (by kernel_rfl) rfl #[.slice A0 l0.length c0, .int .i64 3, .int .i64 256] rfl mt_ ?_; (with_reducible refine (laws_pick.calls kj4 _ _ l0 3 256 t186 _ ?side1 ?side2 A17.out).mono ?_); (case side1 => repeat (first | exact (Kd.C_below HR0.out (be_ HB)) | (with_reducible refine Kd.C_alloc ?_ _) | (with_reducible refine Kd.C_drewN ?_ _) | (with_reducible refine Kd.C_drew ?_))); (case side2 => exact HC0.out); rintro e w' ⟨rfl, ⟨nd, rfl⟩⟩; refine ⟨_, rfl, ?_⟩))
             (try (rw [drewN_self wc]; generalize hq_ : World.drewN wc _ = wc; have n0_ : Aside0 (Kd.R (Kd.int .u8) 5 wc w.heap.size (fun _ => True) (.slice Ao29 y179.length co29) y179) := ⟨by rw [← hq_]; exact (kr_ HO181)⟩; have n1_ : Aside0 (Below w.heap.size w wc) := ⟨by rw [← hq_]; exact (be_ HB)⟩; clear HO181 HB hq_; have HO181 := n0_; have HB := n1_; clear n0_ n1_))
             have n0_ := Aside0.mk (Kd.R_drew HO181.out); have n1_ := Aside0.mk (below_drew1 HB.out); clear HO181; clear HB; have HO181 := n0_; have HB := n1_; clear n0_ n1_
             have q32 : ((ji18) : Int) ≤ ((y179.length : Int) : Int) := of_decide_eq_true (by first | (with_reducible assumption) | assumption)
             obtain ⟨i032, hi032, _, hsz32, _⟩ := info_parts info5
             have hroom32 : y179.length ≤ co29 := (Kd.R_reads' HO181.out).2.1
             have hC32 : Kd.C (Kd.int .u8) _ Ao29 y179.length y179 := (Kd.R_reads' HO181.out).2.2
             have hcut32 := cut_to (P := Try.prog) 28 5 .i64 Try.underlying28 hi032 Ao29 y179.length co29 (ji18) (of_decide_eq_true (by first | (with_reducible assumption) | assumption)) q32 hroom32
             have hr32 := Kd.C_take (m := ((ji18) : Int).toNat) hC32 (by omega)
             have hy32 : y187.length = ((ji18) : Int).toNat := (by rw [Ny187.out, List.length_take]; omega)
             rw [← Ny187.out] at hr32
             rw [← hy32] at hcut32
             have HR190 := Aside0.mk hr32
             have HC190 := Aside0.mk (show y187.length ≤ co29 from by omega)
             clear hr32 hC32 hroom32 hi032 hsz32
             have KY32 := Aside0.mk hy32
             clear hy32
             have KL32 := Aside0.mk (show ((ji18) : Int).toNat ≤ y179.length from by omega)
             replace q32 := eq_true q32
             have q33 : ((ji24) : Int) ≤ ((y179.length : Int) : Int) := of_decide_eq_true (by first | (with_reducible assumption) | assumption)
             obtain ⟨i033, hi033, _, hsz33, _⟩ := info_parts info5
             have hroom33 : y179.length ≤ co29 := (Kd.R_reads' HO181.out).2.1
             have hC33 : Kd.C (Kd.int .u8) _ Ao29 y179.length y179 := (Kd.R_reads' HO181.out).2.2
             have q033 : (0 : Int) ≤ ((ji24) : Int) := of_decide_eq_true (by first | (with_reducible assumption) | assumption)
             have hcut33 := cut_from (P := Try.prog) 28 5 .i64 Try.underlying28 hi033 1 hsz33 Ao29 y179.length co29 (ji24) q033 q33
             have hr33 := Kd.C_drop (m := ((ji24) : Int).toNat) (c := co29) hC33 (by omega) hroom33
             obtain ⟨A33, hA33⟩ : ∃ A1, A1 = (if co29 = ((ji24) : Int).toNat then Ao29 else (Ao29 : Option Addr).map (·.add (((ji24) : Int).toNat * 1))) := ⟨_, rfl⟩
             obtain ⟨c33, hc33⟩ : ∃ c1, c1 = co29 - ((ji24) : Int).toNat := ⟨_, rfl⟩
             have hy33 : y200.length = y179.length - ((ji24) : Int).toNat := (by rw [Ny200.out, List.length_drop] <;> omega)
             rw [show (y179).drop ((ji24) : Int).toNat = y200 from Ny200.out.symm] at hr33
             replace hr33 : Kd.C (Kd.int .u8) _ A33 y200.length y200 := (by rw [hA33]; exact hr33)
             rw [← hy33, ← hA33, ← hc33] at hcut33
             have HR203 := Aside0.mk hr33
             have HC203 := Aside0.mk (show y200.length ≤ c33 from by rw [hy33, hc33]; exact Nat.sub_le_sub_right hroom33 _)
             clear hr33 hC33 hroom33 hi033 hsz33 hc33
             have KY33 := Aside0.mk hy33
             have KA33 := Aside0.mk hA33
             clear hy33 hA33
             have KL33 := Aside0.mk (show ((ji24) : Int).toNat ≤ y179.length from by omega)
             replace q33 := eq_true q33
             refine start_ (n := 13) (S := fun w' => True) (ds := []) (bs 13 0) (by kernel_rfl) rfl rfl trivial (fun hHeld => ?_); refine with_tabW laws_FnSwapSum.tab10 laws_FnSwapSum.bits10 (fun HT_ HW_ => ?_)
             generalize wc.drew = w31 at HO181 HB HR190 HR203 hHeld ⊢
             refine pure_s (i := 0) (N := some 48) (bs 13 1) (any_of HT_.out (by kernel_rfl)) (h := ?_)
             refine pure_s (i := 1) (N := some 49) (bs 13 2) (any_of HT_.out (by kernel_rfl)) (h := ?_)
             refine pure_s (i := 2) (N := some 50) (bs 13 3) (any_of HT_.out (by kernel_rfl)) (h := ?_)
             refine pure_s (i := 4) (N := some 52) #[oT,oT,oT,oF,oT,oF,oF,oF,oF,oF,oF,oF,oF] (any_of HT_.out (by kernel_rfl)) (h := ?_)
             refine pure_s (i := 7) (N := some 55) #[oT,oT,oT,oF,oT,oF,oF,oT,oF,oF,oF,oF,oF] (any_of HT_.out (by kernel_rfl)) (h := ?_)
             refine pure_s (i := 8) (N := some 56) #[oT,oT,oT,oF,oT,oF,oF,oT,oT,oF,oF,oF,oF] (any_of HT_.out (by kernel_rfl)) (h := ?_)
             refine pure_s (i := 9) (N := some 57) #[oT,oT,oT,oF,oT,oF,oF,oT,oT,oT,oF,oF,oF] (any_of HT_.out (by kernel_rfl)) (h := ?_)
             refine pure_s (i := 10) (N := some 58) #[oT,oT,oT,oF,oT,oF,oF,oT,oT,oT,oT,oF,oF] (any_of HT_.out (by kernel_rfl)) (h := ?_)
             refine one_ (i := 3) (N := some 51) #[oT,oT,oT,oT,oT,oF,oF,oT,oT,oT,oT,oF,oF] rfl rfl (one_of HT_.out (by kernel_rfl)) (by decide) (fun K hK => ?_)
             refine goes_ Try.func39 (by kernel_rfl) rfl #[.slice Ao29 y187.length co29] (by rfl) rfl rfl mt_ ?_
             with_reducible refine (laws_bytesOf.calls _ _ y187 t191 _ ?side1 ?side2 A21.out).mono ?_
             (case side1 => repeat (first | exact (by repeat (first | (with_reducible exact HR190.out) | (with_reducible refine Kd.C_alloc ?_ _) | (with_reducible refine Kd.C_drewN ?_ _) | (with_reducible refine Kd.C_drew ?_) | exact HR190.out)) | (with_reducible refine Kd.C_alloc ?_ _) | (with_reducible refine Kd.C_drewN ?_ _) | (with_reducible refine Kd.C_drew ?_)))
             (case side2 => exact HC190.out)
             rintro e w34 ⟨v192, rfl, ho0, hb⟩
             refine ⟨_, rfl, ?_⟩
             have n0_ := Aside0.mk (Kd.R_elder' (kr_ HO181) (Kd.R_base ho0) hb); have n1_ := Aside0.mk (Kd.R_lower (Kd.R_new' ho0 (Kd.R_lt (kr_ HO181))) (below_size (be_ HB)))
             have n2_ := Aside0.mk (Kd.C_below (by repeat (first | (with_reducible exact HR190.out) | (with_reducible refine Kd.C_alloc ?_ _) | (with_reducible refine Kd.C_drewN ?_ _) | (with_reducible refine Kd.C_drew ?_) | exact HR190.out)) hb)
             have n3_ := Aside0.mk (Kd.C_below (by repeat (first | (with_reducible exact HR203.out) | (with_reducible refine Kd.C_alloc ?_ _) | (with_reducible refine Kd.C_drewN ?_ _) | (with_reducible refine Kd.C_drew ?_) | exact HR203.out)) hb)
             have n4_ := Aside0.mk (below_step (be_ HB) hb); clear HO181; clear HR190; clear HR203; clear HB; have HO181 := n0_; have HO193 := n1_
             have HR190 := n2_
             have HR203 := n3_
             have HB := n4_; clear n0_ n1_ n2_ n3_ n4_; (try clear hb); (try clear hb2); (try clear hk); (try clear hi); (try clear ho0)
             refine hK.out _ _ trivial (fun hHeld => ?_)
             clear hK K
             refine norm_ (a' := ?_) ?_ ?_
             rotate_left
             ·show Act.put _ (some 51) _ = _
              simp only [Act.put, List.setIfInBounds_toArray, List.set_cons_zero, List.set_cons_succ, i64_w, i32_w]
              rfl
             refine one_ (i := 5) (N := some 53) #[oT,oT,oT,oT,oT,oT,oF,oT,oT,oT,oT,oF,oF] rfl rfl (one_of HT_.out (by kernel_rfl)) (by decide) (fun K hK => ?_)
             refine goes_ Try.func62 (by kernel_rfl) rfl #[.int .i64 (wrap64 ((wrap64 (t185 * 256)) + t186))] (by rfl) rfl rfl mt_ ?_
             with_reducible refine (spec_Put16.calls (wrap64 ((wrap64 (t185 * 256)) + t186)) t194 _ A22.out).mono ?_
             rintro e w35 ⟨v195, rfl, ho0, hb⟩
             refine ⟨_, rfl, ?_⟩
             have n0_ := Aside0.mk (Kd.R_elder' (kr_ HO181) (Kd.R_base ho0) hb); have n1_ := Aside0.mk (Kd.R_elder' (kr_ HO193) (Kd.R_base ho0) hb); have n2_ := Aside0.mk (Kd.R_lower (Kd.R_new' (Kd.R_new' ho0 (Kd.R_lt (kr_ HO181))) (Kd.R_lt (kr_ HO193))) (below_size (be_ HB)))
             have n3_ := Aside0.mk (Kd.C_below (by repeat (first | (with_reducible exact HR190.out) | (with_reducible refine Kd.C_alloc ?_ _) | (with_reducible refine Kd.C_drewN ?_ _) | (with_reducible refine Kd.C_drew ?_) | exact HR190.out)) hb)
             have n4_ := Aside0.mk (Kd.C_below (by repeat (first | (with_reducible exact HR203.out) | (with_reducible refine Kd.C_alloc ?_ _) | (with_reducible refine Kd.C_drewN ?_ _) | (with_reducible refine Kd.C_drew ?_) | exact HR203.out)) hb)
             have n5_ := Aside0.mk (below_step (be_ HB) hb); clear HO181; clear HO193; clear HR190; clear HR203; clear HB; have HO181 := n0_; have HO193 := n1_; have HO196 := n2_
             have HR190 := n3_
             have HR203 := n4_
             have HB := n5_; clear n0_ n1_ n2_ n3_ n4_ n5_; (try clear hb); (try clear hb2); (try clear hk); (try clear hi); (try clear ho0)
             obtain ⟨Ao37, co37, eo37⟩ := Kd.R_slice HO196.out
             (first | subst eo37 | (injection eo37 with f1_ f2_ f3_; have f4_ := f1_.symm; have f5_ := f3_.symm; clear f1_ f2_ f3_; subst f4_; subst f5_))
             refine hK.out _ _ trivial (fun hHeld => ?_)
             clear hK K
             refine norm_ (a' := ?_) ?_ ?_
             rotate_left
             ·show Act.put _ (some 53) _ = _
              simp only [Act.put, List.setIfInBounds_toArray, List.set_cons_zero, List.set_cons_succ, i64_w, i32_w]
              rfl
             refine one_ (i := 6) (N := some 54) (bs 13 11) rfl rfl (one_of HT_.out (by kernel_rfl)) (by decide) (fun K hK => ?_)
             refine Kd.R_append_rows_step (Kd.int .u8) (w0 := w) w.heap.size (by rfl) (.tmp 51) (.tmp 53) 28 5 (.int .u8 0) 1 rfl Try.underlying28 info5 rfl (by decide) (by omega) v192 t191 t194 _ _ _ (fun k_ => some k_ ≠ (.slice Ao29 y179.length co29 : Value).ownBlock ∧ some k_ ≠ (.slice Ao37 t194.length co37 : Value).ownBlock) (fun _ => False) rfl rfl ?aO ?aR (fun _ _ h => h) (fun _ h => h.elim) ?aF ?aB ?aS ?aL ?_
             (case aR => exact cr_ HO196)
             (case aB => exact (be_ HB))
             (case aF => exact (fun k_ hk => by first | exact ⟨Kd.fresh' (Kd.R_lt (kr_ HO181)) k_ hk, Kd.fresh' (Kd.R_lt (kr_ HO196)) k_ hk⟩ | grind))
             (case aO => exact (by (with_reducible repeat (first | apply Kd.R_alloc | apply Kd.R_drewN | apply Kd.R_drew)); exact Kd.R_mono HO193.out (fun _ hk => by first | exact ⟨hk.1.2, hk.2⟩ | grind)))
             (case aS => exact (below_size (be_ HB)))
             (case aL => have := LMc23.out; omega)
             intro v198 w36 ho hb hg hat
             rw [← Ny197.out] at ho
             have n0_ := Aside0.mk (Kd.R_after (ok := (fun k_ => some k_ ≠ (.slice Ao37 t194.length co37 : Value).ownBlock)) (by (with_reducible repeat (first | apply Kd.R_alloc | apply Kd.R_drewN | apply Kd.R_drew)); exact Kd.R_mono HO181.out (fun _ hk => by first | exact ⟨hk.2, hk.1.2⟩ | grind)) hg hat)
             have n1_ := Aside0.mk (Kd.R_after (ok := (fun k_ => some k_ ≠ (.slice Ao29 y179.length co29 : Value).ownBlock)) (by (with_reducible repeat (first | apply Kd.R_alloc | apply Kd.R_drewN | apply Kd.R_drew)); exact Kd.R_mono HO196.out (fun _ hk => by first | exact ⟨hk.1.2, hk.2⟩ | grind)) hg hat)
             have n2_ := Aside0.mk (hb)
             have n3_ := Aside0.mk ((show Kd.C (Kd.int .u8) w36 Ao29 y187.length y187 from by rw [Ny187.out]; exact Kd.C_take (m := ((ji18) : Int).toNat) ((Kd.R_reads' (Kd.R_after (ok := (fun k_ => some k_ ≠ (.slice Ao37 t194.length co37 : Value).ownBlock)) (by (with_reducible repeat (first | apply Kd.R_alloc | apply Kd.R_drewN | apply Kd.R_drew)); exact Kd.R_mono HO181.out (fun _ hk => by first | exact ⟨hk.2, hk.1.2⟩ | grind)) hg hat)).2.2) KL32.out))
             have n4_ := Aside0.mk ((show Kd.C (Kd.int .u8) w36 A33 y200.length y200 from by rw [Ny200.out, KA33.out]; exact Kd.C_drop (m := ((ji24) : Int).toNat) (c := co29) ((Kd.R_reads' (Kd.R_after (ok := (fun k_ => some k_ ≠ (.slice Ao37 t194.length co37 : Value).ownBlock)) (by (with_reducible repeat (first | apply Kd.R_alloc | apply Kd.R_drewN | apply Kd.R_drew)); exact Kd.R_mono HO181.out (fun _ hk => by first | exact ⟨hk.2, hk.1.2⟩ | grind)) hg hat)).2.2) KL33.out ((Kd.R_reads' (Kd.R_after (ok := (fun k_ => some k_ ≠ (.slice Ao37 t194.length co37 : Value).ownBlock)) (by (with_reducible repeat (first | apply Kd.R_alloc | apply Kd.R_drewN | apply Kd.R_drew)); exact Kd.R_mono HO181.out (fun _ hk => by first | exact ⟨hk.2, hk.1.2⟩ | grind)) hg hat)).2.1)))
             have n5_ := Aside0.mk (ho); clear HO181; clear HO196; clear HB; clear HR190; clear HR203; clear HO193; have HO181 := n0_; have HO196 := n1_; have HB := n2_
             have HR190 := n3_
             have HR203 := n4_
             have HO199 := n5_; clear n0_ n1_ n2_ n3_ n4_ n5_; clear ho hb hg hat
             refine hK.out _ _ trivial (fun hHeld => ?_)
             clear hK K
             refine norm_ (a' := ?_) ?_ ?_
             rotate_left
             ·show Act.put _ (some 54) _ = _
              simp only [Act.put, List.setIfInBounds_toArray, List.set_cons_zero, List.set_cons_succ, i64_w, i32_w]
              rfl
             refine one_ (i := 11) (N := some 59) (bs 13 12) rfl rfl (one_of HT_.out (by kernel_rfl)) (by decide) (fun K hK => ?_)
             refine Kd.R_append_rows_step (Kd.int .u8) (w0 := w) w.heap.size (by rfl) (.tmp 54) (.tmp 58) 28 5 (.int .u8 0) 1 rfl Try.underlying28 info5 rfl (by decide) (by omega) v198 y197 y200 _ _ _ (fun k_ => some k_ ≠ (.slice Ao29 y179.length co29 : Value).ownBlock ∧ some k_ ≠ (.slice Ao37 t194.length co37 : Value).ownBlock) (fun _ => False) rfl rfl ?aO ?aR (fun _ _ h => h) (fun _ h => h.elim) ?aF ?aB ?aS ?aL ?_
             (case aR => repeat (first | exact (by repeat (first | (with_reducible exact HR203.out) | (with_reducible refine Kd.C_alloc ?_ _) | (with_reducible refine Kd.C_drewN ?_ _) | (with_reducible refine Kd.C_drew ?_) | exact HR203.out)) | (with_reducible refine Kd.C_alloc ?_ _) | (with_reducible refine Kd.C_drewN ?_ _) | (with_reducible refine Kd.C_drew ?_)))
             (case aB => exact (be_ HB))
             (case aF => exact (fun k_ hk => by first | exact ⟨Kd.fresh' (Kd.R_lt (kr_ HO181)) k_ hk, Kd.fresh' (Kd.R_lt (kr_ HO196)) k_ hk⟩ | grind))
             (case aO => exact (kr_ HO199))
             (case aS => exact (below_size (be_ HB)))
             (case aL => have := LMc27.out; omega)
             intro v205 w38 ho hb hg hat
             rw [← Ny204.out] at ho
             have n0_ := Aside0.mk (Kd.R_after (ok := (fun k_ => some k_ ≠ (.slice Ao37 t194.length co37 : Value).ownBlock)) (kr_ HO181) hg hat)
             have n1_ := Aside0.mk (Kd.R_after (ok := (fun k_ => some k_ ≠ (.slice Ao29 y179.length co29 : Value).ownBlock)) (kr_ HO196) hg hat)
             have n2_ := Aside0.mk (hb)
             have n3_ := Aside0.mk ((show Kd.C (Kd.int .u8) w38 Ao29 y187.length y187 from by rw [Ny187.out]; exact Kd.C_take (m := ((ji18) : Int).toNat) ((Kd.R_reads' (Kd.R_after (ok := (fun k_ => some k_ ≠ (.slice Ao37 t194.length co37 : Value).ownBlock)) (kr_ HO181) hg hat)).2.2) KL32.out))
             have n4_ := Aside0.mk ((show Kd.C (Kd.int .u8) w38 A33 y200.length y200 from by rw [Ny200.out, KA33.out]; exact Kd.C_drop (m := ((ji24) : Int).toNat) (c := co29) ((Kd.R_reads' (Kd.R_after (ok := (fun k_ => some k_ ≠ (.slice Ao37 t194.length co37 : Value).ownBlock)) (kr_ HO181) hg hat)).2.2) KL33.out ((Kd.R_reads' (Kd.R_after (ok := (fun k_ => some k_ ≠ (.slice Ao37 t194.length co37 : Value).ownBlock)) (kr_ HO181) hg hat)).2.1)))
             have n5_ := Aside0.mk (ho); clear HO181; clear HO196; clear HB; clear HR190; clear HR203; clear HO199; have HO181 := n0_; have HO196 := n1_; have HB := n2_
             have HR190 := n3_
             have HR203 := n4_
             have HO206 := n5_; clear n0_ n1_ n2_ n3_ n4_ n5_; clear ho hb hg hat
             refine hK.out _ _ trivial (fun hHeld => ?_)
             clear hK K
             refine norm_ (a' := ?_) ?_ ?_
             rotate_left
             ·show Act.put _ (some 59) _ = _
              simp only [Act.put, List.setIfInBounds_toArray, List.set_cons_zero, List.set_cons_succ, i64_w, i32_w]
              rfl
             refine pure_s (i := 12) (N := some 8) (bs 13 13) (any_of HT_.out (by kernel_rfl)) (h := ?_)
             refine done_ (done_of HT_.out (by kernel_rfl)) ?_
             go_upto_region 11 with (fail)
             go_cut [67] (fun v67 wc => ∃ (kq : Nat) (x67_27 : Bool), v67 = .bool x67_27 ∧ Aside0 (laws_FnSwapSum.j1 kq y179 t183 (wrap64 ((wrap64 (t185 * 256)) + t186)) y204 x67_27 = some r) ∧ Aside0 (kq ≤ kj4) ∧ Aside0 (Kd.R (Kd.int .u8) 5 wc w.heap.size (fun k_ => some k_ ≠ (v205 : Value).ownBlock) (.slice Ao29 y179.length co29) y179) ∧ Aside0 (Kd.R (Kd.int .u8) 5 wc w.heap.size (fun k_ => some k_ ≠ ((.slice Ao29 y179.length co29) : Value).ownBlock) v205 y204) ∧ Aside0 (Kd.C (Kd.int .u8) wc Ao29 y187.length y187) ∧ Aside0 (Kd.C (Kd.int .u8) wc A33 y200.length y200) ∧ Aside0 (Below w.heap.size w wc))
             case first =>
              have H := HC28.out
              clear HC28
              replace H := Option.bind_eq_some_iff.mp H
              obtain ⟨t207, A390, H⟩ := H
              replace H : (if t207 = 0 then (laws_FnSwapSum.j1 kj4 y179 t183 (wrap64 ((wrap64 (t185 * 256)) + t186)) y204 true) else ((spec_OnesSum.f kj4 y204).bind fun t208 => (laws_FnSwapSum.j1 kj4 y179 t183 (wrap64 ((wrap64 (t185 * 256)) + t186)) y204 (t208 == 0)))) = some r := H
              have A39 := Aside0.mk A390
              clear A390
              by_cases c40 : t207 = 0
              ·rw [if_pos c40] at H
               have c40b0 : (t207 == 0) = true := beq_iff_eq.mpr c40
               have c40b1 : (t207 != 0) = false := bne_eq_false_iff_eq.mpr c40
               clear c40
               (first | rw [c40b0] | (simp only [i64_w, i32_w]; rw [c40b0]) | skip)
               have H' := Aside0.mk H
               clear H
               go_wp2_with (first | ((with_reducible refine gate_callee (f := 63) rfl ?_); refine goesL_ (some 61) rfl rfl Try.func63 (by kernel_rfl) rfl #[.slice Ao29 y179.length co29] rfl mt_ ?_; (with_reducible refine (spec_OnesSum.calls kj4 _ _ y179 t207 _ ?side1 ?side2 A39.out).mono ?_); (case side1 => exact cr_ HO181); (case side2 => exact (Kd.R_reads' HO181.out).2.1); rintro e w' ⟨rfl, ⟨nd, rfl⟩⟩; refine ⟨_, rfl, ?_⟩))
               go_meet
               case rel => exact ⟨_, (true), (by first | rfl | (simp; done) | (simp [*]; done)), H', ⟨by have := HJ4.out; first | omega | exact Nat.le_refl _⟩, ⟨by (with_reducible repeat (first | apply Kd.R_alloc | apply Kd.R_drewN | apply Kd.R_drew)); exact Kd.R_mono HO181.out (fun _ hk => by first | exact hk.2 | grind)⟩, ⟨by (with_reducible repeat (first | apply Kd.R_alloc | apply Kd.R_drewN | apply Kd.R_drew)); exact Kd.R_mono HO206.out (fun _ hk => by first | exact hk.1 | grind)⟩, ⟨by repeat (first | (with_reducible exact HR190.out) | (with_reducible refine Kd.C_alloc ?_ _) | (with_reducible refine Kd.C_drewN ?_ _) | (with_reducible refine Kd.C_drew ?_) | exact HR190.out)⟩, ⟨by repeat (first | (with_reducible exact HR203.out) | (with_reducible refine Kd.C_alloc ?_ _) | (with_reducible refine Kd.C_drewN ?_ _) | (with_reducible refine Kd.C_drew ?_) | exact HR203.out)⟩, ⟨be_ HB⟩⟩
              ·rw [if_neg c40] at H
               have c40b0 : (t207 == 0) = false := beq_eq_false_iff_ne.mpr c40
               have c40b1 : (t207 != 0) = true := bne_iff_ne.mpr c40
               (first | rw [c40b0] | (simp only [i64_w, i32_w]; rw [c40b0]) | skip)
               replace H := Option.bind_eq_some_iff.mp H
               obtain ⟨t208, A410, H⟩ := H
               replace H : (laws_FnSwapSum.j1 kj4 y179 t183 (wrap64 ((wrap64 (t185 * 256)) + t186)) y204 (t208 == 0)) = some r := H
               have A41 := Aside0.mk A410
               clear A410
               have H' := Aside0.mk H
               clear H
               go_wp2_with (first | ((with_reducible refine gate_callee (f := 63) rfl ?_); refine goesL_ (some 61) rfl rfl Try.func63 (by kernel_rfl) rfl #[.slice Ao29 y179.length co29] rfl mt_ ?_; (with_reducible refine (spec_OnesSum.calls kj4 _ _ y179 t207 _ ?side1 ?side2 A39.out).mono ?_); (case side1 => exact cr_ HO181); (case side2 => exact (Kd.R_reads' HO181.out).2.1); rintro e w' ⟨rfl, ⟨nd, rfl⟩⟩; refine ⟨_, rfl, ?_⟩; obtain ⟨Ao42, co42, eo42⟩ := Kd.R_slice HO206.out; subst eo42) | (go_at_call 63; (with_reducible refine (spec_OnesSum.calls kj4 _ _ y204 t208 _ ?side1 ?side2 A41.out).mono ?_); (case side1 => exact cr_ HO206); (case side2 => exact (Kd.R_reads' HO206.out).2.1); rintro e w' ⟨rfl, ⟨nd, rfl⟩⟩))
               go_meet
               case rel => exact ⟨_, ((t208 == 0)), (by first | rfl | (simp; done) | (simp [*]; done)), H', ⟨by have := HJ4.out; first | omega | exact Nat.le_refl _⟩, ⟨by (with_reducible repeat (first | apply Kd.R_alloc | apply Kd.R_drewN | apply Kd.R_drew)); exact Kd.R_mono HO181.out (fun _ hk => by first | exact hk.2 | grind)⟩, ⟨by (with_reducible repeat (first | apply Kd.R_alloc | apply Kd.R_drewN | apply Kd.R_drew)); exact Kd.R_mono HO206.out (fun _ hk => by first | exact hk.1 | grind)⟩, ⟨by repeat (first | (with_reducible exact HR190.out) | (with_reducible refine Kd.C_alloc ?_ _) | (with_reducible refine Kd.C_drewN ?_ _) | (with_reducible refine Kd.C_drew ?_) | exact HR190.out)⟩, ⟨by repeat (first | (with_reducible exact HR203.out) | (with_reducible refine Kd.C_alloc ?_ _) | (with_reducible refine Kd.C_drewN ?_ _) | (with_reducible refine Kd.C_drew ?_) | exact HR203.out)⟩, ⟨be_ HB⟩⟩
             case rest =>
              clear HC28; (try clear c1); (try clear c2); (try clear p2 p2); (try clear c3); (try clear q3); (try clear c4); (try clear c6); (try clear p6); (try clear c7); (try clear c7b0); (try clear c7b1); (try clear c10); (try clear c12); (try clear c12b0); (try clear c12b1); (try clear c13); (try clear c13b0); (try clear c13b1); (try clear c18); (try clear c19); (try clear c19b0); (try clear c19b1); (try clear c20); (try clear c20b0); (try clear c20b1); (try clear c23); (try clear c25); (try clear c25b0); (try clear c25b1); (try clear c26); (try clear c26b0); (try clear c26b1); (try clear c27); (try clear q30 q30); (try clear q32 q32); (try clear c33); (try clear q33 q33); (try clear c36); (try clear c39); (try clear c40); (try clear c40b0); (try clear c40b1); (try clear c41); (try clear q033)
              obtain ⟨kq, x67_27, rfl, HA, HJ27, HO_3, HO_8, HR190, HR203, HB⟩ := hcut
              cases kq with
              | zero => exact absurd HA.out (by simp [laws_FnSwapSum.j1])
              | succ kj27 =>
               have H := HA.out
               clear HA
               simp only [laws_FnSwapSum.j1] at H
               by_cases c43 : x67_27 = true
               ·subst c43
                have H1 : (some true) = some r := by rw [if_pos rfl] at H; exact H
                clear H
                have H := H1
                clear H1
                obtain rfl := Option.some.inj H
                go_wp2
                go_ret
                exact ⟨by first | rfl | (simp [errW_none, errW_some] <;> rfl) | (simp only [← hji11, ← hji18, ← hji24]; first | rfl | (simp [errW_none, errW_some] <;> rfl)) | (simp [*, errW_none, errW_some] <;> rfl), be_ HB⟩
               ·replace c43 := Bool.eq_false_iff.mpr c43
                subst c43
                have H1 : ((laws_bytesOf.f y179).bind fun t209 => ((impl_Checksum.f kj27 t209).bind fun t212 => ((spec_Checksum.f kj27 y179).bind fun t213 => (if t212 = t213 then ((impl_SumSwap.f kj27 t212 t183 (wrap64 ((wrap64 (t185 * 256)) + t186))).bind fun t214 => ((laws_bytesOf.f y204).bind fun t215 => ((impl_Checksum.f kj27 t215).bind fun t218 => (if t214 = t218 then ((laws_bytesOf.f y204).bind fun t219 => ((impl_Checksum.f kj27 t219).bind fun t222 => ((spec_Checksum.f kj27 y204).bind fun t223 => (some (t222 == t223))))) else (some false))))) else (some false))))) = some r := by rw [if_neg (show ¬ (false = true) by decide)] at H; exact H
                clear H
                have H := H1
                clear H1
                replace H := Option.bind_eq_some_iff.mp H
                obtain ⟨t209, A440, H⟩ := H
                replace H : ((impl_Checksum.f kj27 t209).bind fun t212 => ((spec_Checksum.f kj27 y179).bind fun t213 => (if t212 = t213 then ((impl_SumSwap.f kj27 t212 t183 (wrap64 ((wrap64 (t185 * 256)) + t186))).bind fun t214 => ((laws_bytesOf.f y204).bind fun t215 => ((impl_Checksum.f kj27 t215).bind fun t218 => (if t214 = t218 then ((laws_bytesOf.f y204).bind fun t219 => ((impl_Checksum.f kj27 t219).bind fun t222 => ((spec_Checksum.f kj27 y204).bind fun t223 => (some (t222 == t223))))) else (some false))))) else (some false)))) = some r := H
                have A44 := Aside0.mk A440
                clear A440
                replace H := Option.bind_eq_some_iff.mp H
                obtain ⟨t212, A450, H⟩ := H
                replace H : ((spec_Checksum.f kj27 y179).bind fun t213 => (if t212 = t213 then ((impl_SumSwap.f kj27 t212 t183 (wrap64 ((wrap64 (t185 * 256)) + t186))).bind fun t214 => ((laws_bytesOf.f y204).bind fun t215 => ((impl_Checksum.f kj27 t215).bind fun t218 => (if t214 = t218 then ((laws_bytesOf.f y204).bind fun t219 => ((impl_Checksum.f kj27 t219).bind fun t222 => ((spec_Checksum.f kj27 y204).bind fun t223 => (some (t222 == t223))))) else (some false))))) else (some false))) = some r := H
                have A45 := Aside0.mk A450
                clear A450
                replace H := Option.bind_eq_some_iff.mp H
                obtain ⟨t213, A460, H⟩ := H
                replace H : (if t212 = t213 then ((impl_SumSwap.f kj27 t212 t183 (wrap64 ((wrap64 (t185 * 256)) + t186))).bind fun t214 => ((laws_bytesOf.f y204).bind fun t215 => ((impl_Checksum.f kj27 t215).bind fun t218 => (if t214 = t218 then ((laws_bytesOf.f y204).bind fun t219 => ((impl_Checksum.f kj27 t219).bind fun t222 => ((spec_Checksum.f kj27 y204).bind fun t223 => (some (t222 == t223))))) else (some false))))) else (some false)) = some r := H
                have A46 := Aside0.mk A460
                clear A460
                by_cases c47 : t212 = t213
                ·rw [if_pos c47] at H
                 have c47b0 : (t212 == t213) = true := beq_iff_eq.mpr c47
                 have c47b1 : (t212 != t213) = false := bne_eq_false_iff_eq.mpr c47
                 clear c47
                 replace H := Option.bind_eq_some_iff.mp H
                 obtain ⟨t214, A480, H⟩ := H
                 replace H : ((laws_bytesOf.f y204).bind fun t215 => ((impl_Checksum.f kj27 t215).bind fun t218 => (if t214 = t218 then ((laws_bytesOf.f y204).bind fun t219 => ((impl_Checksum.f kj27 t219).bind fun t222 => ((spec_Checksum.f kj27 y204).bind fun t223 => (some (t222 == t223))))) else (some false)))) = some r := H
                 have A48 := Aside0.mk A480
                 clear A480
                 replace H := Option.bind_eq_some_iff.mp H
                 obtain ⟨t215, A490, H⟩ := H
                 replace H : ((impl_Checksum.f kj27 t215).bind fun t218 => (if t214 = t218 then ((laws_bytesOf.f y204).bind fun t219 => ((impl_Checksum.f kj27 t219).bind fun t222 => ((spec_Checksum.f kj27 y204).bind fun t223 => (some (t222 == t223))))) else (some false))) = some r := H
                 have A49 := Aside0.mk A490
                 clear A490
                 replace H := Option.bind_eq_some_iff.mp H
                 obtain ⟨t218, A500, H⟩ := H
                 replace H : (if t214 = t218 then ((laws_bytesOf.f y204).bind fun t219 => ((impl_Checksum.f kj27 t219).bind fun t222 => ((spec_Checksum.f kj27 y204).bind fun t223 => (some (t222 == t223))))) else (some false)) = some r := H
                 have A50 := Aside0.mk A500
                 clear A500
                 by_cases c51 : t214 = t218
                 ·rw [if_pos c51] at H
                  have c51b0 : (t214 == t218) = true := beq_iff_eq.mpr c51
                  have c51b1 : (t214 != t218) = false := bne_eq_false_iff_eq.mpr c51
                  clear c51
                  replace H := Option.bind_eq_some_iff.mp H
                  obtain ⟨t219, A520, H⟩ := H
                  replace H : ((impl_Checksum.f kj27 t219).bind fun t222 => ((spec_Checksum.f kj27 y204).bind fun t223 => (some (t222 == t223)))) = some r := H
                  have A52 := Aside0.mk A520
                  clear A520
                  replace H := Option.bind_eq_some_iff.mp H
                  obtain ⟨t222, A530, H⟩ := H
                  replace H : ((spec_Checksum.f kj27 y204).bind fun t223 => (some (t222 == t223))) = some r := H
                  have A53 := Aside0.mk A530
                  clear A530
                  replace H := Option.bind_eq_some_iff.mp H
                  obtain ⟨t223, A540, H⟩ := H
                  replace H : (some (t222 == t223)) = some r := H
                  have A54 := Aside0.mk A540
                  clear A540
                  obtain rfl := Option.some.inj H
                  go_wp2_with (first | ((with_reducible refine gate_callee (f := 39) rfl ?_); refine goesL_ (some 69) rfl rfl Try.func39 (by kernel_rfl) rfl #[.slice Ao29 y179.length co29] rfl mt_ ?_; (with_reducible refine (laws_bytesOf.calls _ _ y179 t209 _ ?side1 ?side2 A44.out).mono ?_); (case side1 => exact cr_ HO_3); (case side2 => exact (Kd.R_reads' HO_3.out).2.1); rintro e w55 ⟨v210, rfl, ho0, hb⟩; refine ⟨_, rfl, ?_⟩; have n0_ := Aside0.mk (Kd.R_elder' (kr_ HO_3) (Kd.R_base ho0) hb); have n1_ := Aside0.mk (Kd.R_elder' (kr_ HO_8) (Kd.R_base ho0) hb); have n2_ := Aside0.mk (Kd.R_lower (Kd.R_new' (Kd.R_new' ho0 (Kd.R_lt (kr_ HO_3))) (Kd.R_lt (kr_ HO_8))) (below_size (be_ HB))); have n3_ := Aside0.mk (Kd.C_below (by repeat (first | (with_reducible exact HR190.out) | (with_reducible refine Kd.C_alloc ?_ _) | (with_reducible refine Kd.C_drewN ?_ _) | (with_reducible refine Kd.C_drew ?_) | exact HR190.out)) hb); have n4_ := Aside0.mk (Kd.C_below (by repeat (first | (with_reducible exact HR203.out) | (with_reducible refine Kd.C_alloc ?_ _) | (with_reducible refine Kd.C_drewN ?_ _) | (with_reducible refine Kd.C_drew ?_) | exact HR203.out)) hb); have n5_ := Aside0.mk (below_step (be_ HB) hb); clear HO_3; clear HO_8; clear HR190; clear HR203; clear HB; have HO_3 := n0_; have HO_8 := n1_; have HO211 := n2_; have HR190 := n3_; have HR203 := n4_; have HB := n5_; clear n0_ n1_ n2_ n3_ n4_ n5_; (try clear hb); (try clear hb2); (try clear hk); (try clear hi); (try clear ho0); obtain ⟨Ao56, co56, eo56⟩ := Kd.R_slice HO211.out; subst eo56) | ((with_reducible refine gate_callee (f := 38) rfl ?_); refine goesL_ (some 70) rfl rfl Try.func38 (by kernel_rfl) rfl #[.slice Ao56 t209.length co56] rfl mt_ ?_; (with_reducible refine (impl_Checksum.calls kj27 _ _ t209 t212 _ ?side1 ?side2 A45.out).mono ?_); (case side1 => exact cr_ HO211); (case side2 => exact (Kd.R_reads' HO211.out).2.1); rintro e w' ⟨rfl, ⟨nd, rfl⟩⟩; refine ⟨_, rfl, ?_⟩) | ((with_reducible refine gate_callee (f := 64) rfl ?_); refine goesL_ (some 73) rfl rfl Try.func64 (by kernel_rfl) rfl #[.slice Ao29 y179.length co29] rfl mt_ ?_; (with_reducible refine (spec_Checksum.calls kj27 _ _ y179 t213 _ ?side1 ?side2 A46.out).mono ?_); (case side1 => exact cr_ HO_3); (case side2 => exact (Kd.R_reads' HO_3.out).2.1); rintro e w' ⟨rfl, ⟨nd, rfl⟩⟩; refine ⟨_, rfl, ?_⟩) | (go_at_call 65; (with_reducible refine (impl_SumSwap.calls kj27 t212 t183 (wrap64 ((wrap64 (t185 * 256)) + t186)) t214 _ A48.out).mono ?_); rintro e w57 ⟨rfl, hb⟩; have n0_ := Aside0.mk (Kd.R_below (kr_ HO_3) hb); have n1_ := Aside0.mk (Kd.R_below (kr_ HO_8) hb); have n2_ := Aside0.mk (Kd.R_below (kr_ HO211) hb); have n3_ := Aside0.mk (Kd.C_below (by repeat (first | (with_reducible exact HR190.out) | (with_reducible refine Kd.C_alloc ?_ _) | (with_reducible refine Kd.C_drewN ?_ _) | (with_reducible refine Kd.C_drew ?_) | exact HR190.out)) hb); have n4_ := Aside0.mk (Kd.C_below (by repeat (first | (with_reducible exact HR203.out) | (with_reducible refine Kd.C_alloc ?_ _) | (with_reducible refine Kd.C_drewN ?_ _) | (with_reducible refine Kd.C_drew ?_) | exact HR203.out)) hb); have n5_ := Aside0.mk (below_step (be_ HB) hb); clear HO_3; clear HO_8; clear HO211; clear HR190; clear HR203; clear HB; have HO_3 := n0_; have HO_8 := n1_; have HO211 := n2_; have HR190 := n3_; have HR203 := n4_; have HB := n5_; clear n0_ n1_ n2_ n3_ n4_ n5_; (try clear hb); (try clear hb2); (try clear hk); (try clear hi); obtain ⟨Ao58, co58, eo58⟩ := Kd.R_slice HO_8.out; subst eo58) | (go_at_call 39; (with_reducible refine (laws_bytesOf.calls _ _ y204 t215 _ ?side1 ?side2 A49.out).mono ?_); (case side1 => exact cr_ HO_8); (case side2 => exact (Kd.R_reads' HO_8.out).2.1); rintro e w59 ⟨v216, rfl, ho0, hb⟩; have n0_ := Aside0.mk (Kd.R_elder' (kr_ HO_3) (Kd.R_base ho0) hb); have n1_ := Aside0.mk (Kd.R_elder' (kr_ HO_8) (Kd.R_base ho0) hb); have n2_ := Aside0.mk (Kd.R_elder' (kr_ HO211) (Kd.R_base ho0) hb); have n3_ := Aside0.mk (Kd.R_lower (Kd.R_new' (Kd.R_new' (Kd.R_new' ho0 (Kd.R_lt (kr_ HO_3))) (Kd.R_lt (kr_ HO_8))) (Kd.R_lt (kr_ HO211))) (below_size (be_ HB))); have n4_ := Aside0.mk (Kd.C_below (by repeat (first | (with_reducible exact HR190.out) | (with_reducible refine Kd.C_alloc ?_ _) | (with_reducible refine Kd.C_drewN ?_ _) | (with_reducible refine Kd.C_drew ?_) | exact HR190.out)) hb); have n5_ := Aside0.mk (Kd.C_below (by repeat (first | (with_reducible exact HR203.out) | (with_reducible refine Kd.C_alloc ?_ _) | (with_reducible refine Kd.C_drewN ?_ _) | (with_reducible refine Kd.C_drew ?_) | exact HR203.out)) hb); have n6_ := Aside0.mk (below_step (be_ HB) hb); clear HO_3; clear HO_8; clear HO211; clear HR190; clear HR203; clear HB; have HO_3 := n0_; have HO_8 := n1_; have HO211 := n2_; have HO217 := n3_; have HR190 := n4_; have HR203 := n5_; have HB := n6_; clear n0_ n1_ n2_ n3_ n4_ n5_ n6_; (try clear hb); (try clear hb2); (try clear hk); (try clear hi); (try clear ho0); obtain ⟨Ao60, co60, eo60⟩ := Kd.R_slice HO217.out; subst eo60) | (go_at_call 38; (with_reducible refine (impl_Checksum.calls kj27 _ _ t215 t218 _ ?side1 ?side2 A50.out).mono ?_); (case side1 => exact cr_ HO217); (case side2 => exact (Kd.R_reads' HO217.out).2.1); rintro e w' ⟨rfl, ⟨nd, rfl⟩⟩) | (go_at_call 39; (with_reducible refine (laws_bytesOf.calls _ _ y204 t219 _ ?side1 ?side2 A52.out).mono ?_); (case side1 => exact cr_ HO_8); (case side2 => exact (Kd.R_reads' HO_8.out).2.1); rintro e w61 ⟨v220, rfl, ho0, hb⟩; have n0_ := Aside0.mk (Kd.R_elder' (kr_ HO_3) (Kd.R_base ho0) hb); have n1_ := Aside0.mk (Kd.R_elder' (kr_ HO_8) (Kd.R_base ho0) hb); have n2_ := Aside0.mk (Kd.R_elder' (kr_ HO211) (Kd.R_base ho0) hb); have n3_ := Aside0.mk (Kd.R_elder' (kr_ HO217) (Kd.R_base ho0) hb); have n4_ := Aside0.mk (Kd.R_lower (Kd.R_new' (Kd.R_new' (Kd.R_new' (Kd.R_new' ho0 (Kd.R_lt (kr_ HO_3))) (Kd.R_lt (kr_ HO_8))) (Kd.R_lt (kr_ HO211))) (Kd.R_lt (kr_ HO217))) (below_size (be_ HB))); have n5_ := Aside0.mk (Kd.C_below (by repeat (first | (with_reducible exact HR190.out) | (with_reducible refine Kd.C_alloc ?_ _) | (with_reducible refine Kd.C_drewN ?_ _) | (with_reducible refine Kd.C_drew ?_) | exact HR190.out)) hb); have n6_ := Aside0.mk (Kd.C_below (by repeat (first | (with_reducible exact HR203.out) | (with_reducible refine Kd.C_alloc ?_ _) | (with_reducible refine Kd.C_drewN ?_ _) | (with_reducible refine Kd.C_drew ?_) | exact HR203.out)) hb); have n7_ := Aside0.mk (below_step (be_ HB) hb); clear HO_3; clear HO_8; clear HO211; clear HO217; clear HR190; clear HR203; clear HB; have HO_3 := n0_; have HO_8 := n1_; have HO211 := n2_; have HO217 := n3_; have HO221 := n4_; have HR190 := n5_; have HR203 := n6_; have HB := n7_; clear n0_ n1_ n2_ n3_ n4_ n5_ n6_ n7_; (try clear hb); (try clear hb2); (try clear hk); (try clear hi); (try clear ho0); obtain ⟨Ao62, co62, eo62⟩ := Kd.R_slice HO221.out; subst eo62) | (go_at_call 38; (with_reducible refine (impl_Checksum.calls kj27 _ _ t219 t222 _ ?side1 ?side2 A53.out).mono ?_); (case side1 => exact cr_ HO221); (case side2 => exact (Kd.R_reads' HO221.out).2.1); rintro e w' ⟨rfl, ⟨nd, rfl⟩⟩) | (go_at_call 64; (with_reducible refine (spec_Checksum.calls kj27 _ _ y204 t223 _ ?side1 ?side2 A54.out).mono ?_); (case side1 => exact cr_ HO_8); (case side2 => exact (Kd.R_reads' HO_8.out).2.1); rintro e w' ⟨rfl, ⟨nd, rfl⟩⟩))
                  go_ret
                  exact ⟨by first | rfl | (rw [show t222 = t218 from Option.some.inj ((show impl_Checksum.f _ t215 = some t222 from (show t215 = t219 from Option.some.inj (A49.out.symm.trans A52.out)) ▸ A53.out).symm.trans A50.out)]; rfl) | (simp [errW_none, errW_some] <;> rfl) | (simp only [← hji11, ← hji18, ← hji24]; first | rfl | (simp [errW_none, errW_some] <;> rfl)) | (simp [*, errW_none, errW_some] <;> rfl), be_ HB⟩
                 ·rw [if_neg c51] at H
                  have c51b0 : (t214 == t218) = false := beq_eq_false_iff_ne.mpr c51
                  have c51b1 : (t214 != t218) = true := bne_iff_ne.mpr c51
                  obtain rfl := Option.some.inj H
                  go_wp2_with (first | ((with_reducible refine gate_callee (f := 39) rfl ?_); refine goesL_ (some 69) rfl rfl Try.func39 (by kernel_rfl) rfl #[.slice Ao29 y179.length co29] rfl mt_ ?_; (with_reducible refine (laws_bytesOf.calls _ _ y179 t209 _ ?side1 ?side2 A44.out).mono ?_); (case side1 => exact cr_ HO_3); (case side2 => exact (Kd.R_reads' HO_3.out).2.1); rintro e w63 ⟨v210, rfl, ho0, hb⟩; refine ⟨_, rfl, ?_⟩; have n0_ := Aside0.mk (Kd.R_elder' (kr_ HO_3) (Kd.R_base ho0) hb); have n1_ := Aside0.mk (Kd.R_elder' (kr_ HO_8) (Kd.R_base ho0) hb); have n2_ := Aside0.mk (Kd.R_lower (Kd.R_new' (Kd.R_new' ho0 (Kd.R_lt (kr_ HO_3))) (Kd.R_lt (kr_ HO_8))) (below_size (be_ HB))); have n3_ := Aside0.mk (Kd.C_below (by repeat (first | (with_reducible exact HR190.out) | (with_reducible refine Kd.C_alloc ?_ _) | (with_reducible refine Kd.C_drewN ?_ _) | (with_reducible refine Kd.C_drew ?_) | exact HR190.out)) hb); have n4_ := Aside0.mk (Kd.C_below (by repeat (first | (with_reducible exact HR203.out) | (with_reducible refine Kd.C_alloc ?_ _) | (with_reducible refine Kd.C_drewN ?_ _) | (with_reducible refine Kd.C_drew ?_) | exact HR203.out)) hb); have n5_ := Aside0.mk (below_step (be_ HB) hb); clear HO_3; clear HO_8; clear HR190; clear HR203; clear HB; have HO_3 := n0_; have HO_8 := n1_; have HO211 := n2_; have HR190 := n3_; have HR203 := n4_; have HB := n5_; clear n0_ n1_ n2_ n3_ n4_ n5_; (try clear hb); (try clear hb2); (try clear hk); (try clear hi); (try clear ho0); obtain ⟨Ao64, co64, eo64⟩ := Kd.R_slice HO211.out; subst eo64) | ((with_reducible refine gate_callee (f := 38) rfl ?_); refine goesL_ (some 70) rfl rfl Try.func38 (by kernel_rfl) rfl #[.slice Ao64 t209.length co64] rfl mt_ ?_; (with_reducible refine (impl_Checksum.calls kj27 _ _ t209 t212 _ ?side1 ?side2 A45.out).mono ?_); (case side1 => exact cr_ HO211); (case side2 => exact (Kd.R_reads' HO211.out).2.1); rintro e w' ⟨rfl, ⟨nd, rfl⟩⟩; refine ⟨_, rfl, ?_⟩) | ((with_reducible refine gate_callee (f := 64) rfl ?_); refine goesL_ (some 73) rfl rfl Try.func64 (by kernel_rfl) rfl #[.slice Ao29 y179.length co29] rfl mt_ ?_; (with_reducible refine (spec_Checksum.calls kj27 _ _ y179 t213 _ ?side1 ?side2 A46.out).mono ?_); (case side1 => exact cr_ HO_3); (case side2 => exact (Kd.R_reads' HO_3.out).2.1); rintro e w' ⟨rfl, ⟨nd, rfl⟩⟩; refine ⟨_, rfl, ?_⟩) | (go_at_call 65; (with_reducible refine (impl_SumSwap.calls kj27 t212 t183 (wrap64 ((wrap64 (t185 * 256)) + t186)) t214 _ A48.out).mono ?_); rintro e w65 ⟨rfl, hb⟩; have n0_ := Aside0.mk (Kd.R_below (kr_ HO_3) hb); have n1_ := Aside0.mk (Kd.R_below (kr_ HO_8) hb); have n2_ := Aside0.mk (Kd.R_below (kr_ HO211) hb); have n3_ := Aside0.mk (Kd.C_below (by repeat (first | (with_reducible exact HR190.out) | (with_reducible refine Kd.C_alloc ?_ _) | (with_reducible refine Kd.C_drewN ?_ _) | (with_reducible refine Kd.C_drew ?_) | exact HR190.out)) hb); have n4_ := Aside0.mk (Kd.C_below (by repeat (first | (with_reducible exact HR203.out) | (with_reducible refine Kd.C_alloc ?_ _) | (with_reducible refine Kd.C_drewN ?_ _) | (with_reducible refine Kd.C_drew ?_) | exact HR203.out)) hb); have n5_ := Aside0.mk (below_step (be_ HB) hb); clear HO_3; clear HO_8; clear HO211; clear HR190; clear HR203; clear HB; have HO_3 := n0_; have HO_8 := n1_; have HO211 := n2_; have HR190 := n3_; have HR203 := n4_; have HB := n5_; clear n0_ n1_ n2_ n3_ n4_ n5_; (try clear hb); (try clear hb2); (try clear hk); (try clear hi); obtain ⟨Ao66, co66, eo66⟩ := Kd.R_slice HO_8.out; subst eo66) | (go_at_call 39; (with_reducible refine (laws_bytesOf.calls _ _ y204 t215 _ ?side1 ?side2 A49.out).mono ?_); (case side1 => exact cr_ HO_8); (case side2 => exact (Kd.R_reads' HO_8.out).2.1); rintro e w67 ⟨v216, rfl, ho0, hb⟩; have n0_ := Aside0.mk (Kd.R_elder' (kr_ HO_3) (Kd.R_base ho0) hb); have n1_ := Aside0.mk (Kd.R_elder' (kr_ HO_8) (Kd.R_base ho0) hb); have n2_ := Aside0.mk (Kd.R_elder' (kr_ HO211) (Kd.R_base ho0) hb); have n3_ := Aside0.mk (Kd.R_lower (Kd.R_new' (Kd.R_new' (Kd.R_new' ho0 (Kd.R_lt (kr_ HO_3))) (Kd.R_lt (kr_ HO_8))) (Kd.R_lt (kr_ HO211))) (below_size (be_ HB))); have n4_ := Aside0.mk (Kd.C_below (by repeat (first | (with_reducible exact HR190.out) | (with_reducible refine Kd.C_alloc ?_ _) | (with_reducible refine Kd.C_drewN ?_ _) | (with_reducible refine Kd.C_drew ?_) | exact HR190.out)) hb); have n5_ := Aside0.mk (Kd.C_below (by repeat (first | (with_reducible exact HR203.out) | (with_reducible refine Kd.C_alloc ?_ _) | (with_reducible refine Kd.C_drewN ?_ _) | (with_reducible refine Kd.C_drew ?_) | exact HR203.out)) hb); have n6_ := Aside0.mk (below_step (be_ HB) hb); clear HO_3; clear HO_8; clear HO211; clear HR190; clear HR203; clear HB; have HO_3 := n0_; have HO_8 := n1_; have HO211 := n2_; have HO217 := n3_; have HR190 := n4_; have HR203 := n5_; have HB := n6_; clear n0_ n1_ n2_ n3_ n4_ n5_ n6_; (try clear hb); (try clear hb2); (try clear hk); (try clear hi); (try clear ho0); obtain ⟨Ao68, co68, eo68⟩ := Kd.R_slice HO217.out; subst eo68) | (go_at_call 38; (with_reducible refine (impl_Checksum.calls kj27 _ _ t215 t218 _ ?side1 ?side2 A50.out).mono ?_); (case side1 => exact cr_ HO217); (case side2 => exact (Kd.R_reads' HO217.out).2.1); rintro e w' ⟨rfl, ⟨nd, rfl⟩⟩))
                  go_ret
                  exact ⟨by first | rfl | (simp [errW_none, errW_some] <;> rfl) | (simp only [← hji11, ← hji18, ← hji24]; first | rfl | (simp [errW_none, errW_some] <;> rfl)) | (simp [*, errW_none, errW_some] <;> rfl), be_ HB⟩
                ·rw [if_neg c47] at H
                 have c47b0 : (t212 == t213) = false := beq_eq_false_iff_ne.mpr c47
                 have c47b1 : (t212 != t213) = true := bne_iff_ne.mpr c47
                 obtain rfl := Option.some.inj H
                 go_wp2_with (first | ((with_reducible refine gate_callee (f := 39) rfl ?_); refine goesL_ (some 69) rfl rfl Try.func39 (by kernel_rfl) rfl #[.slice Ao29 y179.length co29] rfl mt_ ?_; (with_reducible refine (laws_bytesOf.calls _ _ y179 t209 _ ?side1 ?side2 A44.out).mono ?_); (case side1 => exact cr_ HO_3); (case side2 => exact (Kd.R_reads' HO_3.out).2.1); rintro e w69 ⟨v210, rfl, ho0, hb⟩; refine ⟨_, rfl, ?_⟩; have n0_ := Aside0.mk (Kd.R_elder' (kr_ HO_3) (Kd.R_base ho0) hb); have n1_ := Aside0.mk (Kd.R_elder' (kr_ HO_8) (Kd.R_base ho0) hb); have n2_ := Aside0.mk (Kd.R_lower (Kd.R_new' (Kd.R_new' ho0 (Kd.R_lt (kr_ HO_3))) (Kd.R_lt (kr_ HO_8))) (below_size (be_ HB))); have n3_ := Aside0.mk (Kd.C_below (by repeat (first | (with_reducible exact HR190.out) | (with_reducible refine Kd.C_alloc ?_ _) | (with_reducible refine Kd.C_drewN ?_ _) | (with_reducible refine Kd.C_drew ?_) | exact HR190.out)) hb); have n4_ := Aside0.mk (Kd.C_below (by repeat (first | (with_reducible exact HR203.out) | (with_reducible refine Kd.C_alloc ?_ _) | (with_reducible refine Kd.C_drewN ?_ _) | (with_reducible refine Kd.C_drew ?_) | exact HR203.out)) hb); have n5_ := Aside0.mk (below_step (be_ HB) hb); clear HO_3; clear HO_8; clear HR190; clear HR203; clear HB; have HO_3 := n0_; have HO_8 := n1_; have HO211 := n2_; have HR190 := n3_; have HR203 := n4_; have HB := n5_; clear n0_ n1_ n2_ n3_ n4_ n5_; (try clear hb); (try clear hb2); (try clear hk); (try clear hi); (try clear ho0); obtain ⟨Ao70, co70, eo70⟩ := Kd.R_slice HO211.out; subst eo70) | ((with_reducible refine gate_callee (f := 38) rfl ?_); refine goesL_ (some 70) rfl rfl Try.func38 (by kernel_rfl) rfl #[.slice Ao70 t209.length co70] rfl mt_ ?_; (with_reducible refine (impl_Checksum.calls kj27 _ _ t209 t212 _ ?side1 ?side2 A45.out).mono ?_); (case side1 => exact cr_ HO211); (case side2 => exact (Kd.R_reads' HO211.out).2.1); rintro e w' ⟨rfl, ⟨nd, rfl⟩⟩; refine ⟨_, rfl, ?_⟩) | ((with_reducible refine gate_callee (f := 64) rfl ?_); refine goesL_ (some 73) rfl rfl Try.func64 (by kernel_rfl) rfl #[.slice Ao29 y179.length co29] rfl mt_ ?_; (with_reducible refine (spec_Checksum.calls kj27 _ _ y179 t213 _ ?side1 ?side2 A46.out).mono ?_); (case side1 => exact cr_ HO_3); (case side2 => exact (Kd.R_reads' HO_3.out).2.1); rintro e w' ⟨rfl, ⟨nd, rfl⟩⟩; refine ⟨_, rfl, ?_⟩))
                 go_ret
                 exact ⟨by first | rfl | (simp [errW_none, errW_some] <;> rfl) | (simp only [← hji11, ← hji18, ← hji24]; first | rfl | (simp [errW_none, errW_some] <;> rfl)) | (simp [*, errW_none, errW_some] <;> rfl), be_ HB⟩
            ·rw [if_neg c27] at H
             exact absurd H (by simp)
           ·rw [if_neg c26] at H
            exact absurd H (by simp)
          ·rw [if_neg c25] at H
           exact absurd H (by simp)
         ·rw [if_neg c23] at H
          exact absurd H (by simp)
        ·rw [if_neg c20] at H
         exact absurd H (by simp)
       ·rw [if_neg c19] at H
        exact absurd H (by simp)
      ·rw [if_neg c13] at H
       exact absurd H (by simp)
     ·rw [if_neg c12] at H
      exact absurd H (by simp)

/-- THE ONE PURE STATEMENT of laws_FnSwapSum: yours. -/
def laws_FnSwapSum.Pure : Prop := ∀ (l0 : List Int), l0.length ≤ maxLen → l0.length * 1 ≤ 140737488351232 → (∀ x ∈ l0, (Lit.int .u8 x).wf = true) → ∃ k, laws_FnSwapSum.f k l0 = some true
theorem laws_FnSwapSum.walk (P : laws_FnSwapSum.Pure) (a0 : Option Addr) (len0 cap0 : Nat) (z0 : List Int) (w : World) (w0 : (a0 = none ∧ len0 = 0 ∧ cap0 = 0 ∧ z0 = []) ∨ ∃ x, a0 = some x ∧ len0 ≤ cap0 ∧ cap0 ≤ maxLen ∧ z0.length = cap0 ∧ (∀ i, i < z0.length → w.cell? (x.add i) = some (.int .u8 (z0.getD i 0))) ∧ ∀ n ∈ z0, (Lit.int .u8 n).wf = true) (y0 : len0 * 1 ≤ 140737488351232) :
  Calls Try.prog 12 #[.slice a0 len0 cap0] w fun e w' => e = .returned (.bool true) ∧ Below w.heap.size w w' := by
 obtain ⟨l0, rfl, hr0, hm0, hw0, hc0⟩ := ReadsInt.ofRowC w0
 obtain ⟨k, h⟩ := P l0 hm0 y0 hw0
 refine (laws_FnSwapSum.calls k _ _ l0 true w (Kd.C_of_reads (d := (0 : Int)) (h1 := fun _ => rfl) hr0) hc0 h).mono ?_
 rintro e w' ⟨rfl, hd⟩
 exact ⟨rfl, hd⟩

end Go.Proofs.Ytbijdkmchdkgfaa.PFnSwapSum
