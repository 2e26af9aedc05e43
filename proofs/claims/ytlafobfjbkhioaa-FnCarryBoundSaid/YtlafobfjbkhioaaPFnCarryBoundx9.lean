-- printed by a program of this session (wip/printx) out of the translation; Lean checks it
import Derived.Test.YtlafobfjbkhioaaVFnCarryBound
import Derived.Test.YtlafobfjbkhioaaPFnCarryBoundx0
import Derived.Test.YtlafobfjbkhioaaPFnCarryBoundx1
import Derived.Test.YtlafobfjbkhioaaPFnCarryBoundx2
import Derived.Test.YtlafobfjbkhioaaPFnCarryBoundx4
import Derived.Test.YtlafobfjbkhioaaPFnCarryBoundx7
import Derived.Test.YtlafobfjbkhioaaPFnCarryBoundx8
namespace Go.Proofs.Ytlafobfjbkhioaa.PFnCarryBound
open Go.RowKit Go.Proofs.YtlafobfjbkhioaaW.PrintWords Go.Proofs.YtlafobfjbkhioaaW.PrintLast Go.Proofs.YtlafobfjbkhioaaW.PrintMore
attribute [local go_sem] max2_int min2_int max_two min_two max_three min_three max_four min_four   -- for this text's walks alone
set_option linter.unusedVariables false
set_option linter.unusedSimpArgs false

/-! ### laws_FnCarryBound: function 4 -/
mutual
def laws_FnCarryBound.j0 : Nat → List (S51) → List (S46) → Int → List (S46) → Int → Bool → Int → Int → Int → Option (Bool)
  | 0, _, _, _, _, _, _, _, _, _ => none
  | k + 1, x3, x4, x6, x7, x9, x46, x459000, x459001, x459002 => if x46 = true then (some (x9 == x6)) else (if (x7.length : Int) = (x4.length : Int) then (laws_FnCarryBound.l0 k x3 x7 (([0, 0, 0] : List Int)) 0 x459000 x459001 x459002) else (some false))
def laws_FnCarryBound.l0 : Nat → List (S51) → List (S46) → List Int → Int → Int → Int → Int → Option (Bool)
  | 0, _, _, _, _, _, _, _ => none
  | k + 1, x3, x7, x10, x11, x459000, x459001, x459002 => if x11 < (x7.length : Int) then (laws_FnCarryBound.l1 k x3 x7 x10 x11 0 x459000 x459001 x459002) else (laws_FnCarryBound.l2 k x3 x10 0 0 (([] : List (S46))) (([0, 0, 0] : List Int)) 0 x459000 x459001 x459002)
def laws_FnCarryBound.l1 : Nat → List (S51) → List (S46) → List Int → Int → Int → Int → Int → Int → Option (Bool)
  | 0, _, _, _, _, _, _, _, _ => none
  | k + 1, x3, x7, x10, x11, x12, x459000, x459001, x459002 => if x12 < 3 then (if 0 ≤ x11 then (if x11 < (x7.length : Int) then ((laws_vec.f ((rd_T46 x7 x11).f0) ((rd_T46 x7 x11).f1) ((rd_T46 x7 x11).f2) x12).bind fun t463 => (if t463 < 1 then (some false) else (if t463 > 2000 then (some false) else (if 0 ≤ x12 then (if x12 < (x10.length : Int) then (laws_FnCarryBound.l1 k x3 x7 (x10.set (x12 : Int).toNat (wrap64 ((rd x10 x12) + t463))) x11 (wrap64 (x12 + 1)) x459000 x459001 x459002) else (none)) else (none))))) else (none)) else (none)) else (laws_FnCarryBound.l0 k x3 x7 x10 (wrap64 (x11 + 1)) x459000 x459001 x459002)
def laws_FnCarryBound.l2 : Nat → List (S51) → List Int → Int → Int → List (S46) → List Int → Int → Int → Int → Int → Option (Bool)
  | 0, _, _, _, _, _, _, _, _, _, _ => none
  | k + 1, x3, x10, x14, x15, x16, x17, x18, x459000, x459001, x459002 => if x18 < (x3.length : Int) then (if 0 ≤ x18 then (if (rd_T51 x3 x18).f0 = true then (if 1 ≤ (x16.length : Int) then (laws_FnCarryBound.l3 k x3 x10 (wrap64 (x14 - 1)) x15 (x16.drop (1 : Int).toNat) x17 x18 0 x459000 x459001 x459002) else (none)) else (if x16.length < 5864062014805 then (laws_FnCarryBound.l2 k x3 x10 (wrap64 (x14 + 1)) (mx x15 (wrap64 (x14 + 1))) (x16 ++ [(⟨(rd_T51 x3 x18).f1.f0, (rd_T51 x3 x18).f1.f1, (rd_T51 x3 x18).f1.f2⟩ : S46)]) x17 (wrap64 (x18 + 1)) x459000 x459001 x459002) else (none))) else (none)) else (laws_FnCarryBound.l4 k x10 x15 x16 x17 0 x459000 x459001 x459002)
def laws_FnCarryBound.l3 : Nat → List (S51) → List Int → Int → Int → List (S46) → List Int → Int → Int → Int → Int → Int → Option (Bool)
  | 0, _, _, _, _, _, _, _, _, _, _, _ => none
  | k + 1, x3, x10, x14, x15, x16, x17, x18, x19, x459000, x459001, x459002 => if x19 < 3 then (if 0 ≤ x19 then (if x19 < (x17.length : Int) then (if 0 ≤ x18 then (if x18 < (x3.length : Int) then ((laws_vec.f ((rd_T51 x3 x18).f1.f0) ((rd_T51 x3 x18).f1.f1) ((rd_T51 x3 x18).f1.f2) x19).bind fun t478 => (laws_FnCarryBound.l3 k x3 x10 x14 x15 x16 (x17.set (x19 : Int).toNat (wrap64 ((rd x17 x19) + t478))) x18 (wrap64 (x19 + 1)) x459000 x459001 x459002)) else (none)) else (none)) else (none)) else (none)) else (laws_FnCarryBound.l2 k x3 x10 x14 (mx x15 x14) x16 x17 (wrap64 (x18 + 1)) x459000 x459001 x459002)
def laws_FnCarryBound.l4 : Nat → List Int → Int → List (S46) → List Int → Int → Int → Int → Int → Option (Bool)
  | 0, _, _, _, _, _, _, _, _ => none
  | k + 1, x10, x15, x16, x17, x20, x459000, x459001, x459002 => if x20 < 3 then (if 0 ≤ x20 then (if x20 < (x10.length : Int) then (if x20 < (x17.length : Int) then (laws_FnCarryBound.l5 k x10 x15 x16 x17 x20 (wrap64 ((rd x10 x20) - (rd x17 x20))) 0 x459000 x459001 x459002) else (none)) else (none)) else (none)) else (some true)
def laws_FnCarryBound.l5 : Nat → List Int → Int → List (S46) → List Int → Int → Int → Int → Int → Int → Int → Option (Bool)
  | 0, _, _, _, _, _, _, _, _, _, _ => none
  | k + 1, x10, x15, x16, x17, x20, x21, x22, x459000, x459001, x459002 => if x22 < (x16.length : Int) then (if 0 ≤ x20 then (if x20 < (x17.length : Int) then (if 0 ≤ x22 then ((laws_vec.f ((rd_T46 x16 x22).f0) ((rd_T46 x16 x22).f1) ((rd_T46 x16 x22).f2) x20).bind fun t488 => (laws_FnCarryBound.l5 k x10 x15 x16 (x17.set (x20 : Int).toNat (wrap64 ((rd x17 x20) + t488))) x20 x21 (wrap64 (x22 + 1)) x459000 x459001 x459002)) else (none)) else (none)) else (none)) else (if x21 > (wrap64 (x15 * 1000)) then (some false) else (if (wrap64 (-x21)) > (wrap64 (x15 * 1000)) then (some false) else (if 0 ≤ x20 then (if x20 < (x10.length : Int) then ((laws_vec.f x459000 x459001 x459002 x20).bind fun t491 => (if x20 < (x17.length : Int) then (if (wrap64 ((rd x10 x20) + t491)) = (rd x17 x20) then (laws_FnCarryBound.l4 k x10 x15 x16 x17 (wrap64 (x20 + 1)) x459000 x459001 x459002) else (some false)) else (none))) else (none)) else (none))))
end
def laws_FnCarryBound.f (k : Nat) (l0 : List Int) : Option (Bool) := (laws_big.f l0).bind fun t436 => (if t436 = true then (some true) else ((spec_DrawCarryRun.f k l0).bind fun t437 => ((spec_CarryRun.f k t437).bind fun bt440 => ((spec_DrawCarryRun.f k l0).bind fun t448 => ((impl_CarryRun.f k t448).bind fun bt451 => (if bt451.2.2.2.2 = bt440.2.2.2.2 then (laws_FnCarryBound.j0 k t437 bt440.1 bt440.2.2.2.2 bt451.1 bt451.2.2.2.2 (bt451.2.2.2.2 != 0) bt451.2.1 bt451.2.2.1 bt451.2.2.2.1) else (laws_FnCarryBound.j0 k t437 bt440.1 bt440.2.2.2.2 bt451.1 bt451.2.2.2.2 true bt451.2.1 bt451.2.2.1 bt451.2.2.2.1)))))))
theorem laws_FnCarryBound.mono_l : ∀ k, (∀ y0 y1 y2 y3 y4 y5 y6 y7 y8, LeO (laws_FnCarryBound.j0 k y0 y1 y2 y3 y4 y5 y6 y7 y8) (laws_FnCarryBound.j0 (k + 1) y0 y1 y2 y3 y4 y5 y6 y7 y8)) ∧ (∀ y0 y1 y2 y3 y4 y5 y6, LeO (laws_FnCarryBound.l0 k y0 y1 y2 y3 y4 y5 y6) (laws_FnCarryBound.l0 (k + 1) y0 y1 y2 y3 y4 y5 y6)) ∧ (∀ y0 y1 y2 y3 y4 y5 y6 y7, LeO (laws_FnCarryBound.l1 k y0 y1 y2 y3 y4 y5 y6 y7) (laws_FnCarryBound.l1 (k + 1) y0 y1 y2 y3 y4 y5 y6 y7)) ∧ (∀ y0 y1 y2 y3 y4 y5 y6 y7 y8 y9, LeO (laws_FnCarryBound.l2 k y0 y1 y2 y3 y4 y5 y6 y7 y8 y9) (laws_FnCarryBound.l2 (k + 1) y0 y1 y2 y3 y4 y5 y6 y7 y8 y9)) ∧ (∀ y0 y1 y2 y3 y4 y5 y6 y7 y8 y9 y10, LeO (laws_FnCarryBound.l3 k y0 y1 y2 y3 y4 y5 y6 y7 y8 y9 y10) (laws_FnCarryBound.l3 (k + 1) y0 y1 y2 y3 y4 y5 y6 y7 y8 y9 y10)) ∧ (∀ y0 y1 y2 y3 y4 y5 y6 y7, LeO (laws_FnCarryBound.l4 k y0 y1 y2 y3 y4 y5 y6 y7) (laws_FnCarryBound.l4 (k + 1) y0 y1 y2 y3 y4 y5 y6 y7)) ∧ (∀ y0 y1 y2 y3 y4 y5 y6 y7 y8 y9, LeO (laws_FnCarryBound.l5 k y0 y1 y2 y3 y4 y5 y6 y7 y8 y9) (laws_FnCarryBound.l5 (k + 1) y0 y1 y2 y3 y4 y5 y6 y7 y8 y9))
 | 0 => ⟨fun _ _ _ _ _ _ _ _ _ r h => by simp [laws_FnCarryBound.j0] at h, fun _ _ _ _ _ _ _ r h => by simp [laws_FnCarryBound.l0] at h, fun _ _ _ _ _ _ _ _ r h => by simp [laws_FnCarryBound.l1] at h, fun _ _ _ _ _ _ _ _ _ _ r h => by simp [laws_FnCarryBound.l2] at h, fun _ _ _ _ _ _ _ _ _ _ _ r h => by simp [laws_FnCarryBound.l3] at h, fun _ _ _ _ _ _ _ _ r h => by simp [laws_FnCarryBound.l4] at h, fun _ _ _ _ _ _ _ _ _ _ r h => by simp [laws_FnCarryBound.l5] at h⟩
 | k + 1 => by
  obtain ⟨ih0, ih1, ih2, ih3, ih4, ih5, ih6⟩ := laws_FnCarryBound.mono_l k
  refine ⟨?_, ?_, ?_, ?_, ?_, ?_, ?_⟩
  ·intro y0 y1 y2 y3 y4 y5 y6 y7 y8
   unfold laws_FnCarryBound.j0
   repeat' first
   | (with_reducible exact ih0 _ _ _ _ _ _ _ _ _)
   | (with_reducible exact ih1 _ _ _ _ _ _ _)
   | (with_reducible exact ih2 _ _ _ _ _ _ _ _)
   | (with_reducible exact ih3 _ _ _ _ _ _ _ _ _ _)
   | (with_reducible exact ih4 _ _ _ _ _ _ _ _ _ _ _)
   | (with_reducible exact ih5 _ _ _ _ _ _ _ _)
   | (with_reducible exact ih6 _ _ _ _ _ _ _ _ _ _)
   | (with_reducible exact impl_CarryRun.mono _ _)
   | (with_reducible exact spec_CarryRun.mono _ _)
   | (with_reducible exact spec_DrawCarryRun.mono _ _)
   | (with_reducible exact LeO.refl _)
   | (with_reducible exact LeO.none _)
   | (with_reducible refine LeO.ite ?_ ?_)
   | (with_reducible refine LeO.bind ?_ (fun _ => ?_))
   | exact ih0 _ _ _ _ _ _ _ _ _
   | exact ih1 _ _ _ _ _ _ _
   | exact ih2 _ _ _ _ _ _ _ _
   | exact ih3 _ _ _ _ _ _ _ _ _ _
   | exact ih4 _ _ _ _ _ _ _ _ _ _ _
   | exact ih5 _ _ _ _ _ _ _ _
   | exact ih6 _ _ _ _ _ _ _ _ _ _
   | exact impl_CarryRun.mono _ _
   | exact spec_CarryRun.mono _ _
   | exact spec_DrawCarryRun.mono _ _
   | exact LeO.none _
   | refine LeO.ite ?_ ?_
   | refine LeO.bind ?_ (fun _ => ?_)
  ·intro y0 y1 y2 y3 y4 y5 y6
   unfold laws_FnCarryBound.l0
   repeat' first
   | (with_reducible exact ih0 _ _ _ _ _ _ _ _ _)
   | (with_reducible exact ih1 _ _ _ _ _ _ _)
   | (with_reducible exact ih2 _ _ _ _ _ _ _ _)
   | (with_reducible exact ih3 _ _ _ _ _ _ _ _ _ _)
   | (with_reducible exact ih4 _ _ _ _ _ _ _ _ _ _ _)
   | (with_reducible exact ih5 _ _ _ _ _ _ _ _)
   | (with_reducible exact ih6 _ _ _ _ _ _ _ _ _ _)
   | (with_reducible exact impl_CarryRun.mono _ _)
   | (with_reducible exact spec_CarryRun.mono _ _)
   | (with_reducible exact spec_DrawCarryRun.mono _ _)
   | (with_reducible exact LeO.refl _)
   | (with_reducible exact LeO.none _)
   | (with_reducible refine LeO.ite ?_ ?_)
   | (with_reducible refine LeO.bind ?_ (fun _ => ?_))
   | exact ih0 _ _ _ _ _ _ _ _ _
   | exact ih1 _ _ _ _ _ _ _
   | exact ih2 _ _ _ _ _ _ _ _
   | exact ih3 _ _ _ _ _ _ _ _ _ _
   | exact ih4 _ _ _ _ _ _ _ _ _ _ _
   | exact ih5 _ _ _ _ _ _ _ _
   | exact ih6 _ _ _ _ _ _ _ _ _ _
   | exact impl_CarryRun.mono _ _
   | exact spec_CarryRun.mono _ _
   | exact spec_DrawCarryRun.mono _ _
   | exact LeO.none _
   | refine LeO.ite ?_ ?_
   | refine LeO.bind ?_ (fun _ => ?_)
  ·intro y0 y1 y2 y3 y4 y5 y6 y7
   unfold laws_FnCarryBound.l1
   repeat' first
   | (with_reducible exact ih0 _ _ _ _ _ _ _ _ _)
   | (with_reducible exact ih1 _ _ _ _ _ _ _)
   | (with_reducible exact ih2 _ _ _ _ _ _ _ _)
   | (with_reducible exact ih3 _ _ _ _ _ _ _ _ _ _)
   | (with_reducible exact ih4 _ _ _ _ _ _ _ _ _ _ _)
   | (with_reducible exact ih5 _ _ _ _ _ _ _ _)
   | (with_reducible exact ih6 _ _ _ _ _ _ _ _ _ _)
   | (with_reducible exact impl_CarryRun.mono _ _)
   | (with_reducible exact spec_CarryRun.mono _ _)
   | (with_reducible exact spec_DrawCarryRun.mono _ _)
   | (with_reducible exact LeO.refl _)
   | (with_reducible exact LeO.none _)
   | (with_reducible refine LeO.ite ?_ ?_)
   | (with_reducible refine LeO.bind ?_ (fun _ => ?_))
   | exact ih0 _ _ _ _ _ _ _ _ _
   | exact ih1 _ _ _ _ _ _ _
   | exact ih2 _ _ _ _ _ _ _ _
   | exact ih3 _ _ _ _ _ _ _ _ _ _
   | exact ih4 _ _ _ _ _ _ _ _ _ _ _
   | exact ih5 _ _ _ _ _ _ _ _
   | exact ih6 _ _ _ _ _ _ _ _ _ _
   | exact impl_CarryRun.mono _ _
   | exact spec_CarryRun.mono _ _
   | exact spec_DrawCarryRun.mono _ _
   | exact LeO.none _
   | refine LeO.ite ?_ ?_
   | refine LeO.bind ?_ (fun _ => ?_)
  ·intro y0 y1 y2 y3 y4 y5 y6 y7 y8 y9
   unfold laws_FnCarryBound.l2
   repeat' first
   | (with_reducible exact ih0 _ _ _ _ _ _ _ _ _)
   | (with_reducible exact ih1 _ _ _ _ _ _ _)
   | (with_reducible exact ih2 _ _ _ _ _ _ _ _)
   | (with_reducible exact ih3 _ _ _ _ _ _ _ _ _ _)
   | (with_reducible exact ih4 _ _ _ _ _ _ _ _ _ _ _)
   | (with_reducible exact ih5 _ _ _ _ _ _ _ _)
   | (with_reducible exact ih6 _ _ _ _ _ _ _ _ _ _)
   | (with_reducible exact impl_CarryRun.mono _ _)
   | (with_reducible exact spec_CarryRun.mono _ _)
   | (with_reducible exact spec_DrawCarryRun.mono _ _)
   | (with_reducible exact LeO.refl _)
   | (with_reducible exact LeO.none _)
   | (with_reducible refine LeO.ite ?_ ?_)
   | (with_reducible refine LeO.bind ?_ (fun _ => ?_))
   | exact ih0 _ _ _ _ _ _ _ _ _
   | exact ih1 _ _ _ _ _ _ _
   | exact ih2 _ _ _ _ _ _ _ _
   | exact ih3 _ _ _ _ _ _ _ _ _ _
   | exact ih4 _ _ _ _ _ _ _ _ _ _ _
   | exact ih5 _ _ _ _ _ _ _ _
   | exact ih6 _ _ _ _ _ _ _ _ _ _
   | exact impl_CarryRun.mono _ _
   | exact spec_CarryRun.mono _ _
   | exact spec_DrawCarryRun.mono _ _
   | exact LeO.none _
   | refine LeO.ite ?_ ?_
   | refine LeO.bind ?_ (fun _ => ?_)
  ·intro y0 y1 y2 y3 y4 y5 y6 y7 y8 y9 y10
   unfold laws_FnCarryBound.l3
   repeat' first
   | (with_reducible exact ih0 _ _ _ _ _ _ _ _ _)
   | (with_reducible exact ih1 _ _ _ _ _ _ _)
   | (with_reducible exact ih2 _ _ _ _ _ _ _ _)
   | (with_reducible exact ih3 _ _ _ _ _ _ _ _ _ _)
   | (with_reducible exact ih4 _ _ _ _ _ _ _ _ _ _ _)
   | (with_reducible exact ih5 _ _ _ _ _ _ _ _)
   | (with_reducible exact ih6 _ _ _ _ _ _ _ _ _ _)
   | (with_reducible exact impl_CarryRun.mono _ _)
   | (with_reducible exact spec_CarryRun.mono _ _)
   | (with_reducible exact spec_DrawCarryRun.mono _ _)
   | (with_reducible exact LeO.refl _)
   | (with_reducible exact LeO.none _)
   | (with_reducible refine LeO.ite ?_ ?_)
   | (with_reducible refine LeO.bind ?_ (fun _ => ?_))
   | exact ih0 _ _ _ _ _ _ _ _ _
   | exact ih1 _ _ _ _ _ _ _
   | exact ih2 _ _ _ _ _ _ _ _
   | exact ih3 _ _ _ _ _ _ _ _ _ _
   | exact ih4 _ _ _ _ _ _ _ _ _ _ _
   | exact ih5 _ _ _ _ _ _ _ _
   | exact ih6 _ _ _ _ _ _ _ _ _ _
   | exact impl_CarryRun.mono _ _
   | exact spec_CarryRun.mono _ _
   | exact spec_DrawCarryRun.mono _ _
   | exact LeO.none _
   | refine LeO.ite ?_ ?_
   | refine LeO.bind ?_ (fun _ => ?_)
  ·intro y0 y1 y2 y3 y4 y5 y6 y7
   unfold laws_FnCarryBound.l4
   repeat' first
   | (with_reducible exact ih0 _ _ _ _ _ _ _ _ _)
   | (with_reducible exact ih1 _ _ _ _ _ _ _)
   | (with_reducible exact ih2 _ _ _ _ _ _ _ _)
   | (with_reducible exact ih3 _ _ _ _ _ _ _ _ _ _)
   | (with_reducible exact ih4 _ _ _ _ _ _ _ _ _ _ _)
   | (with_reducible exact ih5 _ _ _ _ _ _ _ _)
   | (with_reducible exact ih6 _ _ _ _ _ _ _ _ _ _)
   | (with_reducible exact impl_CarryRun.mono _ _)
   | (with_reducible exact spec_CarryRun.mono _ _)
   | (with_reducible exact spec_DrawCarryRun.mono _ _)
   | (with_reducible exact LeO.refl _)
   | (with_reducible exact LeO.none _)
   | (with_reducible refine LeO.ite ?_ ?_)
   | (with_reducible refine LeO.bind ?_ (fun _ => ?_))
   | exact ih0 _ _ _ _ _ _ _ _ _
   | exact ih1 _ _ _ _ _ _ _
   | exact ih2 _ _ _ _ _ _ _ _
   | exact ih3 _ _ _ _ _ _ _ _ _ _
   | exact ih4 _ _ _ _ _ _ _ _ _ _ _
   | exact ih5 _ _ _ _ _ _ _ _
   | exact ih6 _ _ _ _ _ _ _ _ _ _
   | exact impl_CarryRun.mono _ _
   | exact spec_CarryRun.mono _ _
   | exact spec_DrawCarryRun.mono _ _
   | exact LeO.none _
   | refine LeO.ite ?_ ?_
   | refine LeO.bind ?_ (fun _ => ?_)
  ·intro y0 y1 y2 y3 y4 y5 y6 y7 y8 y9
   unfold laws_FnCarryBound.l5
   repeat' first
   | (with_reducible exact ih0 _ _ _ _ _ _ _ _ _)
   | (with_reducible exact ih1 _ _ _ _ _ _ _)
   | (with_reducible exact ih2 _ _ _ _ _ _ _ _)
   | (with_reducible exact ih3 _ _ _ _ _ _ _ _ _ _)
   | (with_reducible exact ih4 _ _ _ _ _ _ _ _ _ _ _)
   | (with_reducible exact ih5 _ _ _ _ _ _ _ _)
   | (with_reducible exact ih6 _ _ _ _ _ _ _ _ _ _)
   | (with_reducible exact impl_CarryRun.mono _ _)
   | (with_reducible exact spec_CarryRun.mono _ _)
   | (with_reducible exact spec_DrawCarryRun.mono _ _)
   | (with_reducible exact LeO.refl _)
   | (with_reducible exact LeO.none _)
   | (with_reducible refine LeO.ite ?_ ?_)
   | (with_reducible refine LeO.bind ?_ (fun _ => ?_))
   | exact ih0 _ _ _ _ _ _ _ _ _
   | exact ih1 _ _ _ _ _ _ _
   | exact ih2 _ _ _ _ _ _ _ _
   | exact ih3 _ _ _ _ _ _ _ _ _ _
   | exact ih4 _ _ _ _ _ _ _ _ _ _ _
   | exact ih5 _ _ _ _ _ _ _ _
   | exact ih6 _ _ _ _ _ _ _ _ _ _
   | exact impl_CarryRun.mono _ _
   | exact spec_CarryRun.mono _ _
   | exact spec_DrawCarryRun.mono _ _
   | exact LeO.none _
   | refine LeO.ite ?_ ?_
   | refine LeO.bind ?_ (fun _ => ?_)
theorem laws_FnCarryBound.mono : ∀ a0 k, LeO (laws_FnCarryBound.f k a0) (laws_FnCarryBound.f (k + 1) a0) := by
 intro a0 k
 obtain ⟨ih0, ih1, ih2, ih3, ih4, ih5, ih6⟩ := laws_FnCarryBound.mono_l k
 unfold laws_FnCarryBound.f
 repeat' first
   | (with_reducible exact ih0 _ _ _ _ _ _ _ _ _)
   | (with_reducible exact ih1 _ _ _ _ _ _ _)
   | (with_reducible exact ih2 _ _ _ _ _ _ _ _)
   | (with_reducible exact ih3 _ _ _ _ _ _ _ _ _ _)
   | (with_reducible exact ih4 _ _ _ _ _ _ _ _ _ _ _)
   | (with_reducible exact ih5 _ _ _ _ _ _ _ _)
   | (with_reducible exact ih6 _ _ _ _ _ _ _ _ _ _)
   | (with_reducible exact impl_CarryRun.mono _ _)
   | (with_reducible exact spec_CarryRun.mono _ _)
   | (with_reducible exact spec_DrawCarryRun.mono _ _)
   | (with_reducible exact LeO.refl _)
   | (with_reducible exact LeO.none _)
   | (with_reducible refine LeO.ite ?_ ?_)
   | (with_reducible refine LeO.bind ?_ (fun _ => ?_))
   | exact ih0 _ _ _ _ _ _ _ _ _
   | exact ih1 _ _ _ _ _ _ _
   | exact ih2 _ _ _ _ _ _ _ _
   | exact ih3 _ _ _ _ _ _ _ _ _ _
   | exact ih4 _ _ _ _ _ _ _ _ _ _ _
   | exact ih5 _ _ _ _ _ _ _ _
   | exact ih6 _ _ _ _ _ _ _ _ _ _
   | exact impl_CarryRun.mono _ _
   | exact spec_CarryRun.mono _ _
   | exact spec_DrawCarryRun.mono _ _
   | exact LeO.none _
   | refine LeO.ite ?_ ?_
   | refine LeO.bind ?_ (fun _ => ?_)
def laws_FnCarryBound.T33 : Bool × List (List Nat × List Nat) := (true, [([], []), ([], []), ([], []), ([], []), ([2, 3], [2, 3]), ([4], [4]), ([], []), ([], []), ([6, 7], [6, 7]), ([8], [8]), ([9], [9]), ([], []), ([10, 11], [10, 11]), ([5, 12], [5, 12]), ([0, 1, 0, 1, 2, 3, 4, 5, 6, 7, 8, 9, 10, 11, 12, 13], [0, 1]), ([14, 13, 12, 0, 1, 2, 3, 4, 5, 6, 7, 8, 9, 10, 11, 12, 13], [13, 14])])
def laws_FnCarryBound.B33 : List Nat := [0, 0, 0, 0, 12, 28, 0, 0, 192, 448, 960, 0, 4032, 8188, 16383, 32767]
theorem laws_FnCarryBound.tab33 : rtab .any (opsOf Try.f4 33) = laws_FnCarryBound.T33 := by kernel_rfl
theorem laws_FnCarryBound.bits33 : waitsOk laws_FnCarryBound.T33.2 laws_FnCarryBound.B33 = true := by kernel_rfl
def laws_FnCarryBound.T40 : Bool × List (List Nat × List Nat) := (true, [([], []), ([], []), ([0, 1], [0, 1]), ([2], [2]), ([], []), ([], []), ([4, 5], [4, 5]), ([6], [6]), ([3, 7], [3, 7]), ([8, 0, 1, 2, 3, 4, 5, 6, 7, 8], [8])])
def laws_FnCarryBound.B40 : List Nat := [0, 0, 3, 7, 0, 0, 48, 112, 255, 511]
theorem laws_FnCarryBound.tab40 : rtab .any (opsOf Try.f4 40) = laws_FnCarryBound.T40 := by kernel_rfl
theorem laws_FnCarryBound.bits40 : waitsOk laws_FnCarryBound.T40.2 laws_FnCarryBound.B40 = true := by kernel_rfl
def laws_FnCarryBound.T44 : Bool × List (List Nat × List Nat) := (true, [([], []), ([], []), ([], []), ([], []), ([2, 3], [2, 3]), ([4], [4]), ([], []), ([], []), ([6, 7], [6, 7]), ([8], [8]), ([], []), ([9, 10], [9, 10]), ([5, 11], [5, 11]), ([0, 1, 0, 1, 2, 3, 4, 5, 6, 7, 8, 9, 10, 11, 12], [0, 1]), ([13, 12, 11, 0, 1, 2, 3, 4, 5, 6, 7, 8, 9, 10, 11, 12], [12, 13])])
def laws_FnCarryBound.B44 : List Nat := [0, 0, 0, 0, 12, 28, 0, 0, 192, 448, 0, 1984, 4092, 8191, 16383]
theorem laws_FnCarryBound.tab44 : rtab .any (opsOf Try.f4 44) = laws_FnCarryBound.T44 := by kernel_rfl
theorem laws_FnCarryBound.bits44 : waitsOk laws_FnCarryBound.T44.2 laws_FnCarryBound.B44 = true := by kernel_rfl
def laws_FnCarryBound.T45 : Bool × List (List Nat × List Nat) := (true, [([], []), ([], []), ([1], [1]), ([0, 2], [0, 2]), ([3], [3]), ([4], [4]), ([5, 4], [4, 5]), ([4], [4]), ([7, 4], [4, 7]), ([6, 8, 4], [4, 6, 8]), ([4, 9], [4, 9]), ([10, 4], [10]), ([11], [11]), ([11], [11]), ([12, 13, 11], [11, 12, 13]), ([14, 11], [11, 14]), ([11], [11]), ([11], [11]), ([16, 17, 11, 11], [11, 16, 17]), ([15, 18, 11], [11, 15, 18]), ([11], [11]), ([11], [11]), ([20, 21, 11], [11, 20, 21]), ([22, 11], [11, 22]), ([19, 23, 11], [11, 19, 23]), ([11, 24], [11, 24])])
def laws_FnCarryBound.B45 : List Nat := [0, 0, 2, 7, 15, 31, 63, 31, 159, 511, 1023, 2047, 4095, 4095, 16383, 32767, 4095, 4095, 200703, 524287, 4095, 4095, 3149823, 7344127, 16777215, 33554431]
theorem laws_FnCarryBound.tab45 : rtab .any (opsOf Try.f4 45) = laws_FnCarryBound.T45 := by kernel_rfl
theorem laws_FnCarryBound.bits45 : waitsOk laws_FnCarryBound.T45.2 laws_FnCarryBound.B45 = true := by kernel_rfl
set_option maxHeartbeats 8000000 in
set_option maxRecDepth 100000 in
theorem laws_FnCarryBound.calls (k : Nat) (A0 : Option Addr) (c0 : Nat) (l0 : List Int) (r : Bool) (w : World) (hr0 : Kd.C (Kd.int .u8) w A0 l0.length l0) (hc0 : l0.length ≤ c0) (h : laws_FnCarryBound.f k l0 = some r) :
  Calls Try.prog 4 #[.slice A0 l0.length c0] w fun e w' => e = .returned (.bool r) ∧ Below w.heap.size w w' := by
 have hu46 := Try.underlying46
 have HR0 := Aside0.mk hr0
 have HC0 := Aside0.mk hc0
 clear hr0 hc0; have HB := Aside0.mk (Below.refl w.heap.size w)
 have H : ((laws_big.f l0).bind fun t436 => (if t436 = true then (some true) else ((spec_DrawCarryRun.f k l0).bind fun t437 => ((spec_CarryRun.f k t437).bind fun bt440 => ((spec_DrawCarryRun.f k l0).bind fun t448 => ((impl_CarryRun.f k t448).bind fun bt451 => (if bt451.2.2.2.2 = bt440.2.2.2.2 then (laws_FnCarryBound.j0 k t437 bt440.1 bt440.2.2.2.2 bt451.1 bt451.2.2.2.2 (bt451.2.2.2.2 != 0) bt451.2.1 bt451.2.2.1 bt451.2.2.2.1) else (laws_FnCarryBound.j0 k t437 bt440.1 bt440.2.2.2.2 bt451.1 bt451.2.2.2.2 true bt451.2.1 bt451.2.2.1 bt451.2.2.2.1)))))))) = some r := h
 clear h
 replace H := Option.bind_eq_some_iff.mp H
 obtain ⟨t436, A20, H⟩ := H
 replace H : (if t436 = true then (some true) else ((spec_DrawCarryRun.f k l0).bind fun t437 => ((spec_CarryRun.f k t437).bind fun bt440 => ((spec_DrawCarryRun.f k l0).bind fun t448 => ((impl_CarryRun.f k t448).bind fun bt451 => (if bt451.2.2.2.2 = bt440.2.2.2.2 then (laws_FnCarryBound.j0 k t437 bt440.1 bt440.2.2.2.2 bt451.1 bt451.2.2.2.2 (bt451.2.2.2.2 != 0) bt451.2.1 bt451.2.2.1 bt451.2.2.2.1) else (laws_FnCarryBound.j0 k t437 bt440.1 bt440.2.2.2.2 bt451.1 bt451.2.2.2.2 true bt451.2.1 bt451.2.2.1 bt451.2.2.2.1))))))) = some r := H
 have A2 := Aside0.mk A20
 clear A20
 by_cases c3 : t436 = true
 ·subst c3
  have H1 : (some true) = some r := by rw [if_pos rfl] at H; exact H
  clear H
  have H := H1
  clear H1
  obtain rfl := Option.some.inj H
  go_enter Try.func4, Try.ntmps4
  go_wp2_with (first | ((with_reducible refine gc_ 10 rfl ?_); refine gl_ 24 Try.func10 #[.slice A0 l0.length c0] ?_; (with_reducible refine (laws_big.calls _ _ l0 true _ ?side1 ?side2 A2.out).mono ?_); (case side1 => repeat (first | exact HR0.out | (with_reducible refine Kd.C_alloc ?_ _) | (with_reducible refine Kd.C_drewN ?_ _) | (with_reducible refine Kd.C_drew ?_))); (case side2 => exact HC0.out); rintro e w' ⟨rfl, ⟨nd, rfl⟩⟩; refine ⟨_, rfl, ?_⟩))
  go_ret
  exact ⟨by first | rfl | (simp [errW_none, errW_some] <;> rfl) | (simp [*, errW_none, errW_some] <;> rfl), be_ HB⟩
 ·replace c3 := Bool.eq_false_iff.mpr c3
  subst c3
  have H1 : ((spec_DrawCarryRun.f k l0).bind fun t437 => ((spec_CarryRun.f k t437).bind fun bt440 => ((spec_DrawCarryRun.f k l0).bind fun t448 => ((impl_CarryRun.f k t448).bind fun bt451 => (if bt451.2.2.2.2 = bt440.2.2.2.2 then (laws_FnCarryBound.j0 k t437 bt440.1 bt440.2.2.2.2 bt451.1 bt451.2.2.2.2 (bt451.2.2.2.2 != 0) bt451.2.1 bt451.2.2.1 bt451.2.2.2.1) else (laws_FnCarryBound.j0 k t437 bt440.1 bt440.2.2.2.2 bt451.1 bt451.2.2.2.2 true bt451.2.1 bt451.2.2.1 bt451.2.2.2.1)))))) = some r := by rw [if_neg (show ¬ (false = true) by decide)] at H; exact H
  clear H
  have H := H1
  clear H1
  replace H := Option.bind_eq_some_iff.mp H
  obtain ⟨t437, A40, H⟩ := H
  replace H : ((spec_CarryRun.f k t437).bind fun bt440 => ((spec_DrawCarryRun.f k l0).bind fun t448 => ((impl_CarryRun.f k t448).bind fun bt451 => (if bt451.2.2.2.2 = bt440.2.2.2.2 then (laws_FnCarryBound.j0 k t437 bt440.1 bt440.2.2.2.2 bt451.1 bt451.2.2.2.2 (bt451.2.2.2.2 != 0) bt451.2.1 bt451.2.2.1 bt451.2.2.2.1) else (laws_FnCarryBound.j0 k t437 bt440.1 bt440.2.2.2.2 bt451.1 bt451.2.2.2.2 true bt451.2.1 bt451.2.2.1 bt451.2.2.2.1))))) = some r := H
  have A4 := Aside0.mk A40
  clear A40
  replace H := Option.bind_eq_some_iff.mp H
  obtain ⟨⟨t440, t443, t444, t445, t446⟩, A50, H⟩ := H
  replace H : ((spec_DrawCarryRun.f k l0).bind fun t448 => ((impl_CarryRun.f k t448).bind fun bt451 => (if bt451.2.2.2.2 = t446 then (laws_FnCarryBound.j0 k t437 t440 t446 bt451.1 bt451.2.2.2.2 (bt451.2.2.2.2 != 0) bt451.2.1 bt451.2.2.1 bt451.2.2.2.1) else (laws_FnCarryBound.j0 k t437 t440 t446 bt451.1 bt451.2.2.2.2 true bt451.2.1 bt451.2.2.1 bt451.2.2.2.1)))) = some r := H
  have A5 := Aside0.mk A50
  clear A50
  replace H := Option.bind_eq_some_iff.mp H
  obtain ⟨t448, A60, H⟩ := H
  replace H : ((impl_CarryRun.f k t448).bind fun bt451 => (if bt451.2.2.2.2 = t446 then (laws_FnCarryBound.j0 k t437 t440 t446 bt451.1 bt451.2.2.2.2 (bt451.2.2.2.2 != 0) bt451.2.1 bt451.2.2.1 bt451.2.2.2.1) else (laws_FnCarryBound.j0 k t437 t440 t446 bt451.1 bt451.2.2.2.2 true bt451.2.1 bt451.2.2.1 bt451.2.2.2.1))) = some r := H
  have A6 := Aside0.mk A60
  clear A60
  replace H := Option.bind_eq_some_iff.mp H
  obtain ⟨⟨t451, t454, t455, t456, t457⟩, A70, H⟩ := H
  replace H : (if t457 = t446 then (laws_FnCarryBound.j0 k t437 t440 t446 t451 t457 (t457 != 0) t454 t455 t456) else (laws_FnCarryBound.j0 k t437 t440 t446 t451 t457 true t454 t455 t456)) = some r := H
  have A7 := Aside0.mk A70
  clear A70
  have HC8 := Aside0.mk H
  clear H
  go_enter Try.func4, Try.ntmps4
  go_upto_region 6 with (first | ((with_reducible refine gc_ 10 rfl ?_); refine gl_ 24 Try.func10 #[.slice A0 l0.length c0] ?_; (with_reducible refine (laws_big.calls _ _ l0 false _ ?side1 ?side2 A2.out).mono ?_); (case side1 => repeat (first | exact HR0.out | (with_reducible refine Kd.C_alloc ?_ _) | (with_reducible refine Kd.C_drewN ?_ _) | (with_reducible refine Kd.C_drew ?_))); (case side2 => exact HC0.out); rintro e w' ⟨rfl, ⟨nd, rfl⟩⟩; refine ⟨_, rfl, ?_⟩) | ((with_reducible refine gc_ 20 rfl ?_); refine gl_ 26 Try.func20 #[.slice A0 l0.length c0] ?_; (with_reducible refine (spec_DrawCarryRun.calls k _ _ l0 t437 _ ?side1 ?side2 A4.out).mono ?_); (case side1 => repeat (first | exact HR0.out | (with_reducible refine Kd.C_alloc ?_ _) | (with_reducible refine Kd.C_drewN ?_ _) | (with_reducible refine Kd.C_drew ?_))); (case side2 => exact HC0.out); rintro e w9 ⟨v438, rfl, ho0, hb⟩; refine ⟨_, rfl, ?_⟩; have HO439 := Aside0.mk (Kd.R_lower ho0 (below_size (be_ HB))); replace HB := Aside0.mk (below_step (be_ HB) hb); (try clear hb); (try clear hb2); (try clear hk); (try clear hi); (try clear ho0); obtain ⟨Ao10, co10, eo10⟩ := Kd.R_slice HO439.out; subst eo10) | ((with_reducible refine gc_ 21 rfl ?_); refine gl_ 29 Try.func21 #[.slice Ao10 t437.length co10] ?_; (with_reducible refine (spec_CarryRun.calls k _ _ t437 t440 t443 t444 t445 t446 _ ?side1 ?side2 A5.out).mono ?_); (case side1 => exact cr_ HO439); (case side2 => exact (Kd.R_reads' HO439.out).2.1); rintro e w11 ⟨v441, rfl, ho0, hb⟩; refine ⟨_, rfl, ?_⟩; replace HO439 := Aside0.mk (Kd.R_below (kr_ HO439) hb); have HO442 := Aside0.mk (Kd.R_lower ho0 (below_size (be_ HB))); replace HB := Aside0.mk (below_step (be_ HB) hb); (try clear hb); (try clear hb2); (try clear hk); (try clear hi); (try clear ho0)) | ((with_reducible refine gd_ 5 rfl ?_); refine bv_ 5 #[.int .i64 0, .int .i64 0, .int .i64 0] 46 ?_; intro gb447 hg w12 hbox hb; replace HO439 := Aside0.mk (Kd.R_below (kr_ HO439) hb); replace HO442 := Aside0.mk (Kd.R_below (Kd.R_elderB (kr_ HO442) gb447 (Nat.le_of_eq hg.symm)) hb); have BK447 := Aside0.mk (hbox); have GW447 := gw_ HB hg; have GE447 := gw_ HB hg; replace HB := Aside0.mk (below_step (be_ HB) hb); clear hb hbox hg; obtain ⟨hcz13_0, hcz13_1, hcz13_2, hfz13_0, hfz13_1, hfz13_2⟩ := bz3_ BK447) | ((with_reducible refine gc_ 20 rfl ?_); refine gl_ 35 Try.func20 #[.slice A0 l0.length c0] ?_; (with_reducible refine (spec_DrawCarryRun.calls k _ _ l0 t448 _ ?side1 ?side2 A6.out).mono ?_); (case side1 => exact Kd.C_below HR0.out (bf_ HB)); (case side2 => exact HC0.out); rintro e w14 ⟨v449, rfl, ho0, hb⟩; refine ⟨_, rfl, ?_⟩; replace HO442 := Aside0.mk (Kd.R_below (by (with_reducible repeat (first | apply Kd.R_alloc | apply Kd.R_drewN | apply Kd.R_drew)); exact (Kd.R_mono (Kd.R_far (p := ⟨gb447, 2, none⟩) (Kd.R_far (p := ⟨gb447, 1, none⟩) (Kd.R_far (p := ⟨gb447, 0, none⟩) (Kd.R_mono (ok' := fun k_ => _ ∧ k_ ≠ gb447) HO442.out (fun k_ hk => by first | exact (⟨hk, hk.2⟩ : _ ∧ k_ ≠ gb447) | grind)) (fun _ hk => by first | exact hk.2 | grind) (.int .i64 t443)) (fun _ hk => by first | exact hk.2 | grind) (.int .i64 t444)) (fun _ hk => by first | exact hk.2 | grind) (.int .i64 t445)) (fun _ h_ => h_.1))) hb); have HO450 := Aside0.mk (Kd.R_lower (Kd.R_new' ho0 (Kd.R_lt (by (with_reducible repeat (first | apply Kd.R_alloc | apply Kd.R_drewN | apply Kd.R_drew)); exact (rf3_ HO439 BK447 (.int .i64 t443) (.int .i64 t444) (.int .i64 t445))))) (below_size (bf_ HB))); replace HO439 := Aside0.mk (Kd.R_elder' (by (with_reducible repeat (first | apply Kd.R_alloc | apply Kd.R_drewN | apply Kd.R_drew)); exact (rf3_ HO439 BK447 (.int .i64 t443) (.int .i64 t444) (.int .i64 t445))) (Kd.R_base ho0) hb); replace BK447 := Aside0.mk (blk_below (g := gb447) (o := .cells #[.int .i64 t443, .int .i64 t444, .int .i64 t445] 46 (0, 0)) (by (with_reducible repeat (first | refine blk_drewN ?_ _ | refine blk_drew ?_ | refine blk_alloc ?_ _)); refine blk_put (cs := #[.int .i64 t443, .int .i64 t444, .int .i64 0]) ?_ 2 _ rfl; (with_reducible repeat (first | refine blk_drewN ?_ _ | refine blk_drew ?_ | refine blk_alloc ?_ _)); refine blk_put (cs := #[.int .i64 t443, .int .i64 0, .int .i64 0]) ?_ 1 _ rfl; (with_reducible repeat (first | refine blk_drewN ?_ _ | refine blk_drew ?_ | refine blk_alloc ?_ _)); refine blk_put (cs := #[.int .i64 0, .int .i64 0, .int .i64 0]) ?_ 0 _ rfl; exact bk_ BK447) hb); replace HB := Aside0.mk (below_step (bf_ HB) hb); (try clear hb); (try clear hb2); (try clear hk); (try clear hi); (try clear ho0); obtain ⟨Ao15, co15, eo15⟩ := Kd.R_slice HO450.out; subst eo15) | ((with_reducible refine gc_ 22 rfl ?_); refine gl_ 36 Try.func22 #[.slice Ao15 t448.length co15] ?_; (with_reducible refine (impl_CarryRun.calls k _ _ t448 t451 t454 t455 t456 t457 _ ?side1 ?side2 A7.out).mono ?_); (case side1 => exact cr_ HO450); (case side2 => exact (Kd.R_reads' HO450.out).2.1); rintro e w16 ⟨v452, rfl, ho0, hb⟩; refine ⟨_, rfl, ?_⟩; replace HO439 := Aside0.mk (Kd.R_below (kr_ HO439) hb); replace HO450 := Aside0.mk (Kd.R_below (kr_ HO450) hb); have HO453 := Aside0.mk (Kd.R_lower (Kd.R_newB (Kd.R_new' ho0 (Kd.R_lt (kr_ HO442))) (g := gb447) (o := .cells #[.int .i64 t443, .int .i64 t444, .int .i64 t445] 46 (0, 0)) (bk_ BK447)) (below_size (bf_ HB))); replace HO442 := Aside0.mk (Kd.R_elder' (kr_ HO442) (Kd.R_base ho0) hb); replace BK447 := bb_ BK447 hb; replace HB := Aside0.mk (below_step (bf_ HB) hb); (try clear hb); (try clear hb2); (try clear hk); (try clear hi); (try clear ho0)) | ((with_reducible refine gd_ 8 rfl ?_); refine bv_ 8 #[.int .i64 0, .int .i64 0, .int .i64 0] 46 ?_; intro gb458 hg w17 hbox hb; replace HO439 := Aside0.mk (Kd.R_below (kr_ HO439) hb); replace HO442 := Aside0.mk (Kd.R_below (Kd.R_elderB (kr_ HO442) gb458 (Nat.le_of_eq hg.symm)) hb); replace HO450 := Aside0.mk (Kd.R_below (kr_ HO450) hb); replace HO453 := Aside0.mk (Kd.R_below (Kd.R_elderB (kr_ HO453) gb458 (Nat.le_of_eq hg.symm)) hb); have BK458 := Aside0.mk (hbox); have GW458 := gw_ HB hg; have GE458 := gw_ HB hg; replace HB := Aside0.mk (below_step (bf_ HB) hb); have NB447_458 := nl_ BK447 hg; have NB458_447 := ng_ BK447 hg; replace BK447 := bb_ BK447 hb; clear hb hbox hg; have hnb18 := NB458_447.out; have hnc18 := NB447_458.out; obtain ⟨hcz19_0, hcz19_1, hcz19_2, hfz19_0, hfz19_1, hfz19_2⟩ := bz3_ BK458))
  (try simp only [Act.put, ls0_, ls1_, ls2_])
  go_cut [46] (fun v46 wc => ∃ (kq : Nat) (x46_7 : Bool), v46 = .bool x46_7 ∧ Aside0 (laws_FnCarryBound.j0 kq t437 t440 t446 t451 t457 x46_7 t454 t455 t456 = some r) ∧ Aside0 (kq ≤ k) ∧ Aside0 (Kd.R k51 51 wc w.heap.size (fun _ => True) (.slice Ao10 t437.length co10) t437) ∧ Aside0 (Kd.R k46 46 wc w.heap.size (fun k_ => some k_ ≠ (v452 : Value).ownBlock ∧ k_ ≠ gb447 ∧ k_ ≠ gb458) v441 t440) ∧ Aside0 (Kd.R k46 46 wc w.heap.size (fun k_ => some k_ ≠ (v441 : Value).ownBlock ∧ k_ ≠ gb447 ∧ k_ ≠ gb458) v452 t451) ∧ Aside0 (wc.heap[gb447]? = some (.cells #[.int .i64 t443, .int .i64 t444, .int .i64 t445] 46 (0, 0))) ∧ Aside0 (wc.heap[gb458]? = some (.cells #[.int .i64 t454, .int .i64 t455, .int .i64 t456] 46 (0, 0))) ∧ Aside0 (Below w.heap.size w wc))
  case first =>
   have H := HC8.out
   clear HC8
   by_cases c20 : t457 = t446
   ·rw [if_pos c20] at H
    have c20b0 : (t457 == t446) = true := beq_iff_eq.mpr c20
    have c20b1 : (t457 != t446) = false := bne_eq_false_iff_eq.mpr c20
    clear c20
    (first | rw [c20b0] | (simp only [i64_w, i32_w]; rw [c20b0]) | skip)
    have H' := Aside0.mk H
    clear H
    go_wp2
    go_meet
    case rel => exact ⟨_, ((t457 != 0)), (by first | rfl | (simp; done) | (simp [*]; done)), H', ⟨by first | omega | exact Nat.le_refl _⟩, ⟨by (with_reducible repeat (first | apply Kd.R_alloc | apply Kd.R_drewN | apply Kd.R_drew)); exact Kd.R_mono (Kd.R_far (p := ⟨gb458, 2, none⟩) (Kd.R_far (p := ⟨gb458, 1, none⟩) (Kd.R_far (p := ⟨gb458, 0, none⟩) (Kd.R_types HO439.out BK458.out (by decide)) (fun _ hk => by first | exact hk.2 | grind) (.int .i64 t454)) (fun _ hk => by first | exact hk.2 | grind) (.int .i64 t455)) (fun _ hk => by first | exact hk.2 | grind) (.int .i64 t456)) (fun _ hk => by first | exact trivial | grind)⟩, ⟨by (with_reducible repeat (first | apply Kd.R_alloc | apply Kd.R_drewN | apply Kd.R_drew)); exact Kd.R_mono (Kd.R_far (p := ⟨gb458, 2, none⟩) (Kd.R_far (p := ⟨gb458, 1, none⟩) (Kd.R_far (p := ⟨gb458, 0, none⟩) (Kd.R_mono (ok' := fun k_ => _ ∧ k_ ≠ gb458) HO442.out (fun k_ hk => by first | exact (⟨hk, hk.2⟩ : _ ∧ k_ ≠ gb458) | grind)) (fun _ hk => by first | exact hk.2 | grind) (.int .i64 t454)) (fun _ hk => by first | exact hk.2 | grind) (.int .i64 t455)) (fun _ hk => by first | exact hk.2 | grind) (.int .i64 t456)) (fun _ hk => by first | exact ⟨hk.1.1.2, ⟨hk.1.1.1.2, hk.1.2⟩⟩ | grind)⟩, ⟨by (with_reducible repeat (first | apply Kd.R_alloc | apply Kd.R_drewN | apply Kd.R_drew)); exact Kd.R_mono (Kd.R_far (p := ⟨gb458, 2, none⟩) (Kd.R_far (p := ⟨gb458, 1, none⟩) (Kd.R_far (p := ⟨gb458, 0, none⟩) (Kd.R_mono (ok' := fun k_ => _ ∧ k_ ≠ gb458) HO453.out (fun k_ hk => by first | exact (⟨hk, hk.2⟩ : _ ∧ k_ ≠ gb458) | grind)) (fun _ hk => by first | exact hk.2 | grind) (.int .i64 t454)) (fun _ hk => by first | exact hk.2 | grind) (.int .i64 t455)) (fun _ hk => by first | exact hk.2 | grind) (.int .i64 t456)) (fun _ hk => by first | exact ⟨hk.1.1.1.2, ⟨hk.1.1.2, hk.1.2⟩⟩ | grind)⟩, ⟨by (with_reducible repeat (first | refine blk_drewN ?_ _ | refine blk_drew ?_ | refine blk_alloc ?_ _)); refine blk_far ?_ NB447_458.out _; (with_reducible repeat (first | refine blk_drewN ?_ _ | refine blk_drew ?_ | refine blk_alloc ?_ _)); refine blk_far ?_ NB447_458.out _; (with_reducible repeat (first | refine blk_drewN ?_ _ | refine blk_drew ?_ | refine blk_alloc ?_ _)); refine blk_far ?_ NB447_458.out _; exact bk_ BK447⟩, ⟨by (with_reducible repeat (first | refine blk_drewN ?_ _ | refine blk_drew ?_ | refine blk_alloc ?_ _)); refine blk_put (cs := #[.int .i64 t454, .int .i64 t455, .int .i64 0]) ?_ 2 _ rfl; (with_reducible repeat (first | refine blk_drewN ?_ _ | refine blk_drew ?_ | refine blk_alloc ?_ _)); refine blk_put (cs := #[.int .i64 t454, .int .i64 0, .int .i64 0]) ?_ 1 _ rfl; (with_reducible repeat (first | refine blk_drewN ?_ _ | refine blk_drew ?_ | refine blk_alloc ?_ _)); refine blk_put (cs := #[.int .i64 0, .int .i64 0, .int .i64 0]) ?_ 0 _ rfl; exact bk_ BK458⟩, ⟨bf_ HB⟩⟩
   ·rw [if_neg c20] at H
    have c20b0 : (t457 == t446) = false := beq_eq_false_iff_ne.mpr c20
    have c20b1 : (t457 != t446) = true := bne_iff_ne.mpr c20
    (first | rw [c20b0] | (simp only [i64_w, i32_w]; rw [c20b0]) | skip)
    have H' := Aside0.mk H
    clear H
    go_wp2
    go_meet
    case rel => exact ⟨_, (true), (by first | rfl | (simp; done) | (simp [*]; done)), H', ⟨by first | omega | exact Nat.le_refl _⟩, ⟨by (with_reducible repeat (first | apply Kd.R_alloc | apply Kd.R_drewN | apply Kd.R_drew)); exact Kd.R_mono (Kd.R_far (p := ⟨gb458, 2, none⟩) (Kd.R_far (p := ⟨gb458, 1, none⟩) (Kd.R_far (p := ⟨gb458, 0, none⟩) (Kd.R_types HO439.out BK458.out (by decide)) (fun _ hk => by first | exact hk.2 | grind) (.int .i64 t454)) (fun _ hk => by first | exact hk.2 | grind) (.int .i64 t455)) (fun _ hk => by first | exact hk.2 | grind) (.int .i64 t456)) (fun _ hk => by first | exact trivial | grind)⟩, ⟨by (with_reducible repeat (first | apply Kd.R_alloc | apply Kd.R_drewN | apply Kd.R_drew)); exact Kd.R_mono (Kd.R_far (p := ⟨gb458, 2, none⟩) (Kd.R_far (p := ⟨gb458, 1, none⟩) (Kd.R_far (p := ⟨gb458, 0, none⟩) (Kd.R_mono (ok' := fun k_ => _ ∧ k_ ≠ gb458) HO442.out (fun k_ hk => by first | exact (⟨hk, hk.2⟩ : _ ∧ k_ ≠ gb458) | grind)) (fun _ hk => by first | exact hk.2 | grind) (.int .i64 t454)) (fun _ hk => by first | exact hk.2 | grind) (.int .i64 t455)) (fun _ hk => by first | exact hk.2 | grind) (.int .i64 t456)) (fun _ hk => by first | exact ⟨hk.1.1.2, ⟨hk.1.1.1.2, hk.1.2⟩⟩ | grind)⟩, ⟨by (with_reducible repeat (first | apply Kd.R_alloc | apply Kd.R_drewN | apply Kd.R_drew)); exact Kd.R_mono (Kd.R_far (p := ⟨gb458, 2, none⟩) (Kd.R_far (p := ⟨gb458, 1, none⟩) (Kd.R_far (p := ⟨gb458, 0, none⟩) (Kd.R_mono (ok' := fun k_ => _ ∧ k_ ≠ gb458) HO453.out (fun k_ hk => by first | exact (⟨hk, hk.2⟩ : _ ∧ k_ ≠ gb458) | grind)) (fun _ hk => by first | exact hk.2 | grind) (.int .i64 t454)) (fun _ hk => by first | exact hk.2 | grind) (.int .i64 t455)) (fun _ hk => by first | exact hk.2 | grind) (.int .i64 t456)) (fun _ hk => by first | exact ⟨hk.1.1.1.2, ⟨hk.1.1.2, hk.1.2⟩⟩ | grind)⟩, ⟨by (with_reducible repeat (first | refine blk_drewN ?_ _ | refine blk_drew ?_ | refine blk_alloc ?_ _)); refine blk_far ?_ NB447_458.out _; (with_reducible repeat (first | refine blk_drewN ?_ _ | refine blk_drew ?_ | refine blk_alloc ?_ _)); refine blk_far ?_ NB447_458.out _; (with_reducible repeat (first | refine blk_drewN ?_ _ | refine blk_drew ?_ | refine blk_alloc ?_ _)); refine blk_far ?_ NB447_458.out _; exact bk_ BK447⟩, ⟨by (with_reducible repeat (first | refine blk_drewN ?_ _ | refine blk_drew ?_ | refine blk_alloc ?_ _)); refine blk_put (cs := #[.int .i64 t454, .int .i64 t455, .int .i64 0]) ?_ 2 _ rfl; (with_reducible repeat (first | refine blk_drewN ?_ _ | refine blk_drew ?_ | refine blk_alloc ?_ _)); refine blk_put (cs := #[.int .i64 t454, .int .i64 0, .int .i64 0]) ?_ 1 _ rfl; (with_reducible repeat (first | refine blk_drewN ?_ _ | refine blk_drew ?_ | refine blk_alloc ?_ _)); refine blk_put (cs := #[.int .i64 0, .int .i64 0, .int .i64 0]) ?_ 0 _ rfl; exact bk_ BK458⟩, ⟨bf_ HB⟩⟩
  case rest =>
   clear HC8; (try clear c1); (try clear c2); (try clear p2); (try clear c3); (try clear c4); (try clear c10); (try clear c18); (try clear c20); (try clear c20b0); (try clear c20b1); (try clear hcz13_0 hcz13_1 hcz13_2 hfz13_0 hfz13_1 hfz13_2); (try clear hcz19_0 hcz19_1 hcz19_2 hfz19_0 hfz19_1 hfz19_2)
   obtain ⟨kq, x46_7, rfl, HA, HJ7, HO_3, HO_4, HO_7, BK447, BK458, HB⟩ := hcut
   cases kq with
   | zero => exact absurd HA.out (by simp [laws_FnCarryBound.j0])
   | succ kj7 =>
    have H := HA.out
    clear HA
    simp only [laws_FnCarryBound.j0] at H
    by_cases c21 : x46_7 = true
    ·subst c21
     have H1 : (some (t457 == t446)) = some r := by rw [if_pos rfl] at H; exact H
     clear H
     have H := H1
     clear H1
     obtain rfl := Option.some.inj H
     go_wp2
     go_ret
     exact ⟨by first | rfl | (simp [errW_none, errW_some] <;> rfl) | (simp [*, errW_none, errW_some] <;> rfl), bf_ HB⟩
    ·replace c21 := Bool.eq_false_iff.mpr c21
     subst c21
     have H1 : (if (t451.length : Int) = (t440.length : Int) then (laws_FnCarryBound.l0 kj7 t437 t451 (([0, 0, 0] : List Int)) 0 t454 t455 t456) else (some false)) = some r := by rw [if_neg (show ¬ (false = true) by decide)] at H; exact H
     clear H
     have H := H1
     clear H1
     by_cases c22 : (t451.length : Int) = (t440.length : Int)
     ·rw [if_pos c22] at H
      have c22b0 : ((t451.length : Int) == (t440.length : Int)) = true := beq_iff_eq.mpr c22
      have c22b1 : ((t451.length : Int) != (t440.length : Int)) = false := bne_eq_false_iff_eq.mpr c22
      have c22b2 : (t451.length == t440.length) = true := by first | simpa using c22 | (simp at c22 ⊢; omega)
      clear c22
      obtain ⟨y459, hy459⟩ : ∃ y_ : List Int, y_ = (([0, 0, 0] : List Int)) := ⟨_, rfl⟩
      replace H : (laws_FnCarryBound.l0 kj7 t437 t451 y459 0 t454 t455 t456) = some r := by first | (rw [hy459]; with_reducible exact H) | (have H2_ := (Option.bind_some _ _).symm.trans H; rw [hy459]; with_reducible exact H2_) | (have H2_ := (Option.bind_some _ _).symm.trans H; with_reducible exact H2_) | with_reducible exact H | (rw [hy459]; exact H) | exact H
      have Ny459 := Aside0.mk hy459
      clear hy459
      have H' := Aside0.mk H
      clear H
      obtain ⟨Ao23, co23, eo23⟩ := Kd.R_slice HO_7.out
      subst eo23
      obtain ⟨Ao24, co24, eo24⟩ := Kd.R_slice HO_4.out
      subst eo24
      go_wp2_with (first | ((with_reducible refine gd_ 55 rfl ?_); refine Kd.R_lit (Kd.int .i64) _ 3 ?hg (N := 55) ?hd (xs := ([0, 0, 0] : List Int)) (inner := [.int .i64 0, .int .i64 0, .int .i64 0]) (ok := fun _ => True) (okp := fun _ => True) ?hr ?hp (fun _ hk => by first | exact hk | grind) trivial (Below.refl _ _) (Nat.le_refl _) (by simp) ?_; (case hd => rfl); (case hg => rfl); (case hr => first | (go_simp; done) | (go_simp; rfl)); (case hp => exact (Reps.one (show Kd.M (Kd.int .i64) _ _ _ 0 [.int .i64 0] from rfl) (Reps.one (show Kd.M (Kd.int .i64) _ _ _ 0 [.int .i64 0] from rfl) (Reps.one (show Kd.M (Kd.int .i64) _ _ _ 0 [.int .i64 0] from rfl) (Reps.none _ _))))); intro v460 w25 ho26 hb hg_ hnew_; clear hg_ hnew_; (first | rw [← Ny459.out] at ho26 | (simp only [Int.reduceToNat] at ho26; rw [← Ny459.out] at ho26)); replace HO_3 := Aside0.mk (Kd.R_below (kr_ HO_3) hb); replace HO_4 := Aside0.mk (Kd.R_below (kr_ HO_4) hb); replace HO_7 := Aside0.mk (Kd.R_below (kr_ HO_7) hb); have HO461 := Aside0.mk (Kd.R_lower ho26 (below_size (bf_ HB))); replace BK447 := bb_ BK447 hb; replace BK458 := bb_ BK458 hb; replace HB := Aside0.mk (below_step (bf_ HB) hb); clear hb ho26))
      go_loopg [11] kj7 (fun kq v11 w' => ∃ (x10_2 : List Int) (x11_2 : Int), v11 = .int .i64 x11_2 ∧ Aside0 (laws_FnCarryBound.l0 kq t437 t451 x10_2 x11_2 t454 t455 t456 = some r) ∧ Aside0 (kq ≤ kj7) ∧ Aside0 (Kd.R k51 51 w' w.heap.size (fun _ => True) (.slice Ao10 t437.length co10) t437) ∧ Aside0 (Kd.R k46 46 w' w.heap.size (fun k_ => k_ ≠ gb447 ∧ k_ ≠ gb458) (.slice Ao23 t451.length co23) t451) ∧ Aside0 (Kd.R (Kd.int .i64) 3 w' w.heap.size (fun _ => True) v460 x10_2) ∧ Aside0 (w'.heap[gb447]? = some (.cells #[.int .i64 t443, .int .i64 t444, .int .i64 t445] 46 (0, 0))) ∧ Aside0 (w'.heap[gb458]? = some (.cells #[.int .i64 t454, .int .i64 t455, .int .i64 t456] 46 (0, 0))) ∧ Aside0 (Below w.heap.size w w'))
      case atStart => exact ⟨(y459), (0), (by first | rfl | (simp; done) | (simp [*]; done)), H', ⟨Nat.le_refl _⟩, ⟨kr_ HO_3⟩, ⟨by (with_reducible repeat (first | apply Kd.R_alloc | apply Kd.R_drewN | apply Kd.R_drew)); exact Kd.R_mono HO_7.out (fun _ hk => by first | exact ⟨hk.2.1, hk.2.2⟩ | grind)⟩, ⟨kr_ HO461⟩, ⟨bk_ BK447⟩, ⟨bk_ BK458⟩, ⟨bf_ HB⟩⟩
      case round =>
       clear H'
       (try clear c1); (try clear c2); (try clear p2 p2); (try clear c3); (try clear c4); (try clear c10); (try clear c18); (try clear c20); (try clear c20b0); (try clear c20b1); (try clear c21); (try clear c22); (try clear c22b0); (try clear c22b1); (try clear c22b2); (try clear hcz13_0 hcz13_1 hcz13_2 hfz13_0 hfz13_1 hfz13_2); (try clear hcz19_0 hcz19_1 hcz19_2 hfz19_0 hfz19_1 hfz19_2)
       obtain ⟨x10_2, x11_2, rfl, HA, HK2, HO_3, HO_7, HO_10, BK447, BK458, HB⟩ := hrel
       cases gk with
       | zero => exact absurd HA.out (by simp [laws_FnCarryBound.l0])
       | succ k2 =>
        have H := HA.out
        clear HA
        simp only [laws_FnCarryBound.l0] at H
        by_cases c27 : x11_2 < (t451.length : Int)
        ·rw [if_pos c27] at H
         have c27b0 : decide (x11_2 < (t451.length : Int)) = true := decide_eq_true c27
         clear c27
         have H' := Aside0.mk H
         clear H
         go_wp2
         go_loopg [12] k2 (fun kq v12 w' => ∃ (x10_3 : List Int) (x12_3 : Int), v12 = .int .i64 x12_3 ∧ Aside0 (laws_FnCarryBound.l1 kq t437 t451 x10_3 x11_2 x12_3 t454 t455 t456 = some r) ∧ Aside0 (kq ≤ k2) ∧ Aside0 (Kd.R k51 51 w' w.heap.size (fun _ => True) (.slice Ao10 t437.length co10) t437) ∧ Aside0 (Kd.R k46 46 w' w.heap.size (fun k_ => k_ ≠ gb447 ∧ k_ ≠ gb458) (.slice Ao23 t451.length co23) t451) ∧ Aside0 (Kd.R (Kd.int .i64) 3 w' w.heap.size (fun _ => True) v460 x10_3) ∧ Aside0 (w'.heap[gb447]? = some (.cells #[.int .i64 t443, .int .i64 t444, .int .i64 t445] 46 (0, 0))) ∧ Aside0 (w'.heap[gb458]? = some (.cells #[.int .i64 t454, .int .i64 t455, .int .i64 t456] 46 (0, 0))) ∧ Aside0 (Below w.heap.size w w'))
         case atStart => exact ⟨(x10_2), (0), (by first | rfl | (simp; done) | (simp [*]; done)), H', ⟨Nat.le_refl _⟩, ⟨kr_ HO_3⟩, ⟨kr_ HO_7⟩, ⟨kr_ HO_10⟩, ⟨bk_ BK447⟩, ⟨bk_ BK458⟩, ⟨bf_ HB⟩⟩
         case round =>
          clear H'
          (try clear c1); (try clear c2); (try clear p2 p2); (try clear c3); (try clear c4); (try clear c10); (try clear c18); (try clear c20); (try clear c20b0); (try clear c20b1); (try clear c21); (try clear c22); (try clear c22b0); (try clear c22b1); (try clear c22b2); (try clear c27); (try clear c27b0); (try clear hcz13_0 hcz13_1 hcz13_2 hfz13_0 hfz13_1 hfz13_2); (try clear hcz19_0 hcz19_1 hcz19_2 hfz19_0 hfz19_1 hfz19_2)
          obtain ⟨x10_3, x12_3, rfl, HA, HK3, HO_3, HO_7, HO_10, BK447, BK458, HB⟩ := hrel
          cases gk with
          | zero => exact absurd HA.out (by simp [laws_FnCarryBound.l1])
          | succ k3 =>
           have H := HA.out
           clear HA
           simp only [laws_FnCarryBound.l1] at H
           by_cases c28 : x12_3 < 3
           ·rw [if_pos c28] at H
            have c28b0 : decide (x12_3 < 3) = true := decide_eq_true c28
            clear c28
            by_cases c29 : 0 ≤ x11_2
            ·rw [if_pos c29] at H
             have c29b0 : decide (0 ≤ x11_2) = true := decide_eq_true c29
             clear c29
             by_cases c30 : x11_2 < (t451.length : Int)
             ·rw [if_pos c30] at H
              have c30b0 : decide (x11_2 < (t451.length : Int)) = true := decide_eq_true c30
              clear c30
              replace H := Option.bind_eq_some_iff.mp H
              obtain ⟨t463, A310, H⟩ := H
              replace H : (if t463 < 1 then (some false) else (if t463 > 2000 then (some false) else (if 0 ≤ x12_3 then (if x12_3 < (x10_3.length : Int) then (laws_FnCarryBound.l1 k3 t437 t451 (x10_3.set (x12_3 : Int).toNat (wrap64 ((rd x10_3 x12_3) + t463))) x11_2 (wrap64 (x12_3 + 1)) t454 t455 t456) else (none)) else (none)))) = some r := H
              have A31 := Aside0.mk A310
              clear A310
              by_cases c32 : t463 < 1
              ·rw [if_pos c32] at H
               have c32b0 : decide (t463 < 1) = true := decide_eq_true c32
               clear c32
               obtain rfl := Option.some.inj H
               have p462 : 0 ≤ (x11_2 : Int) := od_
               have q462 : x11_2 < (t451.length : Int) := od_
               obtain ⟨ad462, e462, hx462_0, hx462_1, hx462_2⟩ := at_T46 (Kd.R_reads' HO_7.out).2.2 x11_2 p462 q462
               cases e462
               replace p462 := eq_true p462
               replace q462 := eq_true q462
               go_wp2_with (first | ((with_reducible refine gc_ 23 rfl ?_); refine gl_ 71 Try.func23 #[.agg #[.int .i64 ((rd_T46 t451 x11_2).f0), .int .i64 ((rd_T46 t451 x11_2).f1), .int .i64 ((rd_T46 t451 x11_2).f2)], .int .i64 x12_3] ?_; (with_reducible refine (laws_vec.calls ((rd_T46 t451 x11_2).f0) ((rd_T46 t451 x11_2).f1) ((rd_T46 t451 x11_2).f2) x12_3 t463 _ A31.out).mono ?_); rintro e w33 ⟨rfl, hb⟩; refine ⟨_, rfl, ?_⟩; replace HO_3 := Aside0.mk (Kd.R_below (kr_ HO_3) hb); replace HO_7 := Aside0.mk (Kd.R_below (kr_ HO_7) hb); replace HO_10 := Aside0.mk (Kd.R_below (kr_ HO_10) hb); replace BK447 := bb_ BK447 hb; replace BK458 := bb_ BK458 hb; replace HB := Aside0.mk (below_step (bf_ HB) hb); (try clear hb); (try clear hb2); (try clear hk); (try clear hi)))
               go_ret
               exact ⟨by first | rfl | (simp [errW_none, errW_some] <;> rfl) | (simp [*, errW_none, errW_some] <;> rfl), bf_ HB⟩
              ·rw [if_neg c32] at H
               have c32b0 : decide (t463 < 1) = false := decide_eq_false c32
               clear c32
               by_cases c34 : t463 > 2000
               ·rw [if_pos c34] at H
                have c34b0 : decide (2000 < t463) = true := decide_eq_true c34
                clear c34
                obtain rfl := Option.some.inj H
                have p462 : 0 ≤ (x11_2 : Int) := od_
                have q462 : x11_2 < (t451.length : Int) := od_
                obtain ⟨ad462, e462, hx462_0, hx462_1, hx462_2⟩ := at_T46 (Kd.R_reads' HO_7.out).2.2 x11_2 p462 q462
                cases e462
                replace p462 := eq_true p462
                replace q462 := eq_true q462
                go_wp2_with (first | ((with_reducible refine gc_ 23 rfl ?_); refine gl_ 71 Try.func23 #[.agg #[.int .i64 ((rd_T46 t451 x11_2).f0), .int .i64 ((rd_T46 t451 x11_2).f1), .int .i64 ((rd_T46 t451 x11_2).f2)], .int .i64 x12_3] ?_; (with_reducible refine (laws_vec.calls ((rd_T46 t451 x11_2).f0) ((rd_T46 t451 x11_2).f1) ((rd_T46 t451 x11_2).f2) x12_3 t463 _ A31.out).mono ?_); rintro e w35 ⟨rfl, hb⟩; refine ⟨_, rfl, ?_⟩; replace HO_3 := Aside0.mk (Kd.R_below (kr_ HO_3) hb); replace HO_7 := Aside0.mk (Kd.R_below (kr_ HO_7) hb); replace HO_10 := Aside0.mk (Kd.R_below (kr_ HO_10) hb); replace BK447 := bb_ BK447 hb; replace BK458 := bb_ BK458 hb; replace HB := Aside0.mk (below_step (bf_ HB) hb); (try clear hb); (try clear hb2); (try clear hk); (try clear hi)))
                go_ret
                exact ⟨by first | rfl | (simp [errW_none, errW_some] <;> rfl) | (simp [*, errW_none, errW_some] <;> rfl), bf_ HB⟩
               ·rw [if_neg c34] at H
                have c34b0 : decide (2000 < t463) = false := decide_eq_false c34
                clear c34
                by_cases c36 : 0 ≤ x12_3
                ·rw [if_pos c36] at H
                 have c36b0 : decide (0 ≤ x12_3) = true := decide_eq_true c36
                 clear c36
                 by_cases c37 : x12_3 < (x10_3.length : Int)
                 ·rw [if_pos c37] at H
                  have c37b0 : decide (x12_3 < (x10_3.length : Int)) = true := decide_eq_true c37
                  clear c37
                  obtain ⟨y465, hy465⟩ : ∃ y_ : List Int, y_ = (x10_3.set (x12_3 : Int).toNat (wrap64 ((rd x10_3 x12_3) + t463))) := ⟨_, rfl⟩
                  replace H : (laws_FnCarryBound.l1 k3 t437 t451 y465 x11_2 (wrap64 (x12_3 + 1)) t454 t455 t456) = some r := by first | (rw [hy465]; with_reducible exact H) | (have H2_ := (Option.bind_some _ _).symm.trans H; rw [hy465]; with_reducible exact H2_) | (have H2_ := (Option.bind_some _ _).symm.trans H; with_reducible exact H2_) | with_reducible exact H | (rw [hy465]; exact H) | exact H
                  have Ny465 := Aside0.mk hy465
                  clear hy465
                  have H' := Aside0.mk H
                  clear H
                  have p462 : 0 ≤ (x11_2 : Int) := od_
                  have q462 : x11_2 < (t451.length : Int) := od_
                  obtain ⟨ad462, e462, hx462_0, hx462_1, hx462_2⟩ := at_T46 (Kd.R_reads' HO_7.out).2.2 x11_2 p462 q462
                  cases e462
                  replace p462 := eq_true p462
                  replace q462 := eq_true q462
                  go_wp2_with (first | ((with_reducible refine gc_ 23 rfl ?_); refine gl_ 71 Try.func23 #[.agg #[.int .i64 ((rd_T46 t451 x11_2).f0), .int .i64 ((rd_T46 t451 x11_2).f1), .int .i64 ((rd_T46 t451 x11_2).f2)], .int .i64 x12_3] ?_; (with_reducible refine (laws_vec.calls ((rd_T46 t451 x11_2).f0) ((rd_T46 t451 x11_2).f1) ((rd_T46 t451 x11_2).f2) x12_3 t463 _ A31.out).mono ?_); rintro e w39 ⟨rfl, hb⟩; refine ⟨_, rfl, ?_⟩; replace HO_3 := Aside0.mk (Kd.R_below (kr_ HO_3) hb); replace HO_7 := Aside0.mk (Kd.R_below (kr_ HO_7) hb); replace HO_10 := Aside0.mk (Kd.R_below (kr_ HO_10) hb); replace BK447 := bb_ BK447 hb; replace BK458 := bb_ BK458 hb; replace HB := Aside0.mk (below_step (bf_ HB) hb); (try clear hb); (try clear hb2); (try clear hk); (try clear hi); obtain ⟨Ao40, co40, eo40⟩ := Kd.R_slice HO_10.out; subst eo40; have p464 : 0 ≤ (x12_3 : Int) := od_; have q464 : x12_3 < (x10_3.length : Int) := od_; obtain ⟨ad464, e464, hx464_0⟩ := Kd.at_int (Kd.R_reads' HO_10.out).2.2 x12_3 p464 q464; cases e464; replace p464 := eq_true p464; replace q464 := eq_true q464; have p38 : 0 ≤ (x12_3 : Int) := od_; have q38 : (x12_3 : Int) < ((x10_3.length : Int) : Int) := od_; obtain ⟨go38, co38, eo38, gb38, gl38, cl38, HG38⟩ := Kd.R_form HO_10.out (by omega); (first | cases eo38 | (injection eo38 with ea_ en_ ec_; (first | subst ea_ | (injection ea_ with ea_; subst ea_)); subst ec_; clear en_)); have GB38 := Aside0.mk gb38; have GG38 := Aside0.mk HG38; clear gb38 gl38 HG38; (first | simp only [add_plain] at hx464_0 | skip); obtain ⟨hx38_0, hf38_0⟩ := Kd.R_celln 0 HO_10.out (x12_3 : Int) p38 q38; replace p38 := eq_true p38; replace q38 := eq_true q38; obtain ⟨hy41_, hz41_⟩ := Kd.R_celln 0 HO_10.out (x12_3 : Int) (od_) (od_); have HP41 := Kd.R_putg HO_10.out (x12_3 : Int) (wrap64 ((rd x10_3 x12_3) + t463))) | ((with_reducible refine gate_store (t := 3) (p := 86) rfl ?_); refine store_event (t := 3) (p := 86) (v := ?vo_w42) (w1 := (w39.setCell ⟨go38, (x12_3 : Int).toNat, none⟩ (.int .i64 (wrap64 ((rd x10_3 x12_3) + t463))))) ?hg ?ho ?hn ?hr ?_; (case ho => rfl); (case hg => rfl); (case hn => rfl); (case hr => first | (go_simp; done) | (go_simp; rfl)); intro w42 hw; have hg : w39.grownBy w42 (some go38) := (by rw [hw]; exact HP41.2); have hp_ : Kd.R (Kd.int .i64) 3 w42 w.heap.size (fun _ => True) (.slice (some ⟨go38, 0, none⟩) x10_3.length co40) y465 := (by rw [hw, Ny465.out]; exact HP41.1); clear HP41; replace HO_3 := Aside0.mk (Kd.R_over' (v := (.slice (some ⟨go38, 0, none⟩) x10_3.length co40)) (kr_ HO_3) (Kd.R_typed HO_10.out) (by decide) hg); replace HO_7 := Aside0.mk (Kd.R_over' (v := (.slice (some ⟨go38, 0, none⟩) x10_3.length co40)) (kr_ HO_7) (Kd.R_typed HO_10.out) (by decide) hg); replace BK447 := Aside0.mk (blk_grown (g := gb447) (o := .cells #[.int .i64 t443, .int .i64 t444, .int .i64 t445] 46 (0, 0)) (bk_ BK447) hg (Kd.R_ne HO_10.out BK447.out (by decide))); replace BK458 := Aside0.mk (blk_grown (g := gb458) (o := .cells #[.int .i64 t454, .int .i64 t455, .int .i64 t456] 46 (0, 0)) (bk_ BK458) hg (Kd.R_ne HO_10.out BK458.out (by decide))); replace HO_10 := Aside0.mk (hp_); replace HB := Aside0.mk ((by rw [hw]; exact below_set (HB.out) GB38.out : Below w.heap.size w w42)); clear hg hw hp_))
                  go_roundg k3
                  case measure => have := HJ7.out; have := HK2.out; have := HK3.out; omega
                  case rel => exact ⟨(y465), (wrap64 (x12_3 + 1)), (by first | rfl | (simp; done) | (simp [*]; done)), H', ⟨by have := HJ7.out; have := HK2.out; have := HK3.out; omega⟩, ⟨kr_ HO_3⟩, ⟨kr_ HO_7⟩, ⟨kr_ HO_10⟩, ⟨bk_ BK447⟩, ⟨bk_ BK458⟩, ⟨bf_ HB⟩⟩
                 ·rw [if_neg c37] at H
                  exact absurd H (by simp)
                ·rw [if_neg c36] at H
                 exact absurd H (by simp)
             ·rw [if_neg c30] at H
              exact absurd H (by simp)
            ·rw [if_neg c29] at H
             exact absurd H (by simp)
           ·rw [if_neg c28] at H
            have c28b0 : decide (x12_3 < 3) = false := decide_eq_false c28
            clear c28
            have H' := Aside0.mk H
            clear H
            go_wp2
            go_roundg k3
            case measure => have := HJ7.out; have := HK2.out; have := HK3.out; omega
            case rel => exact ⟨(x10_3), (wrap64 (x11_2 + 1)), (by first | rfl | (simp; done) | (simp [*]; done)), H', ⟨by have := HJ7.out; have := HK2.out; have := HK3.out; omega⟩, ⟨kr_ HO_3⟩, ⟨kr_ HO_7⟩, ⟨kr_ HO_10⟩, ⟨bk_ BK447⟩, ⟨bk_ BK458⟩, ⟨bf_ HB⟩⟩
        ·rw [if_neg c27] at H
         have c27b0 : decide (x11_2 < (t451.length : Int)) = false := decide_eq_false c27
         clear c27
         obtain ⟨y466, hy466⟩ : ∃ y_ : List (S46), y_ = (([] : List (S46))) := ⟨_, rfl⟩
         replace H : (laws_FnCarryBound.l2 k2 t437 x10_2 0 0 y466 (([0, 0, 0] : List Int)) 0 t454 t455 t456) = some r := by first | (rw [hy466]; with_reducible exact H) | (have H2_ := (Option.bind_some _ _).symm.trans H; rw [hy466]; with_reducible exact H2_) | (have H2_ := (Option.bind_some _ _).symm.trans H; with_reducible exact H2_) | with_reducible exact H | (rw [hy466]; exact H) | exact H
         have Ny466 := Aside0.mk hy466
         clear hy466
         obtain ⟨y469, hy469⟩ : ∃ y_ : List Int, y_ = (([0, 0, 0] : List Int)) := ⟨_, rfl⟩
         replace H : (laws_FnCarryBound.l2 k2 t437 x10_2 0 0 y466 y469 0 t454 t455 t456) = some r := by first | (rw [hy469]; with_reducible exact H) | (have H2_ := (Option.bind_some _ _).symm.trans H; rw [hy469]; with_reducible exact H2_) | (have H2_ := (Option.bind_some _ _).symm.trans H; with_reducible exact H2_) | with_reducible exact H | (rw [hy469]; exact H) | exact H
         have Ny469 := Aside0.mk hy469
         clear hy469
         have H' := Aside0.mk H
         clear H
         go_wp2_with (first | ((with_reducible refine gd_ 87 rfl ?_); refine Kd.R_lit k46 _ 46 ?hg (N := 87) ?hd (xs := ([] : List (S46))) (inner := []) (ok := fun _ => True) (okp := fun _ => True) ?hr ?hp (fun _ hk => by first | exact hk | grind) trivial (Below.refl _ _) (Nat.le_refl _) (by simp) ?_; (case hd => rfl); (case hg => rfl); (case hr => first | (go_simp; done) | (go_simp; rfl)); (case hp => exact (Reps.none _ _)); intro v467 w43 ho44 hb hg_ hnew_; clear hg_ hnew_; (first | rw [← Ny466.out] at ho44 | (simp only [Int.reduceToNat] at ho44; rw [← Ny466.out] at ho44)); replace HO_3 := Aside0.mk (Kd.R_below (kr_ HO_3) hb); replace HO_10 := Aside0.mk (Kd.R_below (kr_ HO_10) hb); have HO468 := Aside0.mk (Kd.R_lower (Kd.R_newB (Kd.R_newB (Kd.R_new' ho44 (Kd.R_lt (kr_ HO_7))) (g := gb447) (o := .cells #[.int .i64 t443, .int .i64 t444, .int .i64 t445] 46 (0, 0)) (bk_ BK447)) (g := gb458) (o := .cells #[.int .i64 t454, .int .i64 t455, .int .i64 t456] 46 (0, 0)) (bk_ BK458)) (below_size (bf_ HB))); replace HO_7 := Aside0.mk (Kd.R_elder' (kr_ HO_7) (Kd.R_base ho44) hb); replace BK447 := bb_ BK447 hb; replace BK458 := bb_ BK458 hb; replace HB := Aside0.mk (below_step (bf_ HB) hb); clear hb ho44) | ((with_reducible refine gd_ 88 rfl ?_); refine Kd.R_lit (Kd.int .i64) _ 3 ?hg (N := 88) ?hd (xs := ([0, 0, 0] : List Int)) (inner := [.int .i64 0, .int .i64 0, .int .i64 0]) (ok := fun _ => True) (okp := fun _ => True) ?hr ?hp (fun _ hk => by first | exact hk | grind) trivial (Below.refl _ _) (Nat.le_refl _) (by simp) ?_; (case hd => rfl); (case hg => rfl); (case hr => first | (go_simp; done) | (go_simp; rfl)); (case hp => exact (Reps.one (show Kd.M (Kd.int .i64) _ _ _ 0 [.int .i64 0] from rfl) (Reps.one (show Kd.M (Kd.int .i64) _ _ _ 0 [.int .i64 0] from rfl) (Reps.one (show Kd.M (Kd.int .i64) _ _ _ 0 [.int .i64 0] from rfl) (Reps.none _ _))))); intro v470 w45 ho46 hb hg_ hnew_; clear hg_ hnew_; (first | rw [← Ny469.out] at ho46 | (simp only [Int.reduceToNat] at ho46; rw [← Ny469.out] at ho46)); replace HO_3 := Aside0.mk (Kd.R_below (kr_ HO_3) hb); replace HO_7 := Aside0.mk (Kd.R_below (kr_ HO_7) hb); replace HO468 := Aside0.mk (Kd.R_below (kr_ HO468) hb); have HO471 := Aside0.mk (Kd.R_lower (Kd.R_new' ho46 (Kd.R_lt (kr_ HO_10))) (below_size (bf_ HB))); replace HO_10 := Aside0.mk (Kd.R_elder' (kr_ HO_10) (Kd.R_base ho46) hb); replace BK447 := bb_ BK447 hb; replace BK458 := bb_ BK458 hb; replace HB := Aside0.mk (below_step (bf_ HB) hb); clear hb ho46))
         go_loopg [14, 15, 16, 18] k2 (fun kq v14 v15 v16 v18 w' => ∃ (x14_3 : Int) (x15_3 : Int) (x16_3 : List (S46)) (x17_3 : List Int) (x18_3 : Int), v14 = .int .i64 x14_3 ∧ v15 = .int .i64 x15_3 ∧ v18 = .int .i64 x18_3 ∧ Aside0 (laws_FnCarryBound.l2 kq t437 x10_2 x14_3 x15_3 x16_3 x17_3 x18_3 t454 t455 t456 = some r) ∧ Aside0 (kq ≤ k2) ∧ Aside0 (Kd.R k51 51 w' w.heap.size (fun _ => True) (.slice Ao10 t437.length co10) t437) ∧ Aside0 (Kd.R (Kd.int .i64) 3 w' w.heap.size (fun k_ => some k_ ≠ (v470 : Value).ownBlock) v460 x10_2) ∧ Aside0 (Kd.Q k46 46 w' w.heap.size (fun k_ => k_ ≠ gb447 ∧ k_ ≠ gb458) v16 x16_3) ∧ Aside0 (Kd.R (Kd.int .i64) 3 w' w.heap.size (fun k_ => some k_ ≠ (v460 : Value).ownBlock) v470 x17_3) ∧ Aside0 (w'.heap[gb447]? = some (.cells #[.int .i64 t443, .int .i64 t444, .int .i64 t445] 46 (0, 0))) ∧ Aside0 (w'.heap[gb458]? = some (.cells #[.int .i64 t454, .int .i64 t455, .int .i64 t456] 46 (0, 0))) ∧ Aside0 (Below w.heap.size w w'))
         case atStart => exact ⟨(0), (0), (y466), (y469), (0), (by first | rfl | (simp; done) | (simp [*]; done)), (by first | rfl | (simp; done) | (simp [*]; done)), (by first | rfl | (simp; done) | (simp [*]; done)), H', ⟨Nat.le_refl _⟩, ⟨kr_ HO_3⟩, ⟨by (with_reducible repeat (first | apply Kd.R_alloc | apply Kd.R_drewN | apply Kd.R_drew)); exact Kd.R_mono HO_10.out (fun _ hk => by first | exact hk.2 | grind)⟩, ⟨Kd.Q_of_R (by (with_reducible repeat (first | apply Kd.R_alloc | apply Kd.R_drewN | apply Kd.R_drew)); exact Kd.R_mono HO468.out (fun _ hk => by first | exact ⟨hk.1.2, hk.2⟩ | grind))⟩, ⟨by (with_reducible repeat (first | apply Kd.R_alloc | apply Kd.R_drewN | apply Kd.R_drew)); exact Kd.R_mono HO471.out (fun _ hk => by first | exact hk.2 | grind)⟩, ⟨bk_ BK447⟩, ⟨bk_ BK458⟩, ⟨bf_ HB⟩⟩
         case round =>
          clear H'
          (try clear c1); (try clear c2); (try clear p2 p2); (try clear c3); (try clear p3); (try clear q3); (try clear hx3); (try clear hf3); (try clear c4); (try clear p4); (try clear q4); (try clear hx4); (try clear p6); (try clear c10); (try clear c18); (try clear c20); (try clear c20b0); (try clear c20b1); (try clear c21); (try clear c22); (try clear c22b0); (try clear c22b1); (try clear c22b2); (try clear c23); (try clear c27); (try clear c27b0); (try clear c28); (try clear c28b0); (try clear c29); (try clear c29b0); (try clear c30); (try clear c30b0); (try clear c32); (try clear c32b0); (try clear c34); (try clear c34b0); (try clear c36); (try clear c36b0); (try clear c37); (try clear c37b0); (try clear p38 p38); (try clear q38 q38); (try clear hx38); (try clear hf38); (try clear p46); (try clear q46); (try clear hx46); (try clear hcz13_0 hcz13_1 hcz13_2 hfz13_0 hfz13_1 hfz13_2); (try clear hcz19_0 hcz19_1 hcz19_2 hfz19_0 hfz19_1 hfz19_2); (try clear hx38_0); (try clear hx462_0); (try clear hx462_1); (try clear hx462_2); (try clear hx464_0); (try clear p462); (try clear p464); (try clear q462); (try clear q464)
          obtain ⟨x14_3, x15_3, x16_3, x17_3, x18_3, rfl, rfl, rfl, HA, HK3, HO_3, HO_10, HO_16, HO_17, BK447, BK458, HB⟩ := hrel
          cases gk with
          | zero => exact absurd HA.out (by simp [laws_FnCarryBound.l2])
          | succ k3 =>
           have H := HA.out
           clear HA
           simp only [laws_FnCarryBound.l2] at H
           by_cases c47 : x18_3 < (t437.length : Int)
           ·rw [if_pos c47] at H
            have c47b0 : decide (x18_3 < (t437.length : Int)) = true := decide_eq_true c47
            clear c47
            by_cases c48 : 0 ≤ x18_3
            ·rw [if_pos c48] at H
             have c48b0 : decide (0 ≤ x18_3) = true := decide_eq_true c48
             clear c48
             obtain ⟨bq49, hbq49⟩ : ∃ b_ : Bool, b_ = ((rd_T51 t437 x18_3).f0) := ⟨_, rfl⟩
             replace H : (if bq49 = true then (if 1 ≤ (x16_3.length : Int) then (laws_FnCarryBound.l3 k3 t437 x10_2 (wrap64 (x14_3 - 1)) x15_3 (x16_3.drop (1 : Int).toNat) x17_3 x18_3 0 t454 t455 t456) else (none)) else (if x16_3.length < 5864062014805 then (laws_FnCarryBound.l2 k3 t437 x10_2 (wrap64 (x14_3 + 1)) (mx x15_3 (wrap64 (x14_3 + 1))) (x16_3 ++ [(⟨(rd_T51 t437 x18_3).f1.f0, (rd_T51 t437 x18_3).f1.f1, (rd_T51 t437 x18_3).f1.f2⟩ : S46)]) x17_3 (wrap64 (x18_3 + 1)) t454 t455 t456) else (none))) = some r := by rw [← hbq49] at H; exact H
             have Nbq49 := Aside0.mk hbq49
             clear hbq49
             by_cases c50 : bq49 = true
             ·subst c50
              have H1 : (if 1 ≤ (x16_3.length : Int) then (laws_FnCarryBound.l3 k3 t437 x10_2 (wrap64 (x14_3 - 1)) x15_3 (x16_3.drop (1 : Int).toNat) x17_3 x18_3 0 t454 t455 t456) else (none)) = some r := by rw [if_pos rfl] at H; exact H
              clear H
              have H := H1
              clear H1
              by_cases c51 : 1 ≤ (x16_3.length : Int)
              ·rw [if_pos c51] at H
               have c51b0 := eq_true c51
               have c51b1 : decide (1 ≤ (x16_3.length : Int)) = true := decide_eq_true c51
               clear c51
               obtain ⟨y473, hy473⟩ : ∃ y_ : List (S46), y_ = (x16_3.drop (1 : Int).toNat) := ⟨_, rfl⟩
               replace H : (laws_FnCarryBound.l3 k3 t437 x10_2 (wrap64 (x14_3 - 1)) x15_3 y473 x17_3 x18_3 0 t454 t455 t456) = some r := by first | (rw [hy473]; with_reducible exact H) | (have H2_ := (Option.bind_some _ _).symm.trans H; rw [hy473]; with_reducible exact H2_) | (have H2_ := (Option.bind_some _ _).symm.trans H; with_reducible exact H2_) | with_reducible exact H | (rw [hy473]; exact H) | exact H
               have Ny473 := Aside0.mk hy473
               clear hy473
               have H' := Aside0.mk H
               clear H
               have p472 : 0 ≤ (x18_3 : Int) := od_
               have q472 : x18_3 < (t437.length : Int) := od_
               obtain ⟨ad472, e472, hx472_0, hx472_1, hx472_2, hx472_3⟩ := at_T51 (Kd.R_reads' HO_3.out).2.2 x18_3 p472 q472
               (try rw [← Nbq49.out] at hx472_0)
               cases e472
               replace p472 := eq_true p472
               replace q472 := eq_true q472
               obtain ⟨Ao52, co52, eo52, _⟩ := Kd.Q_slice HO_16.out
               subst eo52
               have q53 : (1 : Int) ≤ ((x16_3.length : Int) : Int) := od_
               obtain ⟨i053, hi053, _, hsz53, _⟩ := info_parts info46
               have hcut53 := cut_from (P := Try.prog) 44 46 .i64 Try.underlying44 hi053 3 hsz53 Ao52 x16_3.length co52 1 (by omega) q53
               have hr53 := Kd.Q_drop (k := (1 : Int).toNat) HO_16.out (by omega)
               obtain ⟨A53, hA53⟩ : ∃ A1, A1 = (if co52 = (1 : Int).toNat then Ao52 else (Ao52 : Option Addr).map (·.add ((1 : Int).toNat * 3))) := ⟨_, rfl⟩
               obtain ⟨c53, hc53⟩ : ∃ c1, c1 = co52 - (1 : Int).toNat := ⟨_, rfl⟩
               have hy53 : y473.length = x16_3.length - (1 : Int).toNat := (by rw [Ny473.out, List.length_drop])
               rw [← Ny473.out] at hr53
               rw [← hy53, ← hA53, ← hc53] at hcut53
               replace hr53 : Kd.Q k46 46 wr w.heap.size (fun k_ => k_ ≠ gb447 ∧ k_ ≠ gb458) (.slice A53 y473.length c53) y473 := (by rw [hA53, hc53, hy53]; exact hr53)
               have HE53 : Aside0 ((Value.slice A53 y473.length c53).ownBlock = (.slice Ao52 x16_3.length co52 : Value).ownBlock) := ⟨by rw [hA53]; split <;> (cases (Ao52 : Option Addr) <;> rfl)⟩
               clear hy53 hi053 hsz53 HO_16 hA53 hc53; have HO475 := Aside0.mk hr53; clear hr53
               replace q53 := eq_true q53
               go_wp2
               go_loopg [19] k3 (fun kq v19 w' => ∃ (x17_4 : List Int) (x19_4 : Int), v19 = .int .i64 x19_4 ∧ Aside0 (laws_FnCarryBound.l3 kq t437 x10_2 (wrap64 (x14_3 - 1)) x15_3 y473 x17_4 x18_3 x19_4 t454 t455 t456 = some r) ∧ Aside0 (kq ≤ k3) ∧ Aside0 (Kd.R k51 51 w' w.heap.size (fun _ => True) (.slice (some ad472) t437.length co10) t437) ∧ Aside0 (Kd.R (Kd.int .i64) 3 w' w.heap.size (fun k_ => some k_ ≠ (v470 : Value).ownBlock) v460 x10_2) ∧ Aside0 (Kd.Q k46 46 w' w.heap.size (fun k_ => k_ ≠ gb447 ∧ k_ ≠ gb458) (.slice A53 y473.length c53) y473) ∧ Aside0 (Kd.R (Kd.int .i64) 3 w' w.heap.size (fun k_ => some k_ ≠ (v460 : Value).ownBlock) v470 x17_4) ∧ Aside0 (w'.heap[gb447]? = some (.cells #[.int .i64 t443, .int .i64 t444, .int .i64 t445] 46 (0, 0))) ∧ Aside0 (w'.heap[gb458]? = some (.cells #[.int .i64 t454, .int .i64 t455, .int .i64 t456] 46 (0, 0))) ∧ Aside0 (Below w.heap.size w w'))
               case atStart => exact ⟨(x17_3), (0), (by first | rfl | (simp; done) | (simp [*]; done)), H', ⟨Nat.le_refl _⟩, ⟨kr_ HO_3⟩, ⟨kr_ HO_10⟩, ⟨by (with_reducible repeat (first | apply Kd.Q_alloc | apply Kd.Q_drewN | apply Kd.Q_drew)); exact HO475.out⟩, ⟨kr_ HO_17⟩, ⟨bk_ BK447⟩, ⟨bk_ BK458⟩, ⟨bf_ HB⟩⟩
               case round =>
                clear H'
                (try clear c1); (try clear c2); (try clear p2 p2); (try clear c3); (try clear p3 p3); (try clear q3 q3); (try clear hx3); (try clear hf3); (try clear c4); (try clear p4 p4); (try clear q4 q4); (try clear hx4); (try clear c5); (try clear q5); (try clear p6 p6); (try clear c10); (try clear c18); (try clear c20); (try clear c20b0); (try clear c20b1); (try clear c21); (try clear c22); (try clear c22b0); (try clear c22b1); (try clear c22b2); (try clear c23); (try clear c27); (try clear c27b0); (try clear c28); (try clear c28b0); (try clear c29); (try clear c29b0); (try clear c30); (try clear c30b0); (try clear c32); (try clear c32b0); (try clear c34); (try clear c34b0); (try clear c36); (try clear c36b0); (try clear c37); (try clear c37b0); (try clear p38 p38); (try clear q38 q38); (try clear hx38); (try clear hf38); (try clear p46 p46); (try clear q46 q46); (try clear hx46); (try clear c47); (try clear c47b0); (try clear p47); (try clear q47); (try clear hx47); (try clear c48); (try clear c48b0); (try clear q49); (try clear c50); (try clear c51); (try clear c51b0); (try clear c51b1); (try clear c53); (try clear q53 q53); (try clear hcz13_0 hcz13_1 hcz13_2 hfz13_0 hfz13_1 hfz13_2); (try clear hcz19_0 hcz19_1 hcz19_2 hfz19_0 hfz19_1 hfz19_2); (try clear hx38_0); (try clear hx462_0); (try clear hx462_1); (try clear hx462_2); (try clear hx464_0); (try clear hx472_0); (try clear hx472_1); (try clear hx472_2); (try clear hx472_3); (try clear p462); (try clear p464); (try clear p472); (try clear q462); (try clear q464); (try clear q472)
                obtain ⟨x17_4, x19_4, rfl, HA, HK4, HO_3, HO_10, HO_16, HO_17, BK447, BK458, HB⟩ := hrel
                cases gk with
                | zero => exact absurd HA.out (by simp [laws_FnCarryBound.l3])
                | succ k4 =>
                 have H := HA.out
                 clear HA
                 simp only [laws_FnCarryBound.l3] at H
                 by_cases c54 : x19_4 < 3
                 ·rw [if_pos c54] at H
                  have c54b0 : decide (x19_4 < 3) = true := decide_eq_true c54
                  clear c54
                  by_cases c55 : 0 ≤ x19_4
                  ·rw [if_pos c55] at H
                   have c55b0 : decide (0 ≤ x19_4) = true := decide_eq_true c55
                   clear c55
                   by_cases c56 : x19_4 < (x17_4.length : Int)
                   ·rw [if_pos c56] at H
                    have c56b0 : decide (x19_4 < (x17_4.length : Int)) = true := decide_eq_true c56
                    clear c56
                    by_cases c57 : 0 ≤ x18_3
                    ·rw [if_pos c57] at H
                     have c57b0 : decide (0 ≤ x18_3) = true := decide_eq_true c57
                     clear c57
                     by_cases c58 : x18_3 < (t437.length : Int)
                     ·rw [if_pos c58] at H
                      have c58b0 : decide (x18_3 < (t437.length : Int)) = true := decide_eq_true c58
                      clear c58
                      replace H := Option.bind_eq_some_iff.mp H
                      obtain ⟨t478, A590, H⟩ := H
                      replace H : (laws_FnCarryBound.l3 k4 t437 x10_2 (wrap64 (x14_3 - 1)) x15_3 y473 (x17_4.set (x19_4 : Int).toNat (wrap64 ((rd x17_4 x19_4) + t478))) x18_3 (wrap64 (x19_4 + 1)) t454 t455 t456) = some r := H
                      have A59 := Aside0.mk A590
                      clear A590
                      obtain ⟨y479, hy479⟩ : ∃ y_ : List Int, y_ = (x17_4.set (x19_4 : Int).toNat (wrap64 ((rd x17_4 x19_4) + t478))) := ⟨_, rfl⟩
                      replace H : (laws_FnCarryBound.l3 k4 t437 x10_2 (wrap64 (x14_3 - 1)) x15_3 y473 y479 x18_3 (wrap64 (x19_4 + 1)) t454 t455 t456) = some r := by first | (rw [hy479]; with_reducible exact H) | (have H2_ := (Option.bind_some _ _).symm.trans H; rw [hy479]; with_reducible exact H2_) | (have H2_ := (Option.bind_some _ _).symm.trans H; with_reducible exact H2_) | with_reducible exact H | (rw [hy479]; exact H) | exact H
                      have Ny479 := Aside0.mk hy479
                      clear hy479
                      have H' := Aside0.mk H
                      clear H
                      try go_wp2
                      replace HO_3 := Aside0.mk (Kd.R_drew HO_3.out); replace HO_10 := Aside0.mk (Kd.R_drew HO_10.out); replace HO_16 := Aside0.mk (Kd.Q_drew HO_16.out); replace HO_17 := Aside0.mk (Kd.R_drew HO_17.out); replace BK447 := Aside0.mk (blk_drew BK447.out); replace BK458 := Aside0.mk (blk_drew BK458.out); replace HB := Aside0.mk (below_drew1 HB.out)
                      obtain ⟨Ao62, co62, eo62⟩ := Kd.R_slice HO_17.out
                      (first | subst eo62 | (injection eo62 with f1_ f2_ f3_; have f4_ := f1_.symm; have f5_ := f3_.symm; clear f1_ f2_ f3_; subst f4_; subst f5_))
                      have p476 : 0 ≤ (x19_4 : Int) := od_
                      have q476 : x19_4 < (x17_4.length : Int) := od_
                      obtain ⟨ad476, e476, hx476_0⟩ := Kd.at_int (Kd.R_reads' HO_17.out).2.2 x19_4 p476 q476
                      cases e476
                      replace p476 := eq_true p476
                      replace q476 := eq_true q476
                      have p477 : 0 ≤ (x18_3 : Int) := od_
                      have q477 : x18_3 < (t437.length : Int) := od_
                      obtain ⟨ad477, e477, hx477_0, hx477_1, hx477_2, hx477_3⟩ := at_T51 (Kd.R_reads' HO_3.out).2.2 x18_3 p477 q477
                      (try rw [← Nbq49.out] at hx477_0)
                      obtain rfl : ad472 = ad477 := (by injection e477)
                      replace p477 := eq_true p477
                      replace q477 := eq_true q477
                      refine start_ (n := 16) (S := fun w' => w'.cell? (ad476.add (x19_4).toNat) = some (.int .i64 (rd x17_4 x19_4)) ∧ w'.cell? (ad472.add ((x18_3).toNat * 4)) = some (.bool (true)) ∧ w'.cell? ⟨(ad472.add ((x18_3).toNat * 4)).block, (ad472.add ((x18_3).toNat * 4)).off + 1, none⟩ = some (.int .i64 ((rd_T51 t437 x18_3).f1.f0)) ∧ w'.cell? ⟨(ad472.add ((x18_3).toNat * 4)).block, (ad472.add ((x18_3).toNat * 4)).off + 2, none⟩ = some (.int .i64 ((rd_T51 t437 x18_3).f1.f1)) ∧ w'.cell? ⟨(ad472.add ((x18_3).toNat * 4)).block, (ad472.add ((x18_3).toNat * 4)).off + 3, none⟩ = some (.int .i64 ((rd_T51 t437 x18_3).f1.f2))) (ds := [15]) (bs 16 0) (by kernel_rfl) rfl rfl ⟨hx476_0, hx477_0, hx477_1, hx477_2, hx477_3⟩ (fun hHeld => ?_); refine with_tabW laws_FnCarryBound.tab33 laws_FnCarryBound.bits33 (fun HT_ HW_ => ?_)
                      generalize wr.drew = w61 at HO_3 HO_10 HO_16 HO_17 BK447 BK458 HB hx476_0 hx477_0 hx477_1 hx477_2 hx477_3 hHeld ⊢
                      refine ps_ 0 108 (bs 16 1) HT_ ?_
                      refine ps_ 1 109 (bs 16 2) HT_ ?_
                      refine ps_ 2 110 (bs 16 3) HT_ ?_
                      refine ps_ 3 111 (bs 16 4) HT_ ?_
                      refine ps_ 4 112 (bs 16 5) HT_ ?_
                      refine ps_ 6 114 (bm 16 95) HT_ ?_
                      refine ps_ 7 115 (bm 16 223) HT_ ?_
                      refine ps_ 8 116 (bm 16 479) HT_ ?_
                      refine ps_ 9 117 (bm 16 991) HT_ ?_
                      refine ps_ 11 119 (bm 16 3039) HT_ ?_
                      refine tk_ 5 113 (bm 16 3071) HT_ HW_ hHeld ?_
                      refine tk_ 10 118 (bs 16 12) HT_ HW_ hHeld ?_
                      refine on_ 12 (some 120) (bs 16 13) HT_ (fun K hK => ?_)
                      refine gs_ Try.func23 #[.agg #[.int .i64 ((rd_T51 t437 x18_3).f1.f0), .int .i64 ((rd_T51 t437 x18_3).f1.f1), .int .i64 ((rd_T51 t437 x18_3).f1.f2)], .int .i64 x19_4] ?_
                      with_reducible refine (laws_vec.calls ((rd_T51 t437 x18_3).f1.f0) ((rd_T51 t437 x18_3).f1.f1) ((rd_T51 t437 x18_3).f1.f2) x19_4 t478 _ A59.out).mono ?_
                      rintro e w63 ⟨rfl, hb⟩
                      have HS0_ := hc_ hb hHeld.1
                      have HS1_ := hc_ hb hHeld.2.1
                      have HS2_ := hc_ hb hHeld.2.2.1
                      have HS3_ := hc_ hb hHeld.2.2.2.1
                      have HS4_ := hc_ hb hHeld.2.2.2.2
                      refine ⟨_, rfl, ?_⟩
                      have n0_ := Aside0.mk (Kd.R_below (kr_ HO_3) hb); have n1_ := Aside0.mk (Kd.R_below (kr_ HO_10) hb)
                      have n2_ := Aside0.mk (Kd.Q_below (by (with_reducible repeat (first | apply Kd.Q_alloc | apply Kd.Q_drewN | apply Kd.Q_drew)); exact HO_16.out) hb)
                      have n3_ := Aside0.mk (Kd.R_below (kr_ HO_17) hb); have n4_ := bb_ BK447 hb; have n5_ := bb_ BK458 hb; have n6_ := Aside0.mk (below_step (bf_ HB) hb); clear HO_3 HO_10 HO_16 HO_17 BK447 BK458 HB; have HO_3 := n0_; have HO_10 := n1_; have HO_16 := n2_; have HO_17 := n3_; have BK447 := n4_; have BK458 := n5_; have HB := n6_; clear n0_ n1_ n2_ n3_ n4_ n5_ n6_; (try clear hb); (try clear hb2); (try clear hk); (try clear hi)
                      have p60 : 0 ≤ (x19_4 : Int) := od_
                      have q60 : (x19_4 : Int) < ((x17_4.length : Int) : Int) := od_
                      obtain ⟨go60, co60, eo60, gb60, gl60, cl60, HG60⟩ := Kd.R_form HO_17.out (by omega)
                      (first | cases eo60 | (injection eo60 with ea_ en_ ec_; (first | subst ea_ | (injection ea_ with ea_; subst ea_)); subst ec_; clear en_))
                      have GB60 := Aside0.mk gb60
                      have GG60 := Aside0.mk HG60
                      clear gb60 gl60 HG60
                      (first | simp only [add_plain] at hx476_0 | skip)
                      obtain ⟨hx60_0, hf60_0⟩ := Kd.R_celln 0 HO_17.out (x19_4 : Int) p60 q60
                      replace p60 := eq_true p60
                      replace q60 := eq_true q60
                      have HP64 := Kd.R_putn HO_17.out (x19_4 : Int) (wrap64 ((rd x17_4 x19_4) + t478))
                      rw [← Ny479.out] at HP64
                      have HQ64 := Aside0.mk HP64
                      clear HP64
                      refine hK.out _ _ ⟨HS0_, HS1_, HS2_, HS3_, HS4_⟩ (fun hHeld => ?_)
                      clear hK K
                      refine norm_ (a' := ?_) ?_ ?_
                      rotate_left
                      ·show Act.put _ (some 120) _ = _
                       simp only [Act.put, ls0_, ls1_, ls2_, i64_w, i32_w]
                       rfl
                      refine ps_ 13 121 (bs 16 14) HT_ ?_
                      refine ps_ 14 122 (bs 16 15) HT_ ?_
                      refine last_ (i := 15) (N := none) (bs 16 16) rfl rfl (one_of HT_.out (by kernel_rfl)) (by decide) (fun K hK => ?_)
                      refine skip_ (w1 := ?_) (by rfl) rfl ?_ ?_
                      rotate_left
                      ·go_simp
                       rfl
                      refine hK.out _ _ ?_
                      clear hK K
                      refine done_ (done_of HT_.out (by kernel_rfl)) ?_
                      try go_wp2
                      go_roundg k4
                      case measure => have := HJ7.out; have := HK2.out; have := HK3.out; have := HK4.out; omega
                      case rel => exact ⟨(y479), (wrap64 (x19_4 + 1)), (by first | rfl | (simp; done) | (simp [*]; done)), H', ⟨by have := HJ7.out; have := HK2.out; have := HK3.out; have := HK4.out; omega⟩, ⟨by (with_reducible repeat (first | apply Kd.R_alloc | apply Kd.R_drewN | apply Kd.R_drew)); exact Kd.R_mono (Kd.R_far (p := ⟨go60, (x19_4 : Int).toNat, none⟩) (Kd.R_types HO_3.out GG60.out (by decide)) (fun _ hk => by first | exact hk.2 | grind) (.int .i64 (wrap64 ((rd x17_4 x19_4) + t478)))) (fun _ hk => by first | exact trivial | grind)⟩, ⟨by (with_reducible repeat (first | apply Kd.R_alloc | apply Kd.R_drewN | apply Kd.R_drew)); exact Kd.R_mono (Kd.R_far (p := ⟨go60, (x19_4 : Int).toNat, none⟩) (Kd.R_mono HO_10.out (fun k_ hk => by first | exact (⟨hk, fun e_ => hk (by rw [e_]; rfl)⟩ : _ ∧ k_ ≠ go60) | grind)) (fun _ hk => by first | exact hk.2 | grind) (.int .i64 (wrap64 ((rd x17_4 x19_4) + t478)))) (fun _ hk => by first | exact hk.1 | grind)⟩, ⟨by (with_reducible repeat (first | apply Kd.Q_alloc | apply Kd.Q_drewN | apply Kd.Q_drew)); exact Kd.Q_mono (Kd.Q_far (p := ⟨go60, (x19_4 : Int).toNat, none⟩) (Kd.Q_types HO_16.out GG60.out (by decide)) (fun _ hk => by first | exact hk.2 | grind) (.int .i64 (wrap64 ((rd x17_4 x19_4) + t478)))) (fun _ hk => by first | exact ⟨hk.1.1, hk.1.2⟩ | grind)⟩, ⟨kr_ HQ64⟩, ⟨by (with_reducible repeat (first | refine blk_drewN ?_ _ | refine blk_drew ?_ | refine blk_alloc ?_ _)); refine blk_far ?_ (by have h_ := Kd.R_ne HO_17.out BK447.out (by decide); intro e_; exact h_ (by rw [e_]; rfl)) _; exact bk_ BK447⟩, ⟨by (with_reducible repeat (first | refine blk_drewN ?_ _ | refine blk_drew ?_ | refine blk_alloc ?_ _)); refine blk_far ?_ (by have h_ := Kd.R_ne HO_17.out BK458.out (by decide); intro e_; exact h_ (by rw [e_]; rfl)) _; exact bk_ BK458⟩, ⟨by repeat (first | (with_reducible first | exact HB.out | apply below_alloc | apply pw_below_drewN | apply below_drew1 | refine below_set ?_ GB60.out | refine below_set ?_ GE447.out | refine below_set ?_ GE458.out) | exact HB.out)⟩⟩
                     ·rw [if_neg c58] at H
                      exact absurd H (by simp)
                    ·rw [if_neg c57] at H
                     exact absurd H (by simp)
                   ·rw [if_neg c56] at H
                    exact absurd H (by simp)
                  ·rw [if_neg c55] at H
                   exact absurd H (by simp)
                 ·rw [if_neg c54] at H
                  have c54b0 : decide (x19_4 < 3) = false := decide_eq_false c54
                  clear c54
                  obtain ⟨ji65, hji65⟩ : ∃ j_ : Int, (mx x15_3 (wrap64 (x14_3 - 1))) = j_ := ⟨_, rfl⟩
                  replace H : (laws_FnCarryBound.l2 k4 t437 x10_2 (wrap64 (x14_3 - 1)) ji65 y473 x17_4 (wrap64 (x18_3 + 1)) t454 t455 t456) = some r := by first | (rw [hji65] at H; exact H) | (simp only [hji65] at H ⊢; exact H)
                  have hji65_ : (if x15_3 < (wrap64 (x14_3 - 1)) then (wrap64 (x14_3 - 1)) else x15_3) = ji65 := hji65
                  have H' := Aside0.mk H
                  clear H
                  go_wp2
                  go_roundg k4
                  case measure => have := HJ7.out; have := HK2.out; have := HK3.out; have := HK4.out; omega
                  case rel => exact ⟨((wrap64 (x14_3 - 1))), (ji65), (y473), (x17_4), (wrap64 (x18_3 + 1)), (by first | rfl | (simp; done) | (simp [*]; done)), (by first | rfl | (simp; done) | (simp only [← hji65] <;> (first | rfl | simp)) | (simp [*]; done)), (by first | rfl | (simp; done) | (simp [*]; done)), H', ⟨by have := HJ7.out; have := HK2.out; have := HK3.out; have := HK4.out; omega⟩, ⟨kr_ HO_3⟩, ⟨kr_ HO_10⟩, ⟨by (with_reducible repeat (first | apply Kd.Q_alloc | apply Kd.Q_drewN | apply Kd.Q_drew)); exact HO_16.out⟩, ⟨kr_ HO_17⟩, ⟨bk_ BK447⟩, ⟨bk_ BK458⟩, ⟨bf_ HB⟩⟩
              ·rw [if_neg c51] at H
               exact absurd H (by simp)
             ·replace c50 := Bool.eq_false_iff.mpr c50
              subst c50
              have H1 : (if x16_3.length < 5864062014805 then (laws_FnCarryBound.l2 k3 t437 x10_2 (wrap64 (x14_3 + 1)) (mx x15_3 (wrap64 (x14_3 + 1))) (x16_3 ++ [(⟨(rd_T51 t437 x18_3).f1.f0, (rd_T51 t437 x18_3).f1.f1, (rd_T51 t437 x18_3).f1.f2⟩ : S46)]) x17_3 (wrap64 (x18_3 + 1)) t454 t455 t456) else (none)) = some r := by rw [if_neg (show ¬ (false = true) by decide)] at H; exact H
              clear H
              have H := H1
              clear H1
              by_cases c66 : x16_3.length < 5864062014805
              ·rw [if_pos c66] at H
               have LMc66 := Aside0.mk c66
               clear c66
               obtain ⟨y481, hy481⟩ : ∃ y_ : List (S46), y_ = (x16_3 ++ [(⟨(rd_T51 t437 x18_3).f1.f0, (rd_T51 t437 x18_3).f1.f1, (rd_T51 t437 x18_3).f1.f2⟩ : S46)]) := ⟨_, rfl⟩
               replace H : (laws_FnCarryBound.l2 k3 t437 x10_2 (wrap64 (x14_3 + 1)) (mx x15_3 (wrap64 (x14_3 + 1))) y481 x17_3 (wrap64 (x18_3 + 1)) t454 t455 t456) = some r := by first | (rw [hy481]; with_reducible exact H) | (have H2_ := (Option.bind_some _ _).symm.trans H; rw [hy481]; with_reducible exact H2_) | (have H2_ := (Option.bind_some _ _).symm.trans H; with_reducible exact H2_) | with_reducible exact H | (rw [hy481]; exact H) | exact H
               have Ny481 := Aside0.mk hy481
               clear hy481
               obtain ⟨ji67, hji67⟩ : ∃ j_ : Int, (mx x15_3 (wrap64 (x14_3 + 1))) = j_ := ⟨_, rfl⟩
               replace H : (laws_FnCarryBound.l2 k3 t437 x10_2 (wrap64 (x14_3 + 1)) ji67 y481 x17_3 (wrap64 (x18_3 + 1)) t454 t455 t456) = some r := by first | (rw [hji67] at H; exact H) | (simp only [hji67] at H ⊢; exact H)
               have hji67_ : (if x15_3 < (wrap64 (x14_3 + 1)) then (wrap64 (x14_3 + 1)) else x15_3) = ji67 := hji67
               have H' := Aside0.mk H
               clear H
               have p472 : 0 ≤ (x18_3 : Int) := od_
               have q472 : x18_3 < (t437.length : Int) := od_
               obtain ⟨ad472, e472, hx472_0, hx472_1, hx472_2, hx472_3⟩ := at_T51 (Kd.R_reads' HO_3.out).2.2 x18_3 p472 q472
               (try rw [← Nbq49.out] at hx472_0)
               cases e472
               replace p472 := eq_true p472
               replace q472 := eq_true q472
               have p480 : 0 ≤ (x18_3 : Int) := od_
               have q480 : x18_3 < (t437.length : Int) := od_
               obtain ⟨ad480, e480, hx480_0, hx480_1, hx480_2, hx480_3⟩ := at_T51 (Kd.R_reads' HO_3.out).2.2 x18_3 p480 q480
               (try rw [← Nbq49.out] at hx480_0)
               obtain rfl : ad472 = ad480 := (by injection e480)
               replace p480 := eq_true p480
               replace q480 := eq_true q480
               go_wp2_with (first | ((with_reducible refine gate_builtin (b := .append) (xs := #[.tmp 125, .tmp 131]) rfl ?_); at_builtin; refine Kd.Q_append k46 (w0 := w) w.heap.size rfl (.tmp 125) (.tmp 131) 44 46 (.agg #[(.int .i64 0), (.int .i64 0), (.int .i64 0)]) 24 rfl Try.underlying44 info46 rfl (by decide) (by omega) u16 x16_3 (⟨(rd_T51 t437 x18_3).f1.f0, (rd_T51 t437 x18_3).f1.f1, (rd_T51 t437 x18_3).f1.f2⟩ : S46) [.int .i64 ((rd_T51 t437 x18_3).f1.f0), .int .i64 ((rd_T51 t437 x18_3).f1.f1), .int .i64 ((rd_T51 t437 x18_3).f1.f2)] (fun k_ => k_ ≠ gb447 ∧ k_ ≠ gb458) (fun _ => False) rfl rfl ?aP (fun _ hk => by first | exact hk.elim | grind) ?aF ?aO ?aB ?aS ?aL ?_; (case aP => exact k46_mkM _ _ _ (⟨(rd_T51 t437 x18_3).f1.f0, (rd_T51 t437 x18_3).f1.f1, (rd_T51 t437 x18_3).f1.f2⟩ : S46)); (case aB => exact (bf_ HB)); (case aF => exact (fun k_ hk => by first | exact ⟨Kd.freshB (g := gb447) (o := .cells #[.int .i64 t443, .int .i64 t444, .int .i64 t445] 46 (0, 0)) (bk_ BK447) k_ hk, Kd.freshB (g := gb458) (o := .cells #[.int .i64 t454, .int .i64 t455, .int .i64 t456] 46 (0, 0)) (bk_ BK458) k_ hk⟩ | grind)); (case aO => exact (by (with_reducible repeat (first | apply Kd.Q_alloc | apply Kd.Q_drewN | apply Kd.Q_drew)); exact HO_16.out)); (case aS => exact (below_size (bf_ HB))); (case aL => have := LMc66.out; omega); intro v482 w68 ho hb hg hat; rw [← Ny481.out] at ho; replace HO_3 := Aside0.mk (Kd.R_over' (kr_ HO_3) (Kd.Q_typed (by (with_reducible repeat (first | apply Kd.Q_alloc | apply Kd.Q_drewN | apply Kd.Q_drew)); exact HO_16.out)) (by decide) hg); replace HO_10 := Aside0.mk (Kd.R_over' (kr_ HO_10) (Kd.Q_typed (by (with_reducible repeat (first | apply Kd.Q_alloc | apply Kd.Q_drewN | apply Kd.Q_drew)); exact HO_16.out)) (by decide) hg); replace HO_17 := Aside0.mk (Kd.R_over' (kr_ HO_17) (Kd.Q_typed (by (with_reducible repeat (first | apply Kd.Q_alloc | apply Kd.Q_drewN | apply Kd.Q_drew)); exact HO_16.out)) (by decide) hg); replace BK447 := Aside0.mk (blk_grown (g := gb447) (o := .cells #[.int .i64 t443, .int .i64 t444, .int .i64 t445] 46 (0, 0)) (bk_ BK447) hg (Kd.Q_away HO_16.out (fun _ hk => by first | exact hk.1 | grind))); replace BK458 := Aside0.mk (blk_grown (g := gb458) (o := .cells #[.int .i64 t454, .int .i64 t455, .int .i64 t456] 46 (0, 0)) (bk_ BK458) hg (Kd.Q_away HO_16.out (fun _ hk => by first | exact hk.2 | grind))); replace HB := Aside0.mk (hb); have HO483 := Aside0.mk (ho); clear HO_16 ho hb hg hat))
               go_roundg k3
               case measure => have := HJ7.out; have := HK2.out; have := HK3.out; omega
               case rel => exact ⟨(wrap64 (x14_3 + 1)), (ji67), (y481), (x17_3), (wrap64 (x18_3 + 1)), (by first | rfl | (simp; done) | (simp [*]; done)), (by first | rfl | (simp; done) | (simp only [← hji67] <;> (first | rfl | simp)) | (simp [*]; done)), (by first | rfl | (simp; done) | (simp [*]; done)), H', ⟨by have := HJ7.out; have := HK2.out; have := HK3.out; omega⟩, ⟨kr_ HO_3⟩, ⟨kr_ HO_10⟩, ⟨by (with_reducible repeat (first | apply Kd.Q_alloc | apply Kd.Q_drewN | apply Kd.Q_drew)); exact HO483.out⟩, ⟨kr_ HO_17⟩, ⟨bk_ BK447⟩, ⟨bk_ BK458⟩, ⟨bf_ HB⟩⟩
              ·rw [if_neg c66] at H
               exact absurd H (by simp)
            ·rw [if_neg c48] at H
             exact absurd H (by simp)
           ·rw [if_neg c47] at H
            have c47b0 : decide (x18_3 < (t437.length : Int)) = false := decide_eq_false c47
            clear c47
            have H' := Aside0.mk H
            clear H
            go_wp2
            go_loopg [20] k3 (fun kq v20 w' => ∃ (x17_4 : List Int) (x20_4 : Int), v20 = .int .i64 x20_4 ∧ Aside0 (laws_FnCarryBound.l4 kq x10_2 x15_3 x16_3 x17_4 x20_4 t454 t455 t456 = some r) ∧ Aside0 (kq ≤ k3) ∧ Aside0 (Kd.R (Kd.int .i64) 3 w' w.heap.size (fun k_ => some k_ ≠ (v470 : Value).ownBlock) v460 x10_2) ∧ Aside0 (Kd.Q k46 46 w' w.heap.size (fun k_ => k_ ≠ gb447 ∧ k_ ≠ gb458) u16 x16_3) ∧ Aside0 (Kd.R (Kd.int .i64) 3 w' w.heap.size (fun k_ => some k_ ≠ (v460 : Value).ownBlock) v470 x17_4) ∧ Aside0 (w'.heap[gb447]? = some (.cells #[.int .i64 t443, .int .i64 t444, .int .i64 t445] 46 (0, 0))) ∧ Aside0 (w'.heap[gb458]? = some (.cells #[.int .i64 t454, .int .i64 t455, .int .i64 t456] 46 (0, 0))) ∧ Aside0 (Below w.heap.size w w'))
            case atStart => exact ⟨(x17_3), (0), (by first | rfl | (simp; done) | (simp [*]; done)), H', ⟨Nat.le_refl _⟩, ⟨kr_ HO_10⟩, ⟨by (with_reducible repeat (first | apply Kd.Q_alloc | apply Kd.Q_drewN | apply Kd.Q_drew)); exact HO_16.out⟩, ⟨kr_ HO_17⟩, ⟨bk_ BK447⟩, ⟨bk_ BK458⟩, ⟨bf_ HB⟩⟩
            case round =>
             clear H'
             (try clear c1); (try clear c2); (try clear p2 p2); (try clear c3); (try clear p3 p3); (try clear q3 q3); (try clear hx3); (try clear hf3); (try clear c4); (try clear p4 p4); (try clear q4 q4); (try clear hx4); (try clear c5); (try clear q5 q5); (try clear c6); (try clear p6 p6); (try clear q6); (try clear hx6); (try clear hf6); (try clear c10); (try clear c18); (try clear c20); (try clear c20b0); (try clear c20b1); (try clear c21); (try clear c22); (try clear c22b0); (try clear c22b1); (try clear c22b2); (try clear c23); (try clear c27); (try clear c27b0); (try clear c28); (try clear c28b0); (try clear c29); (try clear c29b0); (try clear c30); (try clear c30b0); (try clear c32); (try clear c32b0); (try clear c34); (try clear c34b0); (try clear c36); (try clear c36b0); (try clear c37); (try clear c37b0); (try clear p38 p38); (try clear q38 q38); (try clear hx38); (try clear hf38); (try clear p46 p46); (try clear q46 q46); (try clear hx46); (try clear c47); (try clear c47b0); (try clear p47 p47); (try clear q47 q47); (try clear hx47); (try clear c48); (try clear c48b0); (try clear p48); (try clear q48); (try clear hx48); (try clear q49 q49); (try clear c50); (try clear c51); (try clear c51b0); (try clear c51b1); (try clear c53); (try clear q53 q53); (try clear c54); (try clear c54b0); (try clear c55); (try clear c55b0); (try clear c56); (try clear c56b0); (try clear c57); (try clear c57b0); (try clear c58); (try clear c58b0); (try clear p60 p60); (try clear q60 q60); (try clear hx60); (try clear hf60); (try clear p64); (try clear c66); (try clear hcz13_0 hcz13_1 hcz13_2 hfz13_0 hfz13_1 hfz13_2); (try clear hcz19_0 hcz19_1 hcz19_2 hfz19_0 hfz19_1 hfz19_2); (try clear hx38_0); (try clear hx462_0); (try clear hx462_1); (try clear hx462_2); (try clear hx464_0); (try clear hx472_0); (try clear hx472_1); (try clear hx472_2); (try clear hx472_3); (try clear hx476_0); (try clear hx477_0); (try clear hx477_1); (try clear hx477_2); (try clear hx477_3); (try clear hx480_0); (try clear hx480_1); (try clear hx480_2); (try clear hx480_3); (try clear hx60_0); (try clear p462); (try clear p464); (try clear p472); (try clear p476); (try clear p477); (try clear p480); (try clear q462); (try clear q464); (try clear q472); (try clear q476); (try clear q477); (try clear q480)
             obtain ⟨x17_4, x20_4, rfl, HA, HK4, HO_10, HO_16, HO_17, BK447, BK458, HB⟩ := hrel
             cases gk with
             | zero => exact absurd HA.out (by simp [laws_FnCarryBound.l4])
             | succ k4 =>
              have H := HA.out
              clear HA
              simp only [laws_FnCarryBound.l4] at H
              by_cases c69 : x20_4 < 3
              ·rw [if_pos c69] at H
               have c69b0 : decide (x20_4 < 3) = true := decide_eq_true c69
               clear c69
               by_cases c70 : 0 ≤ x20_4
               ·rw [if_pos c70] at H
                have c70b0 : decide (0 ≤ x20_4) = true := decide_eq_true c70
                clear c70
                by_cases c71 : x20_4 < (x10_2.length : Int)
                ·rw [if_pos c71] at H
                 have c71b0 : decide (x20_4 < (x10_2.length : Int)) = true := decide_eq_true c71
                 clear c71
                 by_cases c72 : x20_4 < (x17_4.length : Int)
                 ·rw [if_pos c72] at H
                  have c72b0 : decide (x20_4 < (x17_4.length : Int)) = true := decide_eq_true c72
                  clear c72
                  have H' := Aside0.mk H
                  clear H
                  try go_wp2
                  replace HO_10 := Aside0.mk (Kd.R_drew HO_10.out); replace HO_16 := Aside0.mk (Kd.Q_drew HO_16.out); replace HO_17 := Aside0.mk (Kd.R_drew HO_17.out); replace BK447 := Aside0.mk (blk_drew BK447.out); replace BK458 := Aside0.mk (blk_drew BK458.out); replace HB := Aside0.mk (below_drew1 HB.out)
                  obtain ⟨Ao74, co74, eo74⟩ := Kd.R_slice HO_10.out
                  (first | subst eo74 | (injection eo74 with f1_ f2_ f3_; have f4_ := f1_.symm; have f5_ := f3_.symm; clear f1_ f2_ f3_; subst f4_; subst f5_))
                  have p484 : 0 ≤ (x20_4 : Int) := od_
                  have q484 : x20_4 < (x10_2.length : Int) := od_
                  obtain ⟨ad484, e484, hx484_0⟩ := Kd.at_int (Kd.R_reads' HO_10.out).2.2 x20_4 p484 q484
                  cases e484
                  replace p484 := eq_true p484
                  replace q484 := eq_true q484
                  obtain ⟨Ao75, co75, eo75⟩ := Kd.R_slice HO_17.out
                  (first | subst eo75 | (injection eo75 with f1_ f2_ f3_; have f4_ := f1_.symm; have f5_ := f3_.symm; clear f1_ f2_ f3_; subst f4_; subst f5_))
                  have p485 : 0 ≤ (x20_4 : Int) := od_
                  have q485 : x20_4 < (x17_4.length : Int) := od_
                  obtain ⟨ad485, e485, hx485_0⟩ := Kd.at_int (Kd.R_reads' HO_17.out).2.2 x20_4 p485 q485
                  cases e485
                  replace p485 := eq_true p485
                  replace q485 := eq_true q485
                  refine start_ (n := 10) (S := fun w' => w'.cell? (ad484.add (x20_4).toNat) = some (.int .i64 (rd x10_2 x20_4)) ∧ w'.cell? (ad485.add (x20_4).toNat) = some (.int .i64 (rd x17_4 x20_4))) (ds := []) (bs 10 0) (by kernel_rfl) rfl rfl ⟨hx484_0, hx485_0⟩ (fun hHeld => ?_); refine with_tabW laws_FnCarryBound.tab40 laws_FnCarryBound.bits40 (fun HT_ HW_ => ?_)
                  generalize wr.drew = w73 at HO_10 HO_16 HO_17 BK447 BK458 HB hx484_0 hx485_0 hHeld ⊢
                  refine ps_ 0 140 (bs 10 1) HT_ ?_
                  refine ps_ 1 141 (bs 10 2) HT_ ?_
                  refine ps_ 2 142 (bs 10 3) HT_ ?_
                  refine ps_ 4 144 (bm 10 23) HT_ ?_
                  refine ps_ 5 145 (bm 10 55) HT_ ?_
                  refine ps_ 6 146 (bm 10 119) HT_ ?_
                  refine tk_ 3 143 (bs 10 7) HT_ HW_ hHeld ?_
                  refine tk_ 7 147 (bs 10 8) HT_ HW_ hHeld ?_
                  refine ps_ 8 148 (bs 10 9) HT_ ?_
                  refine ps_ 9 21 (bs 10 10) HT_ ?_
                  refine done_ (done_of HT_.out (by kernel_rfl)) ?_
                  try go_wp2
                  go_loopg [22] k4 (fun kq v22 w' => ∃ (x17_5 : List Int) (x22_5 : Int), v22 = .int .i64 x22_5 ∧ Aside0 (laws_FnCarryBound.l5 kq x10_2 x15_3 x16_3 x17_5 x20_4 (wrap64 ((rd x10_2 x20_4) - (rd x17_4 x20_4))) x22_5 t454 t455 t456 = some r) ∧ Aside0 (kq ≤ k4) ∧ Aside0 (Kd.R (Kd.int .i64) 3 w' w.heap.size (fun k_ => some k_ ≠ ((.slice (some ad485) x17_4.length co75) : Value).ownBlock) (.slice (some ad484) x10_2.length co74) x10_2) ∧ Aside0 (Kd.Q k46 46 w' w.heap.size (fun k_ => k_ ≠ gb447 ∧ k_ ≠ gb458) u16 x16_3) ∧ Aside0 (Kd.R (Kd.int .i64) 3 w' w.heap.size (fun k_ => some k_ ≠ ((.slice (some ad484) x10_2.length co74) : Value).ownBlock) (.slice (some ad485) x17_4.length co75) x17_5) ∧ Aside0 (w'.heap[gb447]? = some (.cells #[.int .i64 t443, .int .i64 t444, .int .i64 t445] 46 (0, 0))) ∧ Aside0 (w'.heap[gb458]? = some (.cells #[.int .i64 t454, .int .i64 t455, .int .i64 t456] 46 (0, 0))) ∧ Aside0 (Below w.heap.size w w'))
                  case atStart => exact ⟨(x17_4), (0), (by first | rfl | (simp; done) | (simp [*]; done)), H', ⟨Nat.le_refl _⟩, ⟨kr_ HO_10⟩, ⟨by (with_reducible repeat (first | apply Kd.Q_alloc | apply Kd.Q_drewN | apply Kd.Q_drew)); exact HO_16.out⟩, ⟨kr_ HO_17⟩, ⟨bk_ BK447⟩, ⟨bk_ BK458⟩, ⟨bf_ HB⟩⟩
                  case round =>
                   clear H'
                   (try clear c1); (try clear c2); (try clear p2 p2); (try clear c3); (try clear p3 p3); (try clear q3 q3); (try clear hx3); (try clear hf3); (try clear c4); (try clear p4 p4); (try clear q4 q4); (try clear hx4); (try clear c5); (try clear q5 q5); (try clear c6); (try clear p6 p6); (try clear q6 q6); (try clear hx6); (try clear hf6); (try clear c7); (try clear c10); (try clear c18); (try clear c20); (try clear c20b0); (try clear c20b1); (try clear c21); (try clear c22); (try clear c22b0); (try clear c22b1); (try clear c22b2); (try clear c23); (try clear c27); (try clear c27b0); (try clear c28); (try clear c28b0); (try clear c29); (try clear c29b0); (try clear c30); (try clear c30b0); (try clear c32); (try clear c32b0); (try clear c34); (try clear c34b0); (try clear c36); (try clear c36b0); (try clear c37); (try clear c37b0); (try clear p38 p38); (try clear q38 q38); (try clear hx38); (try clear hf38); (try clear p46 p46); (try clear q46 q46); (try clear hx46); (try clear c47); (try clear c47b0); (try clear p47 p47); (try clear q47 q47); (try clear hx47); (try clear c48); (try clear c48b0); (try clear p48 p48); (try clear q48 q48); (try clear hx48); (try clear q49 q49); (try clear c50); (try clear c51); (try clear c51b0); (try clear c51b1); (try clear c53); (try clear q53 q53); (try clear c54); (try clear c54b0); (try clear c55); (try clear c55b0); (try clear c56); (try clear c56b0); (try clear c57); (try clear c57b0); (try clear c58); (try clear c58b0); (try clear p60 p60); (try clear q60 q60); (try clear hx60); (try clear hf60); (try clear p64 p64); (try clear c66); (try clear c69); (try clear c69b0); (try clear c70); (try clear c70b0); (try clear c71); (try clear c71b0); (try clear c72); (try clear c72b0); (try clear hcz13_0 hcz13_1 hcz13_2 hfz13_0 hfz13_1 hfz13_2); (try clear hcz19_0 hcz19_1 hcz19_2 hfz19_0 hfz19_1 hfz19_2); (try clear hx38_0); (try clear hx462_0); (try clear hx462_1); (try clear hx462_2); (try clear hx464_0); (try clear hx472_0); (try clear hx472_1); (try clear hx472_2); (try clear hx472_3); (try clear hx476_0); (try clear hx477_0); (try clear hx477_1); (try clear hx477_2); (try clear hx477_3); (try clear hx480_0); (try clear hx480_1); (try clear hx480_2); (try clear hx480_3); (try clear hx484_0); (try clear hx485_0); (try clear hx60_0); (try clear p462); (try clear p464); (try clear p472); (try clear p476); (try clear p477); (try clear p480); (try clear p484); (try clear p485); (try clear q462); (try clear q464); (try clear q472); (try clear q476); (try clear q477); (try clear q480); (try clear q484); (try clear q485)
                   obtain ⟨x17_5, x22_5, rfl, HA, HK5, HO_10, HO_16, HO_17, BK447, BK458, HB⟩ := hrel
                   have hl17_5 := (Kd.R_reads' HO_17.out).1
                   rw [hl17_5] at HO_17
                   (try simp only [hl17_5])
                   (try simp only [hl17_5] at BK447)
                   (try simp only [hl17_5] at BK458)
                   (try simp only [hl17_5] at HO_10)
                   (try simp only [hl17_5] at HO_16)
                   cases gk with
                   | zero => exact absurd HA.out (by simp [laws_FnCarryBound.l5])
                   | succ k5 =>
                    have H := HA.out
                    clear HA
                    simp only [laws_FnCarryBound.l5] at H
                    by_cases c76 : x22_5 < (x16_3.length : Int)
                    ·rw [if_pos c76] at H
                     have c76b0 : decide (x22_5 < (x16_3.length : Int)) = true := decide_eq_true c76
                     have c76b0l := c76b0
                     (try simp only [hl17_5] at c76b0l)
                     clear c76
                     by_cases c77 : 0 ≤ x20_4
                     ·rw [if_pos c77] at H
                      have c77b0 : decide (0 ≤ x20_4) = true := decide_eq_true c77
                      have c77b0l := c77b0
                      (try simp only [hl17_5] at c77b0l)
                      clear c77
                      by_cases c78 : x20_4 < (x17_5.length : Int)
                      ·rw [if_pos c78] at H
                       have c78b0 : decide (x20_4 < (x17_5.length : Int)) = true := decide_eq_true c78
                       have c78b0l := c78b0
                       (try simp only [hl17_5] at c78b0l)
                       clear c78
                       by_cases c79 : 0 ≤ x22_5
                       ·rw [if_pos c79] at H
                        have c79b0 : decide (0 ≤ x22_5) = true := decide_eq_true c79
                        have c79b0l := c79b0
                        (try simp only [hl17_5] at c79b0l)
                        clear c79
                        replace H := Option.bind_eq_some_iff.mp H
                        obtain ⟨t488, A800, H⟩ := H
                        replace H : (laws_FnCarryBound.l5 k5 x10_2 x15_3 x16_3 (x17_5.set (x20_4 : Int).toNat (wrap64 ((rd x17_5 x20_4) + t488))) x20_4 (wrap64 ((rd x10_2 x20_4) - (rd x17_4 x20_4))) (wrap64 (x22_5 + 1)) t454 t455 t456) = some r := H
                        have A80 := Aside0.mk A800
                        clear A800
                        obtain ⟨y489, hy489⟩ : ∃ y_ : List Int, y_ = (x17_5.set (x20_4 : Int).toNat (wrap64 ((rd x17_5 x20_4) + t488))) := ⟨_, rfl⟩
                        replace H : (laws_FnCarryBound.l5 k5 x10_2 x15_3 x16_3 y489 x20_4 (wrap64 ((rd x10_2 x20_4) - (rd x17_4 x20_4))) (wrap64 (x22_5 + 1)) t454 t455 t456) = some r := by first | (rw [hy489]; with_reducible exact H) | (have H2_ := (Option.bind_some _ _).symm.trans H; rw [hy489]; with_reducible exact H2_) | (have H2_ := (Option.bind_some _ _).symm.trans H; with_reducible exact H2_) | with_reducible exact H | (rw [hy489]; exact H) | exact H
                        have Ny489 := Aside0.mk hy489
                        clear hy489
                        have H' := Aside0.mk H
                        clear H
                        obtain ⟨Ao82, co82, eo82, _⟩ := Kd.Q_slice HO_16.out
                        subst eo82
                        try go_wp2
                        replace HO_10 := Aside0.mk (Kd.R_drew HO_10.out); replace HO_16 := Aside0.mk (Kd.Q_drew HO_16.out); replace HO_17 := Aside0.mk (Kd.R_drew HO_17.out); replace BK447 := Aside0.mk (blk_drew BK447.out); replace BK458 := Aside0.mk (blk_drew BK458.out); replace HB := Aside0.mk (below_drew1 HB.out)
                        have p486 : 0 ≤ (x20_4 : Int) := od_
                        have q486 : x20_4 < (x17_5.length : Int) := od_
                        obtain ⟨ad486, e486, hx486_0⟩ := Kd.at_int (Kd.R_reads' HO_17.out).2.2 x20_4 p486 q486
                        obtain rfl : ad485 = ad486 := (by injection e486)
                        replace p486 := eq_true p486
                        replace q486 := eq_true q486
                        have p487 : 0 ≤ (x22_5 : Int) := od_
                        have q487 : x22_5 < (x16_3.length : Int) := od_
                        obtain ⟨ad487, e487, hx487_0, hx487_1, hx487_2⟩ := at_T46 (Kd.Q_reads' HO_16.out).2.2 x22_5 p487 q487
                        cases e487
                        replace p487 := eq_true p487
                        replace q487 := eq_true q487
                        refine start_ (n := 15) (S := fun w' => w'.cell? (ad485.add (x20_4).toNat) = some (.int .i64 (rd x17_5 x20_4)) ∧ w'.cell? (ad487.add ((x22_5).toNat * 3)) = some (.int .i64 ((rd_T46 x16_3 x22_5).f0)) ∧ w'.cell? ⟨(ad487.add ((x22_5).toNat * 3)).block, (ad487.add ((x22_5).toNat * 3)).off + 1, none⟩ = some (.int .i64 ((rd_T46 x16_3 x22_5).f1)) ∧ w'.cell? ⟨(ad487.add ((x22_5).toNat * 3)).block, (ad487.add ((x22_5).toNat * 3)).off + 2, none⟩ = some (.int .i64 ((rd_T46 x16_3 x22_5).f2))) (ds := [14]) (bs 15 0) (by kernel_rfl) rfl rfl ⟨hx486_0, hx487_0, hx487_1, hx487_2⟩ (fun hHeld => ?_); refine with_tabW laws_FnCarryBound.tab44 laws_FnCarryBound.bits44 (fun HT_ HW_ => ?_)
                        generalize wr.drew = w83 at HO_10 HO_16 HO_17 BK447 BK458 HB hx486_0 hx487_0 hx487_1 hx487_2 hHeld ⊢
                        refine ps_ 0 155 (bs 15 1) HT_ ?_
                        refine ps_ 1 156 (bs 15 2) HT_ ?_
                        refine ps_ 2 157 (bs 15 3) HT_ ?_
                        refine ps_ 3 158 (bs 15 4) HT_ ?_
                        refine ps_ 4 159 (bs 15 5) HT_ ?_
                        refine ps_ 6 161 (bm 15 95) HT_ ?_
                        refine ps_ 7 162 (bm 15 223) HT_ ?_
                        refine ps_ 8 163 (bm 15 479) HT_ ?_
                        refine ps_ 10 165 (bm 15 1503) HT_ ?_
                        refine tk_ 5 160 (bm 15 1535) HT_ HW_ hHeld ?_
                        refine tk_ 9 164 (bs 15 11) HT_ HW_ hHeld ?_
                        refine on_ 11 (some 166) (bs 15 12) HT_ (fun K hK => ?_)
                        refine gs_ Try.func23 #[.agg #[.int .i64 ((rd_T46 x16_3 x22_5).f0), .int .i64 ((rd_T46 x16_3 x22_5).f1), .int .i64 ((rd_T46 x16_3 x22_5).f2)], .int .i64 x20_4] ?_
                        with_reducible refine (laws_vec.calls ((rd_T46 x16_3 x22_5).f0) ((rd_T46 x16_3 x22_5).f1) ((rd_T46 x16_3 x22_5).f2) x20_4 t488 _ A80.out).mono ?_
                        rintro e w84 ⟨rfl, hb⟩
                        have HS0_ := hc_ hb hHeld.1
                        have HS1_ := hc_ hb hHeld.2.1
                        have HS2_ := hc_ hb hHeld.2.2.1
                        have HS3_ := hc_ hb hHeld.2.2.2
                        refine ⟨_, rfl, ?_⟩
                        have n0_ := Aside0.mk (Kd.R_below (kr_ HO_10) hb)
                        have n1_ := Aside0.mk (Kd.Q_below (by (with_reducible repeat (first | apply Kd.Q_alloc | apply Kd.Q_drewN | apply Kd.Q_drew)); exact HO_16.out) hb)
                        have n2_ := Aside0.mk (Kd.R_below (kr_ HO_17) hb); have n3_ := bb_ BK447 hb; have n4_ := bb_ BK458 hb; have n5_ := Aside0.mk (below_step (bf_ HB) hb); clear HO_10 HO_16 HO_17 BK447 BK458 HB; have HO_10 := n0_; have HO_16 := n1_; have HO_17 := n2_; have BK447 := n3_; have BK458 := n4_; have HB := n5_; clear n0_ n1_ n2_ n3_ n4_ n5_; (try clear hb); (try clear hb2); (try clear hk); (try clear hi)
                        have p81 : 0 ≤ (x20_4 : Int) := od_
                        have q81 : (x20_4 : Int) < ((x17_5.length : Int) : Int) := od_
                        obtain ⟨go81, co81, eo81, gb81, gl81, cl81, HG81⟩ := Kd.R_form HO_17.out (by omega)
                        (first | cases eo81 | (injection eo81 with ea_ en_ ec_; (first | subst ea_ | (injection ea_ with ea_; subst ea_)); subst ec_; clear en_))
                        (try simp only [add_plain] at *)
                        have GB81 := Aside0.mk gb81
                        have GG81 := Aside0.mk HG81
                        clear gb81 gl81 HG81
                        (first | simp only [add_plain] at hx485_0 | skip)
                        (first | simp only [add_plain] at hx486_0 | skip)
                        obtain ⟨hx81_0, hf81_0⟩ := Kd.R_celln 0 HO_17.out (x20_4 : Int) p81 q81
                        replace p81 := eq_true p81
                        replace q81 := eq_true q81
                        have HP85 := Kd.R_putn HO_17.out (x20_4 : Int) (wrap64 ((rd x17_5 x20_4) + t488))
                        rw [← Ny489.out] at HP85
                        have HQ85 := Aside0.mk HP85
                        clear HP85
                        refine hK.out _ _ ⟨HS0_, HS1_, HS2_, HS3_⟩ (fun hHeld => ?_)
                        clear hK K
                        refine norm_ (a' := ?_) ?_ ?_
                        rotate_left
                        ·show Act.put _ (some 166) _ = _
                         simp only [Act.put, ls0_, ls1_, ls2_, i64_w, i32_w]
                         rfl
                        refine ps_ 12 167 (bs 15 13) HT_ ?_
                        refine ps_ 13 168 (bs 15 14) HT_ ?_
                        refine last_ (i := 14) (N := none) (bs 15 15) rfl rfl (one_of HT_.out (by kernel_rfl)) (by decide) (fun K hK => ?_)
                        refine skip_ (w1 := ?_) (by rfl) rfl ?_ ?_
                        rotate_left
                        ·go_simp
                         rfl
                        refine hK.out _ _ ?_
                        clear hK K
                        refine done_ (done_of HT_.out (by kernel_rfl)) ?_
                        try go_wp2
                        (try simp only [← hl17_5])
                        go_roundg k5
                        case measure => have := HJ7.out; have := HK2.out; have := HK3.out; have := HK4.out; have := HK5.out; omega
                        case rel => exact ⟨(y489), (wrap64 (x22_5 + 1)), (by first | rfl | (simp; done) | (simp [*]; done)), H', ⟨by have := HJ7.out; have := HK2.out; have := HK3.out; have := HK4.out; have := HK5.out; omega⟩, ⟨by (try simp only [hl17_5]); (with_reducible repeat (first | apply Kd.R_alloc | apply Kd.R_drewN | apply Kd.R_drew)); exact Kd.R_mono (Kd.R_far (p := ⟨go81, (x20_4 : Int).toNat, none⟩) (Kd.R_mono HO_10.out (fun k_ hk => by first | exact (⟨hk, fun e_ => hk (by rw [e_]; rfl)⟩ : _ ∧ k_ ≠ go81) | grind)) (fun _ hk => by first | exact hk.2 | grind) (.int .i64 (wrap64 ((rd x17_5 x20_4) + t488)))) (fun _ hk => by first | exact hk.1 | grind)⟩, ⟨by (try simp only [hl17_5]); (with_reducible repeat (first | apply Kd.Q_alloc | apply Kd.Q_drewN | apply Kd.Q_drew)); exact Kd.Q_mono (Kd.Q_far (p := ⟨go81, (x20_4 : Int).toNat, none⟩) (Kd.Q_types HO_16.out GG81.out (by decide)) (fun _ hk => by first | exact hk.2 | grind) (.int .i64 (wrap64 ((rd x17_5 x20_4) + t488)))) (fun _ hk => by first | exact ⟨hk.1.1, hk.1.2⟩ | grind)⟩, ⟨by (try simp only [hl17_5]); exact kr_ HQ85⟩, ⟨by (try simp only [hl17_5]); (with_reducible repeat (first | refine blk_drewN ?_ _ | refine blk_drew ?_ | refine blk_alloc ?_ _)); refine blk_far ?_ (by have h_ := Kd.R_ne HO_17.out BK447.out (by decide); intro e_; exact h_ (by rw [e_]; rfl)) _; exact bk_ BK447⟩, ⟨by (try simp only [hl17_5]); (with_reducible repeat (first | refine blk_drewN ?_ _ | refine blk_drew ?_ | refine blk_alloc ?_ _)); refine blk_far ?_ (by have h_ := Kd.R_ne HO_17.out BK458.out (by decide); intro e_; exact h_ (by rw [e_]; rfl)) _; exact bk_ BK458⟩, ⟨by repeat (first | (with_reducible first | exact HB.out | apply below_alloc | apply pw_below_drewN | apply below_drew1 | refine below_set ?_ GB81.out | refine below_set ?_ GE447.out | refine below_set ?_ GE458.out) | exact HB.out)⟩⟩
                       ·rw [if_neg c79] at H
                        exact absurd H (by simp)
                      ·rw [if_neg c78] at H
                       exact absurd H (by simp)
                     ·rw [if_neg c77] at H
                      exact absurd H (by simp)
                    ·rw [if_neg c76] at H
                     have c76b0 : decide (x22_5 < (x16_3.length : Int)) = false := decide_eq_false c76
                     have c76b0l := c76b0
                     (try simp only [hl17_5] at c76b0l)
                     clear c76
                     by_cases c86 : (wrap64 ((rd x10_2 x20_4) - (rd x17_4 x20_4))) > (wrap64 (x15_3 * 1000))
                     ·rw [if_pos c86] at H
                      have c86b0 : decide ((wrap64 (x15_3 * 1000)) < (wrap64 ((rd x10_2 x20_4) - (rd x17_4 x20_4)))) = true := decide_eq_true c86
                      have c86b0l := c86b0
                      (try simp only [hl17_5] at c86b0l)
                      clear c86
                      obtain rfl := Option.some.inj H
                      obtain ⟨Ao87, co87, eo87, _⟩ := Kd.Q_slice HO_16.out
                      subst eo87
                      try go_wp2
                      replace HO_10 := Aside0.mk (Kd.R_drew HO_10.out); replace HO_16 := Aside0.mk (Kd.Q_drew HO_16.out); replace HO_17 := Aside0.mk (Kd.R_drew HO_17.out); replace BK447 := Aside0.mk (blk_drew BK447.out); replace BK458 := Aside0.mk (blk_drew BK458.out); replace HB := Aside0.mk (below_drew1 HB.out)
                      refine start_ (n := 26) (S := fun w' => True) (ds := []) (bs 26 0) (by kernel_rfl) rfl rfl trivial (fun hHeld => ?_); refine with_tabW laws_FnCarryBound.tab45 laws_FnCarryBound.bits45 (fun HT_ HW_ => ?_)
                      generalize wr.drew = w88 at HO_10 HO_16 HO_17 BK447 BK458 HB hHeld ⊢
                      refine ps_ 0 169 (bs 26 1) HT_ ?_
                      refine ps_ 1 170 (bs 26 2) HT_ ?_
                      refine ps_ 2 171 (bs 26 3) HT_ ?_
                      refine ps_ 3 172 (bs 26 4) HT_ ?_
                      refine ps_ 4 173 (bs 26 5) HT_ ?_
                      refine pu_ 5 174 (bs 26 6) HT_ ?_
                      refine pu_ 6 175 (bs 26 7) HT_ ?_
                      refine pu_ 7 176 (bs 26 8) HT_ ?_
                      refine pu_ 8 177 (bs 26 9) HT_ ?_
                      refine pu_ 9 178 (bs 26 10) HT_ ?_
                      refine ps_ 10 179 (bs 26 11) HT_ ?_
                      refine ps_ 11 180 (bs 26 12) HT_ ?_
                      refine pu_ 12 181 (bs 26 13) HT_ ?_
                      refine pu_ 13 182 (bs 26 14) HT_ ?_
                      refine pu_ 14 183 (bs 26 15) HT_ ?_
                      refine pu_ 15 184 (bs 26 16) HT_ ?_
                      refine pu_ 16 185 (bs 26 17) HT_ ?_
                      refine pu_ 17 186 (bs 26 18) HT_ ?_
                      refine pu_ 18 187 (bs 26 19) HT_ ?_
                      refine pu_ 19 188 (bs 26 20) HT_ ?_
                      refine pu_ 20 189 (bs 26 21) HT_ ?_
                      refine pu_ 21 190 (bs 26 22) HT_ ?_
                      refine pu_ 22 191 (bs 26 23) HT_ ?_
                      refine pu_ 23 192 (bs 26 24) HT_ ?_
                      refine pu_ 24 193 (bs 26 25) HT_ ?_
                      refine ps_ 25 194 (bs 26 26) HT_ ?_
                      refine done_ (done_of HT_.out (by kernel_rfl)) ?_
                      try go_wp2
                      go_ret
                      exact ⟨by first | rfl | (simp [errW_none, errW_some] <;> rfl) | (simp [*, errW_none, errW_some] <;> rfl), bf_ HB⟩
                     ·rw [if_neg c86] at H
                      have c86b0 : decide ((wrap64 (x15_3 * 1000)) < (wrap64 ((rd x10_2 x20_4) - (rd x17_4 x20_4)))) = false := decide_eq_false c86
                      have c86b0l := c86b0
                      (try simp only [hl17_5] at c86b0l)
                      clear c86
                      by_cases c89 : (wrap64 (-(wrap64 ((rd x10_2 x20_4) - (rd x17_4 x20_4))))) > (wrap64 (x15_3 * 1000))
                      ·rw [if_pos c89] at H
                       have c89b0 : decide ((wrap64 (x15_3 * 1000)) < (wrap64 (-(wrap64 ((rd x10_2 x20_4) - (rd x17_4 x20_4)))))) = true := decide_eq_true c89
                       have c89b0l := c89b0
                       (try simp only [hl17_5] at c89b0l)
                       clear c89
                       obtain rfl := Option.some.inj H
                       obtain ⟨Ao90, co90, eo90, _⟩ := Kd.Q_slice HO_16.out
                       subst eo90
                       try go_wp2
                       replace HO_10 := Aside0.mk (Kd.R_drew HO_10.out); replace HO_16 := Aside0.mk (Kd.Q_drew HO_16.out); replace HO_17 := Aside0.mk (Kd.R_drew HO_17.out); replace BK447 := Aside0.mk (blk_drew BK447.out); replace BK458 := Aside0.mk (blk_drew BK458.out); replace HB := Aside0.mk (below_drew1 HB.out)
                       refine start_ (n := 26) (S := fun w' => True) (ds := []) (bs 26 0) (by kernel_rfl) rfl rfl trivial (fun hHeld => ?_); refine with_tabW laws_FnCarryBound.tab45 laws_FnCarryBound.bits45 (fun HT_ HW_ => ?_)
                       generalize wr.drew = w91 at HO_10 HO_16 HO_17 BK447 BK458 HB hHeld ⊢
                       refine ps_ 0 169 (bs 26 1) HT_ ?_
                       refine ps_ 1 170 (bs 26 2) HT_ ?_
                       refine ps_ 2 171 (bs 26 3) HT_ ?_
                       refine ps_ 3 172 (bs 26 4) HT_ ?_
                       refine ps_ 4 173 (bs 26 5) HT_ ?_
                       refine ps_ 5 174 (bs 26 6) HT_ ?_
                       refine ps_ 6 175 (bs 26 7) HT_ ?_
                       refine ps_ 7 176 (bs 26 8) HT_ ?_
                       refine ps_ 8 177 (bs 26 9) HT_ ?_
                       refine ps_ 9 178 (bs 26 10) HT_ ?_
                       refine ps_ 10 179 (bs 26 11) HT_ ?_
                       refine ps_ 11 180 (bs 26 12) HT_ ?_
                       refine pu_ 12 181 (bs 26 13) HT_ ?_
                       refine pu_ 13 182 (bs 26 14) HT_ ?_
                       refine pu_ 14 183 (bs 26 15) HT_ ?_
                       refine pu_ 15 184 (bs 26 16) HT_ ?_
                       refine pu_ 16 185 (bs 26 17) HT_ ?_
                       refine pu_ 17 186 (bs 26 18) HT_ ?_
                       refine pu_ 18 187 (bs 26 19) HT_ ?_
                       refine pu_ 19 188 (bs 26 20) HT_ ?_
                       refine pu_ 20 189 (bs 26 21) HT_ ?_
                       refine pu_ 21 190 (bs 26 22) HT_ ?_
                       refine pu_ 22 191 (bs 26 23) HT_ ?_
                       refine pu_ 23 192 (bs 26 24) HT_ ?_
                       refine pu_ 24 193 (bs 26 25) HT_ ?_
                       refine ps_ 25 194 (bs 26 26) HT_ ?_
                       refine done_ (done_of HT_.out (by kernel_rfl)) ?_
                       try go_wp2
                       go_ret
                       exact ⟨by first | rfl | (simp [errW_none, errW_some] <;> rfl) | (simp [*, errW_none, errW_some] <;> rfl), bf_ HB⟩
                      ·rw [if_neg c89] at H
                       have c89b0 : decide ((wrap64 (x15_3 * 1000)) < (wrap64 (-(wrap64 ((rd x10_2 x20_4) - (rd x17_4 x20_4)))))) = false := decide_eq_false c89
                       have c89b0l := c89b0
                       (try simp only [hl17_5] at c89b0l)
                       clear c89
                       by_cases c92 : 0 ≤ x20_4
                       ·rw [if_pos c92] at H
                        have c92b0 : decide (0 ≤ x20_4) = true := decide_eq_true c92
                        have c92b0l := c92b0
                        (try simp only [hl17_5] at c92b0l)
                        clear c92
                        by_cases c93 : x20_4 < (x10_2.length : Int)
                        ·rw [if_pos c93] at H
                         have c93b0 : decide (x20_4 < (x10_2.length : Int)) = true := decide_eq_true c93
                         have c93b0l := c93b0
                         (try simp only [hl17_5] at c93b0l)
                         clear c93
                         replace H := Option.bind_eq_some_iff.mp H
                         obtain ⟨t491, A940, H⟩ := H
                         replace H : (if x20_4 < (x17_5.length : Int) then (if (wrap64 ((rd x10_2 x20_4) + t491)) = (rd x17_5 x20_4) then (laws_FnCarryBound.l4 k5 x10_2 x15_3 x16_3 x17_5 (wrap64 (x20_4 + 1)) t454 t455 t456) else (some false)) else (none)) = some r := H
                         have A94 := Aside0.mk A940
                         clear A940
                         by_cases c95 : x20_4 < (x17_5.length : Int)
                         ·rw [if_pos c95] at H
                          have c95b0 : decide (x20_4 < (x17_5.length : Int)) = true := decide_eq_true c95
                          have c95b0l := c95b0
                          (try simp only [hl17_5] at c95b0l)
                          clear c95
                          by_cases c96 : (wrap64 ((rd x10_2 x20_4) + t491)) = (rd x17_5 x20_4)
                          ·rw [if_pos c96] at H
                           have c96b0 : ((wrap64 ((rd x10_2 x20_4) + t491)) == (rd x17_5 x20_4)) = true := beq_iff_eq.mpr c96
                           have c96b0l := c96b0
                           (try simp only [hl17_5] at c96b0l)
                           have c96b1 : ((wrap64 ((rd x10_2 x20_4) + t491)) != (rd x17_5 x20_4)) = false := bne_eq_false_iff_eq.mpr c96
                           have c96b1l := c96b1
                           (try simp only [hl17_5] at c96b1l)
                           clear c96
                           have H' := Aside0.mk H
                           clear H
                           obtain ⟨Ao97, co97, eo97, _⟩ := Kd.Q_slice HO_16.out
                           subst eo97
                           try go_wp2
                           replace HO_10 := Aside0.mk (Kd.R_drew HO_10.out); replace HO_16 := Aside0.mk (Kd.Q_drew HO_16.out); replace HO_17 := Aside0.mk (Kd.R_drew HO_17.out); replace BK447 := Aside0.mk (blk_drew BK447.out); replace BK458 := Aside0.mk (blk_drew BK458.out); replace HB := Aside0.mk (below_drew1 HB.out)
                           have p490 : 0 ≤ (x20_4 : Int) := od_
                           have q490 : x20_4 < (x10_2.length : Int) := od_
                           obtain ⟨ad490, e490, hx490_0⟩ := Kd.at_int (Kd.R_reads' HO_10.out).2.2 x20_4 p490 q490
                           obtain rfl : ad484 = ad490 := (by injection e490)
                           replace p490 := eq_true p490
                           replace q490 := eq_true q490
                           have p492 : 0 ≤ (x20_4 : Int) := od_
                           have q492 : x20_4 < (x17_5.length : Int) := od_
                           obtain ⟨ad492, e492, hx492_0⟩ := Kd.at_int (Kd.R_reads' HO_17.out).2.2 x20_4 p492 q492
                           obtain rfl : ad485 = ad492 := (by injection e492)
                           replace p492 := eq_true p492
                           replace q492 := eq_true q492
                           refine start_ (n := 26) (S := fun w' => cw_ w' gb458 0 (.int .i64 t454) ∧ cw_ w' gb458 1 (.int .i64 t455) ∧ cw_ w' gb458 2 (.int .i64 t456) ∧ w'.cell? (ad484.add (x20_4).toNat) = some (.int .i64 (rd x10_2 x20_4)) ∧ w'.cell? (ad485.add (x20_4).toNat) = some (.int .i64 (rd x17_5 x20_4))) (ds := []) (bs 26 0) (by kernel_rfl) rfl rfl ⟨bt_ BK458 0, bt_ BK458 1, bt_ BK458 2, hx490_0, hx492_0⟩ (fun hHeld => ?_); refine with_tabW laws_FnCarryBound.tab45 laws_FnCarryBound.bits45 (fun HT_ HW_ => ?_)
                           generalize wr.drew = w98 at HO_10 HO_16 HO_17 BK447 BK458 HB hx490_0 hx492_0 hHeld ⊢
                           refine ps_ 0 169 (bs 26 1) HT_ ?_
                           refine ps_ 1 170 (bs 26 2) HT_ ?_
                           refine ps_ 2 171 (bs 26 3) HT_ ?_
                           refine ps_ 3 172 (bs 26 4) HT_ ?_
                           refine ps_ 4 173 (bs 26 5) HT_ ?_
                           refine ps_ 5 174 (bs 26 6) HT_ ?_
                           refine ps_ 6 175 (bs 26 7) HT_ ?_
                           refine ps_ 7 176 (bs 26 8) HT_ ?_
                           refine ps_ 8 177 (bs 26 9) HT_ ?_
                           refine ps_ 9 178 (bs 26 10) HT_ ?_
                           refine ps_ 10 179 (bs 26 11) HT_ ?_
                           refine ps_ 11 180 (bs 26 12) HT_ ?_
                           refine ps_ 12 181 (bs 26 13) HT_ ?_
                           refine ps_ 13 182 (bs 26 14) HT_ ?_
                           refine ps_ 14 183 (bs 26 15) HT_ ?_
                           refine ps_ 17 186 (bm 26 163839) HT_ ?_
                           refine ps_ 20 189 (bm 26 1212415) HT_ ?_
                           refine ps_ 21 190 (bm 26 3309567) HT_ ?_
                           refine ps_ 22 191 (bm 26 7503871) HT_ ?_
                           refine tk_ 15 184 (bm 26 7536639) HT_ HW_ hHeld ?_
                           refine tk_ 16 185 (bm 26 7602175) HT_ HW_ hHeld ?_
                           refine tk_ 23 192 (bm 26 15990783) HT_ HW_ hHeld ?_
                           refine on_ 18 (some 187) (bm 26 16252927) HT_ (fun K hK => ?_)
                           refine gs_ Try.func23 #[.agg #[.int .i64 t454, .int .i64 t455, .int .i64 t456], .int .i64 x20_4] ?_
                           with_reducible refine (laws_vec.calls t454 t455 t456 x20_4 t491 _ A94.out).mono ?_
                           rintro e w99 ⟨rfl, hb⟩
                           have HS3_ := hc_ hb hHeld.2.2.2.1
                           have HS4_ := hc_ hb hHeld.2.2.2.2
                           refine ⟨_, rfl, ?_⟩
                           have n0_ := Aside0.mk (Kd.R_below (kr_ HO_10) hb)
                           have n1_ := Aside0.mk (Kd.Q_below (by (with_reducible repeat (first | apply Kd.Q_alloc | apply Kd.Q_drewN | apply Kd.Q_drew)); exact HO_16.out) hb)
                           have n2_ := Aside0.mk (Kd.R_below (kr_ HO_17) hb); have n3_ := bb_ BK447 hb; have n4_ := bb_ BK458 hb; have n5_ := Aside0.mk (below_step (bf_ HB) hb); clear HO_10 HO_16 HO_17 BK447 BK458 HB; have HO_10 := n0_; have HO_16 := n1_; have HO_17 := n2_; have BK447 := n3_; have BK458 := n4_; have HB := n5_; clear n0_ n1_ n2_ n3_ n4_ n5_; (try clear hb); (try clear hb2); (try clear hk); (try clear hi)
                           refine hK.out _ _ ⟨bt_ BK458 0, bt_ BK458 1, bt_ BK458 2, HS3_, HS4_⟩ (fun hHeld => ?_)
                           clear hK K
                           refine norm_ (a' := ?_) ?_ ?_
                           rotate_left
                           ·show Act.put _ (some 187) _ = _
                            simp only [Act.put, ls0_, ls1_, ls2_, i64_w, i32_w]
                            rfl
                           refine ps_ 19 188 (bs 26 24) HT_ ?_
                           refine ps_ 24 193 (bs 26 25) HT_ ?_
                           refine ps_ 25 194 (bs 26 26) HT_ ?_
                           refine done_ (done_of HT_.out (by kernel_rfl)) ?_
                           try go_wp2
                           (try simp only [← hl17_5])
                           go_roundg k5
                           case measure => have := HJ7.out; have := HK2.out; have := HK3.out; have := HK4.out; have := HK5.out; omega
                           case rel => exact ⟨(x17_5), (wrap64 (x20_4 + 1)), (by first | rfl | (simp; done) | (simp [*]; done)), H', ⟨by have := HJ7.out; have := HK2.out; have := HK3.out; have := HK4.out; have := HK5.out; omega⟩, ⟨by (try simp only [hl17_5]); exact kr_ HO_10⟩, ⟨by (try simp only [hl17_5]); (with_reducible repeat (first | apply Kd.Q_alloc | apply Kd.Q_drewN | apply Kd.Q_drew)); exact HO_16.out⟩, ⟨by (try simp only [hl17_5]); exact kr_ HO_17⟩, ⟨by (try simp only [hl17_5]); exact bk_ BK447⟩, ⟨by (try simp only [hl17_5]); exact bk_ BK458⟩, ⟨bf_ HB⟩⟩
                          ·rw [if_neg c96] at H
                           have c96b0 : ((wrap64 ((rd x10_2 x20_4) + t491)) == (rd x17_5 x20_4)) = false := beq_eq_false_iff_ne.mpr c96
                           have c96b0l := c96b0
                           (try simp only [hl17_5] at c96b0l)
                           have c96b1 : ((wrap64 ((rd x10_2 x20_4) + t491)) != (rd x17_5 x20_4)) = true := bne_iff_ne.mpr c96
                           have c96b1l := c96b1
                           (try simp only [hl17_5] at c96b1l)
                           obtain rfl := Option.some.inj H
                           obtain ⟨Ao100, co100, eo100, _⟩ := Kd.Q_slice HO_16.out
                           subst eo100
                           try go_wp2
                           replace HO_10 := Aside0.mk (Kd.R_drew HO_10.out); replace HO_16 := Aside0.mk (Kd.Q_drew HO_16.out); replace HO_17 := Aside0.mk (Kd.R_drew HO_17.out); replace BK447 := Aside0.mk (blk_drew BK447.out); replace BK458 := Aside0.mk (blk_drew BK458.out); replace HB := Aside0.mk (below_drew1 HB.out)
                           have p490 : 0 ≤ (x20_4 : Int) := od_
                           have q490 : x20_4 < (x10_2.length : Int) := od_
                           obtain ⟨ad490, e490, hx490_0⟩ := Kd.at_int (Kd.R_reads' HO_10.out).2.2 x20_4 p490 q490
                           obtain rfl : ad484 = ad490 := (by injection e490)
                           replace p490 := eq_true p490
                           replace q490 := eq_true q490
                           have p492 : 0 ≤ (x20_4 : Int) := od_
                           have q492 : x20_4 < (x17_5.length : Int) := od_
                           obtain ⟨ad492, e492, hx492_0⟩ := Kd.at_int (Kd.R_reads' HO_17.out).2.2 x20_4 p492 q492
                           obtain rfl : ad485 = ad492 := (by injection e492)
                           replace p492 := eq_true p492
                           replace q492 := eq_true q492
                           refine start_ (n := 26) (S := fun w' => cw_ w' gb458 0 (.int .i64 t454) ∧ cw_ w' gb458 1 (.int .i64 t455) ∧ cw_ w' gb458 2 (.int .i64 t456) ∧ w'.cell? (ad484.add (x20_4).toNat) = some (.int .i64 (rd x10_2 x20_4)) ∧ w'.cell? (ad485.add (x20_4).toNat) = some (.int .i64 (rd x17_5 x20_4))) (ds := []) (bs 26 0) (by kernel_rfl) rfl rfl ⟨bt_ BK458 0, bt_ BK458 1, bt_ BK458 2, hx490_0, hx492_0⟩ (fun hHeld => ?_); refine with_tabW laws_FnCarryBound.tab45 laws_FnCarryBound.bits45 (fun HT_ HW_ => ?_)
                           generalize wr.drew = w101 at HO_10 HO_16 HO_17 BK447 BK458 HB hx490_0 hx492_0 hHeld ⊢
                           refine ps_ 0 169 (bs 26 1) HT_ ?_
                           refine ps_ 1 170 (bs 26 2) HT_ ?_
                           refine ps_ 2 171 (bs 26 3) HT_ ?_
                           refine ps_ 3 172 (bs 26 4) HT_ ?_
                           refine ps_ 4 173 (bs 26 5) HT_ ?_
                           refine ps_ 5 174 (bs 26 6) HT_ ?_
                           refine ps_ 6 175 (bs 26 7) HT_ ?_
                           refine ps_ 7 176 (bs 26 8) HT_ ?_
                           refine ps_ 8 177 (bs 26 9) HT_ ?_
                           refine ps_ 9 178 (bs 26 10) HT_ ?_
                           refine ps_ 10 179 (bs 26 11) HT_ ?_
                           refine ps_ 11 180 (bs 26 12) HT_ ?_
                           refine ps_ 12 181 (bs 26 13) HT_ ?_
                           refine ps_ 13 182 (bs 26 14) HT_ ?_
                           refine ps_ 14 183 (bs 26 15) HT_ ?_
                           refine ps_ 17 186 (bm 26 163839) HT_ ?_
                           refine ps_ 20 189 (bm 26 1212415) HT_ ?_
                           refine ps_ 21 190 (bm 26 3309567) HT_ ?_
                           refine ps_ 22 191 (bm 26 7503871) HT_ ?_
                           refine tk_ 15 184 (bm 26 7536639) HT_ HW_ hHeld ?_
                           refine tk_ 16 185 (bm 26 7602175) HT_ HW_ hHeld ?_
                           refine tk_ 23 192 (bm 26 15990783) HT_ HW_ hHeld ?_
                           refine on_ 18 (some 187) (bm 26 16252927) HT_ (fun K hK => ?_)
                           refine gs_ Try.func23 #[.agg #[.int .i64 t454, .int .i64 t455, .int .i64 t456], .int .i64 x20_4] ?_
                           with_reducible refine (laws_vec.calls t454 t455 t456 x20_4 t491 _ A94.out).mono ?_
                           rintro e w102 ⟨rfl, hb⟩
                           have HS3_ := hc_ hb hHeld.2.2.2.1
                           have HS4_ := hc_ hb hHeld.2.2.2.2
                           refine ⟨_, rfl, ?_⟩
                           have n0_ := Aside0.mk (Kd.R_below (kr_ HO_10) hb)
                           have n1_ := Aside0.mk (Kd.Q_below (by (with_reducible repeat (first | apply Kd.Q_alloc | apply Kd.Q_drewN | apply Kd.Q_drew)); exact HO_16.out) hb)
                           have n2_ := Aside0.mk (Kd.R_below (kr_ HO_17) hb); have n3_ := bb_ BK447 hb; have n4_ := bb_ BK458 hb; have n5_ := Aside0.mk (below_step (bf_ HB) hb); clear HO_10 HO_16 HO_17 BK447 BK458 HB; have HO_10 := n0_; have HO_16 := n1_; have HO_17 := n2_; have BK447 := n3_; have BK458 := n4_; have HB := n5_; clear n0_ n1_ n2_ n3_ n4_ n5_; (try clear hb); (try clear hb2); (try clear hk); (try clear hi)
                           refine hK.out _ _ ⟨bt_ BK458 0, bt_ BK458 1, bt_ BK458 2, HS3_, HS4_⟩ (fun hHeld => ?_)
                           clear hK K
                           refine norm_ (a' := ?_) ?_ ?_
                           rotate_left
                           ·show Act.put _ (some 187) _ = _
                            simp only [Act.put, ls0_, ls1_, ls2_, i64_w, i32_w]
                            rfl
                           refine ps_ 19 188 (bs 26 24) HT_ ?_
                           refine ps_ 24 193 (bs 26 25) HT_ ?_
                           refine ps_ 25 194 (bs 26 26) HT_ ?_
                           refine done_ (done_of HT_.out (by kernel_rfl)) ?_
                           try go_wp2
                           go_ret
                           exact ⟨by first | rfl | (simp [errW_none, errW_some] <;> rfl) | (simp [*, errW_none, errW_some] <;> rfl), bf_ HB⟩
                         ·rw [if_neg c95] at H
                          exact absurd H (by simp)
                        ·rw [if_neg c93] at H
                         exact absurd H (by simp)
                       ·rw [if_neg c92] at H
                        exact absurd H (by simp)
                 ·rw [if_neg c72] at H
                  exact absurd H (by simp)
                ·rw [if_neg c71] at H
                 exact absurd H (by simp)
               ·rw [if_neg c70] at H
                exact absurd H (by simp)
              ·rw [if_neg c69] at H
               have c69b0 : decide (x20_4 < 3) = false := decide_eq_false c69
               clear c69
               obtain rfl := Option.some.inj H
               go_wp2
               go_ret
               exact ⟨by first | rfl | (simp [errW_none, errW_some] <;> rfl) | (simp [*, errW_none, errW_some] <;> rfl), bf_ HB⟩
     ·rw [if_neg c22] at H
      have c22b0 : ((t451.length : Int) == (t440.length : Int)) = false := beq_eq_false_iff_ne.mpr c22
      have c22b1 : ((t451.length : Int) != (t440.length : Int)) = true := bne_iff_ne.mpr c22
      have c22b2 : (t451.length == t440.length) = false := by first | simpa using c22 | (simp at c22 ⊢; omega)
      obtain rfl := Option.some.inj H
      obtain ⟨Ao103, co103, eo103⟩ := Kd.R_slice HO_7.out
      subst eo103
      obtain ⟨Ao104, co104, eo104⟩ := Kd.R_slice HO_4.out
      subst eo104
      go_wp2
      go_ret
      exact ⟨by first | rfl | (simp [errW_none, errW_some] <;> rfl) | (simp [*, errW_none, errW_some] <;> rfl), bf_ HB⟩

/-- THE ONE PURE STATEMENT of laws_FnCarryBound: yours. -/
def laws_FnCarryBound.Pure : Prop := ∀ (l0 : List Int), l0.length ≤ maxLen → l0.length * 1 ≤ 140737488351232 → (∀ x ∈ l0, (Lit.int .u8 x).wf = true) → ∃ k, laws_FnCarryBound.f k l0 = some true
theorem laws_FnCarryBound.walk (P : laws_FnCarryBound.Pure) (a0 : Option Addr) (len0 cap0 : Nat) (z0 : List Int) (w : World) (w0 : (a0 = none ∧ len0 = 0 ∧ cap0 = 0 ∧ z0 = []) ∨ ∃ x, a0 = some x ∧ len0 ≤ cap0 ∧ cap0 ≤ maxLen ∧ z0.length = cap0 ∧ (∀ i, i < z0.length → w.cell? (x.add i) = some (.int .u8 (z0.getD i 0))) ∧ ∀ n ∈ z0, (Lit.int .u8 n).wf = true) (y0 : len0 * 1 ≤ 140737488351232) :
  Calls Try.prog 4 #[.slice a0 len0 cap0] w fun e w' => e = .returned (.bool true) ∧ Below w.heap.size w w' := by
 obtain ⟨l0, rfl, hr0, hm0, hw0, hc0⟩ := ReadsInt.ofRowC w0
 obtain ⟨k, h⟩ := P l0 hm0 y0 hw0
 refine (laws_FnCarryBound.calls k _ _ l0 true w (Kd.C_of_reads (d := (0 : Int)) (h1 := fun _ => rfl) hr0) hc0 h).mono ?_
 rintro e w' ⟨rfl, hd⟩
 exact ⟨rfl, hd⟩

end Go.Proofs.Ytlafobfjbkhioaa.PFnCarryBound
