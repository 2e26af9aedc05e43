-- printed by a program of this session (wip/printx) out of the translation; Lean checks it
import Derived.Test.YtljhaoiopokmfaaVFnExactFairServe
import Derived.Test.YtljhaoiopokmfaaPFnExactFairServex0
import Derived.Test.YtljhaoiopokmfaaPFnExactFairServex1
import Derived.Test.YtljhaoiopokmfaaPFnExactFairServex2
import Derived.Test.YtljhaoiopokmfaaPFnExactFairServex7
import Derived.Test.YtljhaoiopokmfaaPFnExactFairServex12
namespace Go.Proofs.Ytljhaoiopokmfaa.PFnExactFairServe
open Go.RowKit Go.Proofs.YtljhaoiopokmfaaW.PrintWords Go.Proofs.YtljhaoiopokmfaaW.PrintLast Go.Proofs.YtljhaoiopokmfaaW.PrintMore
attribute [local go_sem] max2_int min2_int max_two min_two max_three min_three max_four min_four   -- for this text's walks alone
set_option linter.unusedVariables false
set_option linter.unusedSimpArgs false

/-! ### laws_FnExactFairServe: function 13 -/
mutual
def laws_FnExactFairServe.j0 : Nat → Bool → Int → Int → Bool → Int → Int → Int → Int → List (S85) → Int → Int → Int → Int → Int → Int → Int → List (S38) → Int → Int → Int → Int → List (S38) → Int → Int → Int → Int → List (S38) → Option (Bool)
  | 0, _, _, _, _, _, _, _, _, _, _, _, _, _, _, _, _, _, _, _, _, _, _, _, _, _, _, _ => none
  | k + 1, x2, x9, x12, x50, x396000, x396001, x396002, x396003, x396004, x397000, x397001, x397002, x417000, x417001, x417002, x417003, x417004, x425000, x425001, x425002, x425003, x425004, x437000, x437001, x437002, x437003, x437004 => if x50 = true then (some false) else ((laws_toFair.f k x396000 x396001 x396002 x396003 x396004).bind fun bt438 => ((laws_eqFair.f k x425000 x425001 x425002 x425003 x425004 bt438.1 bt438.2.1 bt438.2.2.1 bt438.2.2.2.1 bt438.2.2.2.2).bind fun t445 => (if t445 = true then ((laws_markFair.f k x425000 x425001 x425002 x425003 x425004 1).bind fun bt446 => (if bt446.1 < 0 then (laws_FnExactFairServe.j1 k x2 x9 true x396000 x396001 x396002 x396003 x396004 x397000 x397001 x397002 x417000 x417001 x417002 x417003 x417004 x437000 x437001 x437002 x437003 x437004) else ((laws_eqFair.f k x437000 x437001 x437002 x437003 x437004 x417000 x417001 x417002 x417003 x417004).bind fun t448 => (if t448 = true then (laws_FnExactFairServe.j1 k x2 x9 (x12 != x9) x396000 x396001 x396002 x396003 x396004 x397000 x397001 x397002 x417000 x417001 x417002 x417003 x417004 x437000 x437001 x437002 x437003 x437004) else (laws_FnExactFairServe.j1 k x2 x9 true x396000 x396001 x396002 x396003 x396004 x397000 x397001 x397002 x417000 x417001 x417002 x417003 x417004 x437000 x437001 x437002 x437003 x437004))))) else (some false))))
def laws_FnExactFairServe.j1 : Nat → Bool → Int → Bool → Int → Int → Int → Int → List (S85) → Int → Int → Int → Int → Int → Int → Int → List (S38) → Int → Int → Int → Int → List (S38) → Option (Bool)
  | 0, _, _, _, _, _, _, _, _, _, _, _, _, _, _, _, _, _, _, _, _, _ => none
  | k + 1, x2, x9, x71, x396000, x396001, x396002, x396003, x396004, x397000, x397001, x397002, x417000, x417001, x417002, x417003, x417004, x437000, x437001, x437002, x437003, x437004 => if x71 = true then (some false) else ((laws_markFair.f k x437000 x437001 x437002 x437003 x437004 1).bind fun bt449 => ((laws_heldFair.f k x437000 x437001 x437002 x437003 bt449.2 1).bind fun t451 => (if t451 < 0 then (some false) else (if t451 = bt449.1 then ((laws_toFair.f k x396000 x396001 x396002 x396003 x396004).bind fun bt452 => ((laws_toVec.f x397000 x397001 x397002).bind fun bt459 => ((impl_FairServe.f k bt452.1 bt452.2.1 bt452.2.2.1 bt452.2.2.2.1 bt452.2.2.2.2 bt459.1 bt459.2.1 bt459.2.2 x2).bind fun bt462 => ((laws_eqFair.f k bt462.1 bt462.2.1 bt462.2.2.1 bt462.2.2.2.1 bt462.2.2.2.2.1 x417000 x417001 x417002 x417003 x417004).bind fun t471 => (if t471 = true then (laws_FnExactFairServe.j2 k bt449.1 (bt462.2.2.2.2.2 != x9) x437000 x437001 x437002 x437003 bt449.2) else (laws_FnExactFairServe.j2 k bt449.1 true x437000 x437001 x437002 x437003 bt449.2)))))) else (some false)))))
def laws_FnExactFairServe.j2 : Nat → Int → Bool → Int → Int → Int → Int → List (S38) → Option (Bool)
  | 0, _, _, _, _, _, _, _ => none
  | k + 1, x14, x100, x437000, x437001, x437002, x437003, x437004 => if x100 = true then (some false) else ((laws_heldFair.f k x437000 x437001 x437002 x437003 x437004 1).bind fun t472 => (if t472 < 0 then (some false) else (if t472 = x14 then (some true) else (some false))))
end
def laws_FnExactFairServe.f (k : Nat) (a0_0 : Int) (a0_1 : Int) (a0_2 : Int) (a0_3 : Int) (l0_4 : List (S85)) (a1_0 : Int) (a1_1 : Int) (a1_2 : Int) (a2 : Bool) : Option (Bool) := (laws_szFair.f a0_0 a0_1 a0_2 a0_3 l0_4 1048576).bind fun t397 => (if t397 < 0 then (some true) else ((laws_toFair.f k a0_0 a0_1 a0_2 a0_3 l0_4).bind fun bt398 => ((laws_toVec.f a1_0 a1_1 a1_2).bind fun bt405 => ((spec_FairServe.f k bt398.1 bt398.2.1 bt398.2.2.1 bt398.2.2.2.1 bt398.2.2.2.2 bt405.1 bt405.2.1 bt405.2.2 a2).bind fun bt408 => ((laws_toFair.f k a0_0 a0_1 a0_2 a0_3 l0_4).bind fun bt417 => ((laws_toVec.f a1_0 a1_1 a1_2).bind fun bt425 => ((impl_FairServe.f k bt417.1 bt417.2.1 bt417.2.2.1 bt417.2.2.2.1 bt417.2.2.2.2 bt425.1 bt425.2.1 bt425.2.2 a2).bind fun bt428 => ((laws_eqFair.f k bt428.1 bt428.2.1 bt428.2.2.1 bt428.2.2.2.1 bt428.2.2.2.2.1 bt408.1 bt408.2.1 bt408.2.2.1 bt408.2.2.2.1 bt408.2.2.2.2.1).bind fun t437 => (if t437 = true then (laws_FnExactFairServe.j0 k a2 bt408.2.2.2.2.2 bt428.2.2.2.2.2 (bt428.2.2.2.2.2 != bt408.2.2.2.2.2) a0_0 a0_1 a0_2 a0_3 l0_4 a1_0 a1_1 a1_2 bt408.1 bt408.2.1 bt408.2.2.1 bt408.2.2.2.1 bt408.2.2.2.2.1 bt417.1 bt417.2.1 bt417.2.2.1 bt417.2.2.2.1 bt417.2.2.2.2 bt428.1 bt428.2.1 bt428.2.2.1 bt428.2.2.2.1 bt428.2.2.2.2.1) else (laws_FnExactFairServe.j0 k a2 bt408.2.2.2.2.2 bt428.2.2.2.2.2 true a0_0 a0_1 a0_2 a0_3 l0_4 a1_0 a1_1 a1_2 bt408.1 bt408.2.1 bt408.2.2.1 bt408.2.2.2.1 bt408.2.2.2.2.1 bt417.1 bt417.2.1 bt417.2.2.1 bt417.2.2.2.1 bt417.2.2.2.2 bt428.1 bt428.2.1 bt428.2.2.1 bt428.2.2.2.1 bt428.2.2.2.2.1))))))))))
theorem laws_FnExactFairServe.mono_l : ∀ k, (∀ y0 y1 y2 y3 y4 y5 y6 y7 y8 y9 y10 y11 y12 y13 y14 y15 y16 y17 y18 y19 y20 y21 y22 y23 y24 y25 y26, LeO (laws_FnExactFairServe.j0 k y0 y1 y2 y3 y4 y5 y6 y7 y8 y9 y10 y11 y12 y13 y14 y15 y16 y17 y18 y19 y20 y21 y22 y23 y24 y25 y26) (laws_FnExactFairServe.j0 (k + 1) y0 y1 y2 y3 y4 y5 y6 y7 y8 y9 y10 y11 y12 y13 y14 y15 y16 y17 y18 y19 y20 y21 y22 y23 y24 y25 y26)) ∧ (∀ y0 y1 y2 y3 y4 y5 y6 y7 y8 y9 y10 y11 y12 y13 y14 y15 y16 y17 y18 y19 y20, LeO (laws_FnExactFairServe.j1 k y0 y1 y2 y3 y4 y5 y6 y7 y8 y9 y10 y11 y12 y13 y14 y15 y16 y17 y18 y19 y20) (laws_FnExactFairServe.j1 (k + 1) y0 y1 y2 y3 y4 y5 y6 y7 y8 y9 y10 y11 y12 y13 y14 y15 y16 y17 y18 y19 y20)) ∧ (∀ y0 y1 y2 y3 y4 y5 y6, LeO (laws_FnExactFairServe.j2 k y0 y1 y2 y3 y4 y5 y6) (laws_FnExactFairServe.j2 (k + 1) y0 y1 y2 y3 y4 y5 y6))
 | 0 => ⟨fun _ _ _ _ _ _ _ _ _ _ _ _ _ _ _ _ _ _ _ _ _ _ _ _ _ _ _ r h => by simp [laws_FnExactFairServe.j0] at h, fun _ _ _ _ _ _ _ _ _ _ _ _ _ _ _ _ _ _ _ _ _ r h => by simp [laws_FnExactFairServe.j1] at h, fun _ _ _ _ _ _ _ r h => by simp [laws_FnExactFairServe.j2] at h⟩
 | k + 1 => by
  obtain ⟨ih0, ih1, ih2⟩ := laws_FnExactFairServe.mono_l k
  refine ⟨?_, ?_, ?_⟩
  ·intro y0 y1 y2 y3 y4 y5 y6 y7 y8 y9 y10 y11 y12 y13 y14 y15 y16 y17 y18 y19 y20 y21 y22 y23 y24 y25 y26
   unfold laws_FnExactFairServe.j0
   repeat' first
   | (with_reducible exact ih0 _ _ _ _ _ _ _ _ _ _ _ _ _ _ _ _ _ _ _ _ _ _ _ _ _ _ _)
   | (with_reducible exact ih1 _ _ _ _ _ _ _ _ _ _ _ _ _ _ _ _ _ _ _ _ _)
   | (with_reducible exact ih2 _ _ _ _ _ _ _)
   | (with_reducible exact impl_FairServe.mono _ _ _ _ _ _ _ _ _ _)
   | (with_reducible exact laws_eqFair.mono _ _ _ _ _ _ _ _ _ _ _)
   | (with_reducible exact laws_heldFair.mono _ _ _ _ _ _ _)
   | (with_reducible exact laws_markFair.mono _ _ _ _ _ _ _)
   | (with_reducible exact laws_toFair.mono _ _ _ _ _ _)
   | (with_reducible exact spec_FairServe.mono _ _ _ _ _ _ _ _ _ _)
   | (with_reducible exact LeO.refl _)
   | (with_reducible exact LeO.none _)
   | (with_reducible refine LeO.ite ?_ ?_)
   | (with_reducible refine LeO.bind ?_ (fun _ => ?_))
   | exact ih0 _ _ _ _ _ _ _ _ _ _ _ _ _ _ _ _ _ _ _ _ _ _ _ _ _ _ _
   | exact ih1 _ _ _ _ _ _ _ _ _ _ _ _ _ _ _ _ _ _ _ _ _
   | exact ih2 _ _ _ _ _ _ _
   | exact impl_FairServe.mono _ _ _ _ _ _ _ _ _ _
   | exact laws_eqFair.mono _ _ _ _ _ _ _ _ _ _ _
   | exact laws_heldFair.mono _ _ _ _ _ _ _
   | exact laws_markFair.mono _ _ _ _ _ _ _
   | exact laws_toFair.mono _ _ _ _ _ _
   | exact spec_FairServe.mono _ _ _ _ _ _ _ _ _ _
   | exact LeO.none _
   | refine LeO.ite ?_ ?_
   | refine LeO.bind ?_ (fun _ => ?_)
  ·intro y0 y1 y2 y3 y4 y5 y6 y7 y8 y9 y10 y11 y12 y13 y14 y15 y16 y17 y18 y19 y20
   unfold laws_FnExactFairServe.j1
   repeat' first
   | (with_reducible exact ih0 _ _ _ _ _ _ _ _ _ _ _ _ _ _ _ _ _ _ _ _ _ _ _ _ _ _ _)
   | (with_reducible exact ih1 _ _ _ _ _ _ _ _ _ _ _ _ _ _ _ _ _ _ _ _ _)
   | (with_reducible exact ih2 _ _ _ _ _ _ _)
   | (with_reducible exact impl_FairServe.mono _ _ _ _ _ _ _ _ _ _)
   | (with_reducible exact laws_eqFair.mono _ _ _ _ _ _ _ _ _ _ _)
   | (with_reducible exact laws_heldFair.mono _ _ _ _ _ _ _)
   | (with_reducible exact laws_markFair.mono _ _ _ _ _ _ _)
   | (with_reducible exact laws_toFair.mono _ _ _ _ _ _)
   | (with_reducible exact spec_FairServe.mono _ _ _ _ _ _ _ _ _ _)
   | (with_reducible exact LeO.refl _)
   | (with_reducible exact LeO.none _)
   | (with_reducible refine LeO.ite ?_ ?_)
   | (with_reducible refine LeO.bind ?_ (fun _ => ?_))
   | exact ih0 _ _ _ _ _ _ _ _ _ _ _ _ _ _ _ _ _ _ _ _ _ _ _ _ _ _ _
   | exact ih1 _ _ _ _ _ _ _ _ _ _ _ _ _ _ _ _ _ _ _ _ _
   | exact ih2 _ _ _ _ _ _ _
   | exact impl_FairServe.mono _ _ _ _ _ _ _ _ _ _
   | exact laws_eqFair.mono _ _ _ _ _ _ _ _ _ _ _
   | exact laws_heldFair.mono _ _ _ _ _ _ _
   | exact laws_markFair.mono _ _ _ _ _ _ _
   | exact laws_toFair.mono _ _ _ _ _ _
   | exact spec_FairServe.mono _ _ _ _ _ _ _ _ _ _
   | exact LeO.none _
   | refine LeO.ite ?_ ?_
   | refine LeO.bind ?_ (fun _ => ?_)
  ·intro y0 y1 y2 y3 y4 y5 y6
   unfold laws_FnExactFairServe.j2
   repeat' first
   | (with_reducible exact ih0 _ _ _ _ _ _ _ _ _ _ _ _ _ _ _ _ _ _ _ _ _ _ _ _ _ _ _)
   | (with_reducible exact ih1 _ _ _ _ _ _ _ _ _ _ _ _ _ _ _ _ _ _ _ _ _)
   | (with_reducible exact ih2 _ _ _ _ _ _ _)
   | (with_reducible exact impl_FairServe.mono _ _ _ _ _ _ _ _ _ _)
   | (with_reducible exact laws_eqFair.mono _ _ _ _ _ _ _ _ _ _ _)
   | (with_reducible exact laws_heldFair.mono _ _ _ _ _ _ _)
   | (with_reducible exact laws_markFair.mono _ _ _ _ _ _ _)
   | (with_reducible exact laws_toFair.mono _ _ _ _ _ _)
   | (with_reducible exact spec_FairServe.mono _ _ _ _ _ _ _ _ _ _)
   | (with_reducible exact LeO.refl _)
   | (with_reducible exact LeO.none _)
   | (with_reducible refine LeO.ite ?_ ?_)
   | (with_reducible refine LeO.bind ?_ (fun _ => ?_))
   | exact ih0 _ _ _ _ _ _ _ _ _ _ _ _ _ _ _ _ _ _ _ _ _ _ _ _ _ _ _
   | exact ih1 _ _ _ _ _ _ _ _ _ _ _ _ _ _ _ _ _ _ _ _ _
   | exact ih2 _ _ _ _ _ _ _
   | exact impl_FairServe.mono _ _ _ _ _ _ _ _ _ _
   | exact laws_eqFair.mono _ _ _ _ _ _ _ _ _ _ _
   | exact laws_heldFair.mono _ _ _ _ _ _ _
   | exact laws_markFair.mono _ _ _ _ _ _ _
   | exact laws_toFair.mono _ _ _ _ _ _
   | exact spec_FairServe.mono _ _ _ _ _ _ _ _ _ _
   | exact LeO.none _
   | refine LeO.ite ?_ ?_
   | refine LeO.bind ?_ (fun _ => ?_)
theorem laws_FnExactFairServe.mono : ∀ a0 a1 a2 a3 a4 a5 a6 a7 a8 k, LeO (laws_FnExactFairServe.f k a0 a1 a2 a3 a4 a5 a6 a7 a8) (laws_FnExactFairServe.f (k + 1) a0 a1 a2 a3 a4 a5 a6 a7 a8) := by
 intro a0 a1 a2 a3 a4 a5 a6 a7 a8 k
 obtain ⟨ih0, ih1, ih2⟩ := laws_FnExactFairServe.mono_l k
 unfold laws_FnExactFairServe.f
 repeat' first
   | (with_reducible exact ih0 _ _ _ _ _ _ _ _ _ _ _ _ _ _ _ _ _ _ _ _ _ _ _ _ _ _ _)
   | (with_reducible exact ih1 _ _ _ _ _ _ _ _ _ _ _ _ _ _ _ _ _ _ _ _ _)
   | (with_reducible exact ih2 _ _ _ _ _ _ _)
   | (with_reducible exact impl_FairServe.mono _ _ _ _ _ _ _ _ _ _)
   | (with_reducible exact laws_eqFair.mono _ _ _ _ _ _ _ _ _ _ _)
   | (with_reducible exact laws_heldFair.mono _ _ _ _ _ _ _)
   | (with_reducible exact laws_markFair.mono _ _ _ _ _ _ _)
   | (with_reducible exact laws_toFair.mono _ _ _ _ _ _)
   | (with_reducible exact spec_FairServe.mono _ _ _ _ _ _ _ _ _ _)
   | (with_reducible exact LeO.refl _)
   | (with_reducible exact LeO.none _)
   | (with_reducible refine LeO.ite ?_ ?_)
   | (with_reducible refine LeO.bind ?_ (fun _ => ?_))
   | exact ih0 _ _ _ _ _ _ _ _ _ _ _ _ _ _ _ _ _ _ _ _ _ _ _ _ _ _ _
   | exact ih1 _ _ _ _ _ _ _ _ _ _ _ _ _ _ _ _ _ _ _ _ _
   | exact ih2 _ _ _ _ _ _ _
   | exact impl_FairServe.mono _ _ _ _ _ _ _ _ _ _
   | exact laws_eqFair.mono _ _ _ _ _ _ _ _ _ _ _
   | exact laws_heldFair.mono _ _ _ _ _ _ _
   | exact laws_markFair.mono _ _ _ _ _ _ _
   | exact laws_toFair.mono _ _ _ _ _ _
   | exact spec_FairServe.mono _ _ _ _ _ _ _ _ _ _
   | exact LeO.none _
   | refine LeO.ite ?_ ?_
   | refine LeO.bind ?_ (fun _ => ?_)
def laws_FnExactFairServe.T5 : Bool × List (List Nat × List Nat) := (true, [([], []), ([0], [0]), ([], []), ([2, 1], [2]), ([], []), ([1, 3, 4, 3], [1, 3, 4]), ([5], [5]), ([6], [6]), ([6], [6]), ([], []), ([9, 7, 5, 0, 1, 2, 3, 4, 5, 6, 7, 9], [7, 9]), ([8, 10, 0, 1, 2, 3, 4, 5, 6, 7, 8, 9, 10], [8])])
def laws_FnExactFairServe.B5 : List Nat := [0, 1, 0, 7, 0, 31, 63, 127, 127, 0, 767, 2047]
theorem laws_FnExactFairServe.tab5 : rtab .any (opsOf Try.f13 5) = laws_FnExactFairServe.T5 := by kernel_rfl
theorem laws_FnExactFairServe.bits5 : waitsOk laws_FnExactFairServe.T5.2 laws_FnExactFairServe.B5 = true := by kernel_rfl
def laws_FnExactFairServe.T7 : Bool × List (List Nat × List Nat) := (true, [([], []), ([], []), ([1], [1]), ([], []), ([0, 2, 3, 2], [0, 2, 3]), ([4], [4]), ([5], [5]), ([5], [5]), ([], []), ([8, 6, 4, 0, 1, 2, 3, 4, 5, 6, 8], [6, 8]), ([7, 9, 0, 1, 2, 3, 4, 5, 6, 7, 8, 9], [7])])
def laws_FnExactFairServe.B7 : List Nat := [0, 0, 2, 0, 15, 31, 63, 63, 0, 383, 1023]
theorem laws_FnExactFairServe.tab7 : rtab .any (opsOf Try.f13 7) = laws_FnExactFairServe.T7 := by kernel_rfl
theorem laws_FnExactFairServe.bits7 : waitsOk laws_FnExactFairServe.T7.2 laws_FnExactFairServe.B7 = true := by kernel_rfl
def laws_FnExactFairServe.T24 : Bool × List (List Nat × List Nat) := (true, [([], []), ([0], [0]), ([], []), ([2, 1], [2]), ([], []), ([1, 3, 4, 3], [1, 3, 4]), ([5], [5]), ([6], [6]), ([6], [6]), ([], []), ([9, 7, 5, 0, 1, 2, 3, 4, 5, 6, 7, 9], [7, 9]), ([8, 10, 0, 1, 2, 3, 4, 5, 6, 7, 8, 9, 10], [8])])
def laws_FnExactFairServe.B24 : List Nat := [0, 1, 0, 7, 0, 31, 63, 127, 127, 0, 767, 2047]
theorem laws_FnExactFairServe.tab24 : rtab .any (opsOf Try.f13 24) = laws_FnExactFairServe.T24 := by kernel_rfl
theorem laws_FnExactFairServe.bits24 : waitsOk laws_FnExactFairServe.T24.2 laws_FnExactFairServe.B24 = true := by kernel_rfl
set_option maxHeartbeats 8000000 in
set_option maxRecDepth 100000 in
theorem laws_FnExactFairServe.calls (k : Nat) (a0_0 : Int) (a0_1 : Int) (a0_2 : Int) (a0_3 : Int) (A0_4 : Option Addr) (c0_4 : Nat) (l0_4 : List (S85)) (a1_0 : Int) (a1_1 : Int) (a1_2 : Int) (a2 : Bool) (r : Bool) (w : World) (hr0_4 : Kd.C k85 w A0_4 l0_4.length l0_4) (hc0_4 : l0_4.length ≤ c0_4) (h : laws_FnExactFairServe.f k a0_0 a0_1 a0_2 a0_3 l0_4 a1_0 a1_1 a1_2 a2 = some r) :
  Calls Try.prog 13 #[.agg #[.int .i64 a0_0, .int .i64 a0_1, .int .i64 a0_2, .int .i64 a0_3, .slice A0_4 l0_4.length c0_4], .agg #[.int .i64 a1_0, .int .i64 a1_1, .int .i64 a1_2], .bool a2] w fun e w' => e = .returned (.bool r) ∧ Below w.heap.size w w' := by
 have hu26 := Try.underlying26; have hu23 := Try.underlying23; have hu32 := Try.underlying32
 have HR0_4 := Aside0.mk hr0_4
 have HC0_4 := Aside0.mk hc0_4
 clear hr0_4 hc0_4; have HB := Aside0.mk (Below.refl w.heap.size w)
 have H : ((laws_szFair.f a0_0 a0_1 a0_2 a0_3 l0_4 1048576).bind fun t397 => (if t397 < 0 then (some true) else ((laws_toFair.f k a0_0 a0_1 a0_2 a0_3 l0_4).bind fun bt398 => ((laws_toVec.f a1_0 a1_1 a1_2).bind fun bt405 => ((spec_FairServe.f k bt398.1 bt398.2.1 bt398.2.2.1 bt398.2.2.2.1 bt398.2.2.2.2 bt405.1 bt405.2.1 bt405.2.2 a2).bind fun bt408 => ((laws_toFair.f k a0_0 a0_1 a0_2 a0_3 l0_4).bind fun bt417 => ((laws_toVec.f a1_0 a1_1 a1_2).bind fun bt425 => ((impl_FairServe.f k bt417.1 bt417.2.1 bt417.2.2.1 bt417.2.2.2.1 bt417.2.2.2.2 bt425.1 bt425.2.1 bt425.2.2 a2).bind fun bt428 => ((laws_eqFair.f k bt428.1 bt428.2.1 bt428.2.2.1 bt428.2.2.2.1 bt428.2.2.2.2.1 bt408.1 bt408.2.1 bt408.2.2.1 bt408.2.2.2.1 bt408.2.2.2.2.1).bind fun t437 => (if t437 = true then (laws_FnExactFairServe.j0 k a2 bt408.2.2.2.2.2 bt428.2.2.2.2.2 (bt428.2.2.2.2.2 != bt408.2.2.2.2.2) a0_0 a0_1 a0_2 a0_3 l0_4 a1_0 a1_1 a1_2 bt408.1 bt408.2.1 bt408.2.2.1 bt408.2.2.2.1 bt408.2.2.2.2.1 bt417.1 bt417.2.1 bt417.2.2.1 bt417.2.2.2.1 bt417.2.2.2.2 bt428.1 bt428.2.1 bt428.2.2.1 bt428.2.2.2.1 bt428.2.2.2.2.1) else (laws_FnExactFairServe.j0 k a2 bt408.2.2.2.2.2 bt428.2.2.2.2.2 true a0_0 a0_1 a0_2 a0_3 l0_4 a1_0 a1_1 a1_2 bt408.1 bt408.2.1 bt408.2.2.1 bt408.2.2.2.1 bt408.2.2.2.2.1 bt417.1 bt417.2.1 bt417.2.2.1 bt417.2.2.2.1 bt417.2.2.2.2 bt428.1 bt428.2.1 bt428.2.2.1 bt428.2.2.2.1 bt428.2.2.2.2.1))))))))))) = some r := h
 clear h
 replace H := Option.bind_eq_some_iff.mp H
 obtain ⟨t397, A40, H⟩ := H
 replace H : (if t397 < 0 then (some true) else ((laws_toFair.f k a0_0 a0_1 a0_2 a0_3 l0_4).bind fun bt398 => ((laws_toVec.f a1_0 a1_1 a1_2).bind fun bt405 => ((spec_FairServe.f k bt398.1 bt398.2.1 bt398.2.2.1 bt398.2.2.2.1 bt398.2.2.2.2 bt405.1 bt405.2.1 bt405.2.2 a2).bind fun bt408 => ((laws_toFair.f k a0_0 a0_1 a0_2 a0_3 l0_4).bind fun bt417 => ((laws_toVec.f a1_0 a1_1 a1_2).bind fun bt425 => ((impl_FairServe.f k bt417.1 bt417.2.1 bt417.2.2.1 bt417.2.2.2.1 bt417.2.2.2.2 bt425.1 bt425.2.1 bt425.2.2 a2).bind fun bt428 => ((laws_eqFair.f k bt428.1 bt428.2.1 bt428.2.2.1 bt428.2.2.2.1 bt428.2.2.2.2.1 bt408.1 bt408.2.1 bt408.2.2.1 bt408.2.2.2.1 bt408.2.2.2.2.1).bind fun t437 => (if t437 = true then (laws_FnExactFairServe.j0 k a2 bt408.2.2.2.2.2 bt428.2.2.2.2.2 (bt428.2.2.2.2.2 != bt408.2.2.2.2.2) a0_0 a0_1 a0_2 a0_3 l0_4 a1_0 a1_1 a1_2 bt408.1 bt408.2.1 bt408.2.2.1 bt408.2.2.2.1 bt408.2.2.2.2.1 bt417.1 bt417.2.1 bt417.2.2.1 bt417.2.2.2.1 bt417.2.2.2.2 bt428.1 bt428.2.1 bt428.2.2.1 bt428.2.2.2.1 bt428.2.2.2.2.1) else (laws_FnExactFairServe.j0 k a2 bt408.2.2.2.2.2 bt428.2.2.2.2.2 true a0_0 a0_1 a0_2 a0_3 l0_4 a1_0 a1_1 a1_2 bt408.1 bt408.2.1 bt408.2.2.1 bt408.2.2.2.1 bt408.2.2.2.2.1 bt417.1 bt417.2.1 bt417.2.2.1 bt417.2.2.2.1 bt417.2.2.2.2 bt428.1 bt428.2.1 bt428.2.2.1 bt428.2.2.2.1 bt428.2.2.2.2.1)))))))))) = some r := H
 have A4 := Aside0.mk A40
 clear A40
 by_cases c5 : t397 < 0
 ·rw [if_pos c5] at H
  have c5b0 : decide (t397 < 0) = true := decide_eq_true c5
  clear c5
  obtain rfl := Option.some.inj H
  go_enter Try.func13, Try.ntmps13
  go_wp2_with (first | ((with_reducible refine gd_ 3 rfl ?_); refine bv_ 3 #[.int .i64 a0_0, .int .i64 a0_1, .int .i64 a0_2, .int .i64 a0_3, .slice A0_4 l0_4.length c0_4] 26 ?_; intro gb395 hg w6 hbox hb; have BK395 := Aside0.mk (hbox); have GW395 := gw_ HB hg; have GE395 := gw_ HB hg; replace HB := Aside0.mk (below_step (be_ HB) hb); clear hb hbox hg) | ((with_reducible refine gd_ 4 rfl ?_); refine bv_ 4 #[.int .i64 a1_0, .int .i64 a1_1, .int .i64 a1_2] 23 ?_; intro gb396 hg w7 hbox hb; have BK396 := Aside0.mk (hbox); have GW396 := gw_ HB hg; have GE396 := gw_ HB hg; replace HB := Aside0.mk (below_step (bf_ HB) hb); have NB395_396 := nl_ BK395 hg; have NB396_395 := ng_ BK395 hg; replace BK395 := bb_ BK395 hb; clear hb hbox hg; have hnb8 := NB395_396.out; have hnc8 := NB396_395.out; obtain ⟨hcz9_0, hcz9_1, hcz9_2, hcz9_3, hcz9_4, hfz9_0, hfz9_1, hfz9_2, hfz9_3, hfz9_4⟩ := bz5_ BK395) | ((with_reducible refine gc_ 15 rfl ?_); refine gl_ 20 Try.func15 #[.agg #[.int .i64 a0_0, .int .i64 a0_1, .int .i64 a0_2, .int .i64 a0_3, .slice A0_4 l0_4.length c0_4], .int .i64 1048576] ?_; (with_reducible refine (laws_szFair.calls a0_0 a0_1 a0_2 a0_3 _ _ l0_4 1048576 t397 _ ?side1 ?side2 A4.out).mono ?_); (case side1 => repeat (first | exact (Kd.C_below HR0_4.out HB.out) | (with_reducible refine Kd.C_alloc ?_ _) | (with_reducible refine Kd.C_drewN ?_ _) | (with_reducible refine Kd.C_drew ?_))); (case side2 => exact HC0_4.out); rintro e w10 ⟨rfl, hb⟩; refine ⟨_, rfl, ?_⟩; replace BK395 := bb_ BK395 hb; replace BK396 := bb_ BK396 hb; replace HB := Aside0.mk (below_step (bf_ HB) hb); (try clear hb); (try clear hb2); (try clear hk); (try clear hi)))
  go_ret
  exact ⟨by first | rfl | (simp [errW_none, errW_some] <;> rfl) | (simp [*, errW_none, errW_some] <;> rfl), bf_ HB⟩
 ·rw [if_neg c5] at H
  have c5b0 : decide (t397 < 0) = false := decide_eq_false c5
  clear c5
  replace H := Option.bind_eq_some_iff.mp H
  obtain ⟨⟨t398, t399, t400, t401, t402⟩, A110, H⟩ := H
  replace H : ((laws_toVec.f a1_0 a1_1 a1_2).bind fun bt405 => ((spec_FairServe.f k t398 t399 t400 t401 t402 bt405.1 bt405.2.1 bt405.2.2 a2).bind fun bt408 => ((laws_toFair.f k a0_0 a0_1 a0_2 a0_3 l0_4).bind fun bt417 => ((laws_toVec.f a1_0 a1_1 a1_2).bind fun bt425 => ((impl_FairServe.f k bt417.1 bt417.2.1 bt417.2.2.1 bt417.2.2.2.1 bt417.2.2.2.2 bt425.1 bt425.2.1 bt425.2.2 a2).bind fun bt428 => ((laws_eqFair.f k bt428.1 bt428.2.1 bt428.2.2.1 bt428.2.2.2.1 bt428.2.2.2.2.1 bt408.1 bt408.2.1 bt408.2.2.1 bt408.2.2.2.1 bt408.2.2.2.2.1).bind fun t437 => (if t437 = true then (laws_FnExactFairServe.j0 k a2 bt408.2.2.2.2.2 bt428.2.2.2.2.2 (bt428.2.2.2.2.2 != bt408.2.2.2.2.2) a0_0 a0_1 a0_2 a0_3 l0_4 a1_0 a1_1 a1_2 bt408.1 bt408.2.1 bt408.2.2.1 bt408.2.2.2.1 bt408.2.2.2.2.1 bt417.1 bt417.2.1 bt417.2.2.1 bt417.2.2.2.1 bt417.2.2.2.2 bt428.1 bt428.2.1 bt428.2.2.1 bt428.2.2.2.1 bt428.2.2.2.2.1) else (laws_FnExactFairServe.j0 k a2 bt408.2.2.2.2.2 bt428.2.2.2.2.2 true a0_0 a0_1 a0_2 a0_3 l0_4 a1_0 a1_1 a1_2 bt408.1 bt408.2.1 bt408.2.2.1 bt408.2.2.2.1 bt408.2.2.2.2.1 bt417.1 bt417.2.1 bt417.2.2.1 bt417.2.2.2.1 bt417.2.2.2.2 bt428.1 bt428.2.1 bt428.2.2.1 bt428.2.2.2.1 bt428.2.2.2.2.1)))))))) = some r := H
  have A11 := Aside0.mk A110
  clear A110
  replace H := Option.bind_eq_some_iff.mp H
  obtain ⟨⟨t405, t406, t407⟩, A120, H⟩ := H
  replace H : ((spec_FairServe.f k t398 t399 t400 t401 t402 t405 t406 t407 a2).bind fun bt408 => ((laws_toFair.f k a0_0 a0_1 a0_2 a0_3 l0_4).bind fun bt417 => ((laws_toVec.f a1_0 a1_1 a1_2).bind fun bt425 => ((impl_FairServe.f k bt417.1 bt417.2.1 bt417.2.2.1 bt417.2.2.2.1 bt417.2.2.2.2 bt425.1 bt425.2.1 bt425.2.2 a2).bind fun bt428 => ((laws_eqFair.f k bt428.1 bt428.2.1 bt428.2.2.1 bt428.2.2.2.1 bt428.2.2.2.2.1 bt408.1 bt408.2.1 bt408.2.2.1 bt408.2.2.2.1 bt408.2.2.2.2.1).bind fun t437 => (if t437 = true then (laws_FnExactFairServe.j0 k a2 bt408.2.2.2.2.2 bt428.2.2.2.2.2 (bt428.2.2.2.2.2 != bt408.2.2.2.2.2) a0_0 a0_1 a0_2 a0_3 l0_4 a1_0 a1_1 a1_2 bt408.1 bt408.2.1 bt408.2.2.1 bt408.2.2.2.1 bt408.2.2.2.2.1 bt417.1 bt417.2.1 bt417.2.2.1 bt417.2.2.2.1 bt417.2.2.2.2 bt428.1 bt428.2.1 bt428.2.2.1 bt428.2.2.2.1 bt428.2.2.2.2.1) else (laws_FnExactFairServe.j0 k a2 bt408.2.2.2.2.2 bt428.2.2.2.2.2 true a0_0 a0_1 a0_2 a0_3 l0_4 a1_0 a1_1 a1_2 bt408.1 bt408.2.1 bt408.2.2.1 bt408.2.2.2.1 bt408.2.2.2.2.1 bt417.1 bt417.2.1 bt417.2.2.1 bt417.2.2.2.1 bt417.2.2.2.2 bt428.1 bt428.2.1 bt428.2.2.1 bt428.2.2.2.1 bt428.2.2.2.2.1))))))) = some r := H
  have A12 := Aside0.mk A120
  clear A120
  replace H := Option.bind_eq_some_iff.mp H
  obtain ⟨⟨t408, t409, t410, t411, t412, t415⟩, A130, H⟩ := H
  replace H : ((laws_toFair.f k a0_0 a0_1 a0_2 a0_3 l0_4).bind fun bt417 => ((laws_toVec.f a1_0 a1_1 a1_2).bind fun bt425 => ((impl_FairServe.f k bt417.1 bt417.2.1 bt417.2.2.1 bt417.2.2.2.1 bt417.2.2.2.2 bt425.1 bt425.2.1 bt425.2.2 a2).bind fun bt428 => ((laws_eqFair.f k bt428.1 bt428.2.1 bt428.2.2.1 bt428.2.2.2.1 bt428.2.2.2.2.1 t408 t409 t410 t411 t412).bind fun t437 => (if t437 = true then (laws_FnExactFairServe.j0 k a2 t415 bt428.2.2.2.2.2 (bt428.2.2.2.2.2 != t415) a0_0 a0_1 a0_2 a0_3 l0_4 a1_0 a1_1 a1_2 t408 t409 t410 t411 t412 bt417.1 bt417.2.1 bt417.2.2.1 bt417.2.2.2.1 bt417.2.2.2.2 bt428.1 bt428.2.1 bt428.2.2.1 bt428.2.2.2.1 bt428.2.2.2.2.1) else (laws_FnExactFairServe.j0 k a2 t415 bt428.2.2.2.2.2 true a0_0 a0_1 a0_2 a0_3 l0_4 a1_0 a1_1 a1_2 t408 t409 t410 t411 t412 bt417.1 bt417.2.1 bt417.2.2.1 bt417.2.2.2.1 bt417.2.2.2.2 bt428.1 bt428.2.1 bt428.2.2.1 bt428.2.2.2.1 bt428.2.2.2.2.1)))))) = some r := H
  have A13 := Aside0.mk A130
  clear A130
  replace H := Option.bind_eq_some_iff.mp H
  obtain ⟨⟨t417, t418, t419, t420, t421⟩, A140, H⟩ := H
  replace H : ((laws_toVec.f a1_0 a1_1 a1_2).bind fun bt425 => ((impl_FairServe.f k t417 t418 t419 t420 t421 bt425.1 bt425.2.1 bt425.2.2 a2).bind fun bt428 => ((laws_eqFair.f k bt428.1 bt428.2.1 bt428.2.2.1 bt428.2.2.2.1 bt428.2.2.2.2.1 t408 t409 t410 t411 t412).bind fun t437 => (if t437 = true then (laws_FnExactFairServe.j0 k a2 t415 bt428.2.2.2.2.2 (bt428.2.2.2.2.2 != t415) a0_0 a0_1 a0_2 a0_3 l0_4 a1_0 a1_1 a1_2 t408 t409 t410 t411 t412 t417 t418 t419 t420 t421 bt428.1 bt428.2.1 bt428.2.2.1 bt428.2.2.2.1 bt428.2.2.2.2.1) else (laws_FnExactFairServe.j0 k a2 t415 bt428.2.2.2.2.2 true a0_0 a0_1 a0_2 a0_3 l0_4 a1_0 a1_1 a1_2 t408 t409 t410 t411 t412 t417 t418 t419 t420 t421 bt428.1 bt428.2.1 bt428.2.2.1 bt428.2.2.2.1 bt428.2.2.2.2.1))))) = some r := H
  have A14 := Aside0.mk A140
  clear A140
  replace H := Option.bind_eq_some_iff.mp H
  obtain ⟨⟨t425, t426, t427⟩, A150, H⟩ := H
  replace H : ((impl_FairServe.f k t417 t418 t419 t420 t421 t425 t426 t427 a2).bind fun bt428 => ((laws_eqFair.f k bt428.1 bt428.2.1 bt428.2.2.1 bt428.2.2.2.1 bt428.2.2.2.2.1 t408 t409 t410 t411 t412).bind fun t437 => (if t437 = true then (laws_FnExactFairServe.j0 k a2 t415 bt428.2.2.2.2.2 (bt428.2.2.2.2.2 != t415) a0_0 a0_1 a0_2 a0_3 l0_4 a1_0 a1_1 a1_2 t408 t409 t410 t411 t412 t417 t418 t419 t420 t421 bt428.1 bt428.2.1 bt428.2.2.1 bt428.2.2.2.1 bt428.2.2.2.2.1) else (laws_FnExactFairServe.j0 k a2 t415 bt428.2.2.2.2.2 true a0_0 a0_1 a0_2 a0_3 l0_4 a1_0 a1_1 a1_2 t408 t409 t410 t411 t412 t417 t418 t419 t420 t421 bt428.1 bt428.2.1 bt428.2.2.1 bt428.2.2.2.1 bt428.2.2.2.2.1)))) = some r := H
  have A15 := Aside0.mk A150
  clear A150
  replace H := Option.bind_eq_some_iff.mp H
  obtain ⟨⟨t428, t429, t430, t431, t432, t435⟩, A160, H⟩ := H
  replace H : ((laws_eqFair.f k t428 t429 t430 t431 t432 t408 t409 t410 t411 t412).bind fun t437 => (if t437 = true then (laws_FnExactFairServe.j0 k a2 t415 t435 (t435 != t415) a0_0 a0_1 a0_2 a0_3 l0_4 a1_0 a1_1 a1_2 t408 t409 t410 t411 t412 t417 t418 t419 t420 t421 t428 t429 t430 t431 t432) else (laws_FnExactFairServe.j0 k a2 t415 t435 true a0_0 a0_1 a0_2 a0_3 l0_4 a1_0 a1_1 a1_2 t408 t409 t410 t411 t412 t417 t418 t419 t420 t421 t428 t429 t430 t431 t432))) = some r := H
  have A16 := Aside0.mk A160
  clear A160
  have HC17 := Aside0.mk H
  clear H
  go_enter Try.func13, Try.ntmps13
  try go_wp2_with (first | ((with_reducible refine gd_ 3 rfl ?_); refine bv_ 3 #[.int .i64 a0_0, .int .i64 a0_1, .int .i64 a0_2, .int .i64 a0_3, .slice A0_4 l0_4.length c0_4] 26 ?_; intro gb395 hg w18 hbox hb; have BK395 := Aside0.mk (hbox); have GW395 := gw_ HB hg; have GE395 := gw_ HB hg; replace HB := Aside0.mk (below_step (be_ HB) hb); clear hb hbox hg) | ((with_reducible refine gd_ 4 rfl ?_); refine bv_ 4 #[.int .i64 a1_0, .int .i64 a1_1, .int .i64 a1_2] 23 ?_; intro gb396 hg w19 hbox hb; have BK396 := Aside0.mk (hbox); have GW396 := gw_ HB hg; have GE396 := gw_ HB hg; replace HB := Aside0.mk (below_step (bf_ HB) hb); have NB395_396 := nl_ BK395 hg; have NB396_395 := ng_ BK395 hg; replace BK395 := bb_ BK395 hb; clear hb hbox hg; have hnb20 := NB395_396.out; have hnc20 := NB396_395.out; obtain ⟨hcz21_0, hcz21_1, hcz21_2, hcz21_3, hcz21_4, hfz21_0, hfz21_1, hfz21_2, hfz21_3, hfz21_4⟩ := bz5_ BK395) | ((with_reducible refine gc_ 15 rfl ?_); refine gl_ 20 Try.func15 #[.agg #[.int .i64 a0_0, .int .i64 a0_1, .int .i64 a0_2, .int .i64 a0_3, .slice A0_4 l0_4.length c0_4], .int .i64 1048576] ?_; (with_reducible refine (laws_szFair.calls a0_0 a0_1 a0_2 a0_3 _ _ l0_4 1048576 t397 _ ?side1 ?side2 A4.out).mono ?_); (case side1 => repeat (first | exact (Kd.C_below HR0_4.out HB.out) | (with_reducible refine Kd.C_alloc ?_ _) | (with_reducible refine Kd.C_drewN ?_ _) | (with_reducible refine Kd.C_drew ?_))); (case side2 => exact HC0_4.out); rintro e w22 ⟨rfl, hb⟩; refine ⟨_, rfl, ?_⟩; replace BK395 := bb_ BK395 hb; replace BK396 := bb_ BK396 hb; replace HB := Aside0.mk (below_step (bf_ HB) hb); (try clear hb); (try clear hb2); (try clear hk); (try clear hi)))
  replace BK395 := Aside0.mk (blk_drew BK395.out); replace BK396 := Aside0.mk (blk_drew BK396.out); replace HB := Aside0.mk (below_drew1 HB.out)
  refine start_ (n := 12) (S := fun w' => cw_ w' gb395 0 (.int .i64 a0_0) ∧ cw_ w' gb395 1 (.int .i64 a0_1) ∧ cw_ w' gb395 2 (.int .i64 a0_2) ∧ cw_ w' gb395 3 (.int .i64 a0_3) ∧ cw_ w' gb395 4 (.slice A0_4 l0_4.length c0_4) ∧ cw_ w' gb396 0 (.int .i64 a1_0) ∧ cw_ w' gb396 1 (.int .i64 a1_1) ∧ cw_ w' gb396 2 (.int .i64 a1_2)) (ds := []) (bs 12 0) (by kernel_rfl) rfl rfl ⟨bt_ BK395 0, bt_ BK395 1, bt_ BK395 2, bt_ BK395 3, bt_ BK395 4, bt_ BK396 0, bt_ BK396 1, bt_ BK396 2⟩ (fun hHeld => ?_); refine with_tabW laws_FnExactFairServe.tab5 laws_FnExactFairServe.bits5 (fun HT_ HW_ => ?_)
  generalize w22.drew = w23 at BK395 BK396 HB hHeld ⊢
  refine ps_ 4 28 (bm 12 16) HT_ ?_
  refine tk_ 0 24 (bm 12 17) HT_ HW_ hHeld ?_
  refine tk_ 2 26 (bm 12 21) HT_ HW_ hHeld ?_
  refine join_ (σ := Value × Value × Nat) 2 (bs 12 10) (fun s_ => [(25, .agg #[.int .i64 t398, .int .i64 t399, .int .i64 t400, .int .i64 t401, s_.1]), (27, .agg #[.int .i64 t405, .int .i64 t406, .int .i64 t407]), (29, .tuple #[.agg #[.int .i64 t408, .int .i64 t409, .int .i64 t410, .int .i64 t411, s_.2.1], .int .i64 t415]), (8, .pointer (some ⟨s_.2.2, 0, none⟩)), (23, .tuple #[.agg #[.int .i64 t408, .int .i64 t409, .int .i64 t410, .int .i64 t411, s_.2.1], .int .i64 t415]), (30, .agg #[.int .i64 t408, .int .i64 t409, .int .i64 t410, .int .i64 t411, s_.2.1]), (31, .int .i64 t415)]) (fun s_ w' => (w'.cell? ⟨gb395, 0, none⟩ = some (.int .i64 a0_0) ∧ w'.cell? ⟨gb395, 1, none⟩ = some (.int .i64 a0_1) ∧ w'.cell? ⟨gb395, 2, none⟩ = some (.int .i64 a0_2) ∧ w'.cell? ⟨gb395, 3, none⟩ = some (.int .i64 a0_3) ∧ w'.cell? ⟨gb395, 4, none⟩ = some (.slice A0_4 l0_4.length c0_4) ∧ w'.cell? ⟨gb396, 0, none⟩ = some (.int .i64 a1_0) ∧ w'.cell? ⟨gb396, 1, none⟩ = some (.int .i64 a1_1) ∧ w'.cell? ⟨gb396, 2, none⟩ = some (.int .i64 a1_2)) ∧ (Kd.R k38 38 w' w.heap.size (fun k_ => some k_ ≠ (s_.2.1 : Value).ownBlock) s_.1 t402) ∧ (Kd.R k38 38 w' w.heap.size (fun k_ => some k_ ≠ (s_.1 : Value).ownBlock) s_.2.1 t412) ∧ (w'.heap[gb395]? = some (.cells #[.int .i64 a0_0, .int .i64 a0_1, .int .i64 a0_2, .int .i64 a0_3, .slice A0_4 l0_4.length c0_4] 26 (0, 0))) ∧ (w'.heap[gb396]? = some (.cells #[.int .i64 a1_0, .int .i64 a1_1, .int .i64 a1_2] 23 (0, 0))) ∧ (w'.heap[s_.2.2]? = some (.cells #[.int .i64 0, .int .i64 0, .int .i64 0, .int .i64 0, .slice none 0 0] 32 (0, 0))) ∧ (w.heap.size ≤ s_.2.2) ∧ (w.heap.size ≤ s_.2.2) ∧ (gb395 ≠ s_.2.2) ∧ (s_.2.2 ≠ gb395) ∧ (gb396 ≠ s_.2.2) ∧ (s_.2.2 ≠ gb396) ∧ (Below w.heap.size w w')) ?_ ?_
  rotate_left
  ·intro hCont
   refine two_ (i := 1) (j := 9) (Ni := some 25) (Nj := some 8) (bm 12 23) (bm 12 533) rfl rfl rfl rfl (two_of HT_.out (by kernel_rfl)) (by decide) (by decide) (fun K hK => ?_) (fun K hK => ?_)
   ·skip
    refine gs_ Try.func17 #[.agg #[.int .i64 a0_0, .int .i64 a0_1, .int .i64 a0_2, .int .i64 a0_3, .slice A0_4 l0_4.length c0_4]] ?_
    with_reducible refine (laws_toFair.calls k a0_0 a0_1 a0_2 a0_3 _ _ l0_4 t398 t399 t400 t401 t402 _ ?side1 ?side2 A11.out).mono ?_
    (case side1 => repeat (first | exact (Kd.C_below HR0_4.out HB.out) | (with_reducible refine Kd.C_alloc ?_ _) | (with_reducible refine Kd.C_drewN ?_ _) | (with_reducible refine Kd.C_drew ?_)))
    (case side2 => exact HC0_4.out)
    rintro e w24 ⟨v403, rfl, ho0, hb⟩
    refine ⟨_, rfl, ?_⟩
    have HO404 := Aside0.mk (Kd.R_lower ho0 (below_size (bf_ HB))); replace BK395 := bb_ BK395 hb; replace BK396 := bb_ BK396 hb; replace HB := Aside0.mk (below_step (bf_ HB) hb); (try clear hb); (try clear hb2); (try clear hk); (try clear hi); (try clear ho0)
    refine hK.out _ _ ⟨bt_ BK395 0, bt_ BK395 1, bt_ BK395 2, bt_ BK395 3, bt_ BK395 4, bt_ BK396 0, bt_ BK396 1, bt_ BK396 2⟩ (fun hHeld => ?_)
    clear hK K
    refine norm_ (a' := ?_) ?_ ?_
    rotate_left
    ·show Act.put _ (some 25) _ = _
     simp only [Act.put, ls0_, ls1_, ls2_, i64_w, i32_w]
     rfl
    refine two_ (i := 3) (j := 9) (Ni := some 27) (Nj := some 8) (bs 12 5) (bm 12 535) rfl rfl rfl rfl (two_of HT_.out (by kernel_rfl)) (by decide) (by decide) (fun K hK => ?_) (fun K hK => ?_)
    ·skip
     refine gs_ Try.func45 #[.agg #[.int .i64 a1_0, .int .i64 a1_1, .int .i64 a1_2]] ?_
     with_reducible refine (laws_toVec.calls a1_0 a1_1 a1_2 t405 t406 t407 _ A12.out).mono ?_
     rintro e w25 ⟨rfl, hb⟩
     refine ⟨_, rfl, ?_⟩
     replace HO404 := Aside0.mk (Kd.R_below (kr_ HO404) hb); replace BK395 := bb_ BK395 hb; replace BK396 := bb_ BK396 hb; replace HB := Aside0.mk (below_step (bf_ HB) hb); (try clear hb); (try clear hb2); (try clear hk); (try clear hi)
     obtain ⟨Ao26, co26, eo26⟩ := Kd.R_slice HO404.out
     (first | subst eo26 | (injection eo26 with f1_ f2_ f3_; have f4_ := f1_.symm; have f5_ := f3_.symm; clear f1_ f2_ f3_; subst f4_; subst f5_))
     refine hK.out _ _ ⟨bt_ BK395 0, bt_ BK395 1, bt_ BK395 2, bt_ BK395 3, bt_ BK395 4, bt_ BK396 0, bt_ BK396 1, bt_ BK396 2⟩ (fun hHeld => ?_)
     clear hK K
     refine norm_ (a' := ?_) ?_ ?_
     rotate_left
     ·show Act.put _ (some 27) _ = _
      simp only [Act.put, ls0_, ls1_, ls2_, i64_w, i32_w]
      rfl
     refine two_ (i := 5) (j := 9) (Ni := some 29) (Nj := some 8) (bs 12 6) (bm 12 543) rfl rfl rfl rfl (two_of HT_.out (by kernel_rfl)) (by decide) (by decide) (fun K hK => ?_) (fun K hK => ?_)
     ·skip
      refine gs_ Try.func43 #[.agg #[.int .i64 t398, .int .i64 t399, .int .i64 t400, .int .i64 t401, .slice Ao26 t402.length co26], .agg #[.int .i64 t405, .int .i64 t406, .int .i64 t407], .bool a2] ?_
      with_reducible refine (spec_FairServe.calls k t398 t399 t400 t401 _ _ t402 t405 t406 t407 a2 t408 t409 t410 t411 t412 t415 _ ?side1 ?side2 A13.out).mono ?_
      (case side1 => exact cr_ HO404)
      (case side2 => exact (Kd.R_reads' HO404.out).2.1)
      rintro e w27 ⟨v413, rfl, ho0, hb⟩
      refine ⟨_, rfl, ?_⟩
      have HO414 := Aside0.mk (Kd.R_lower (Kd.R_new' ho0 (Kd.R_lt (kr_ HO404))) (below_size (bf_ HB))); replace HO404 := Aside0.mk (Kd.R_elder' (kr_ HO404) (Kd.R_base ho0) hb); replace BK395 := bb_ BK395 hb; replace BK396 := bb_ BK396 hb; replace HB := Aside0.mk (below_step (bf_ HB) hb); (try clear hb); (try clear hb2); (try clear hk); (try clear hi); (try clear ho0)
      refine hK.out _ _ ⟨bt_ BK395 0, bt_ BK395 1, bt_ BK395 2, bt_ BK395 3, bt_ BK395 4, bt_ BK396 0, bt_ BK396 1, bt_ BK396 2⟩ (fun hHeld => ?_)
      clear hK K
      refine norm_ (a' := ?_) ?_ ?_
      rotate_left
      ·show Act.put _ (some 29) _ = _
       simp only [Act.put, ls0_, ls1_, ls2_, i64_w, i32_w]
       rfl
      refine ps_ 6 23 (bs 12 7) HT_ ?_
      refine ps_ 7 30 (bs 12 8) HT_ ?_
      refine ps_ 8 31 (bs 12 9) HT_ ?_
      refine on_ 9 (some 8) (bs 12 10) HT_ (fun K hK => ?_)
      refine box_step ?hg (N := 8) ?hd (cs := #[.int .i64 0, .int .i64 0, .int .i64 0, .int .i64 0, .slice none 0 0]) (t := 32) ?hr ?_; (case hd => rfl); (case hg => rfl); (case hr => first | (go_simp; done) | (go_simp; rfl))
      intro gb416 hg w28 hbox hb
      replace HO404 := Aside0.mk (Kd.R_below (kr_ HO404) hb); replace HO414 := Aside0.mk (Kd.R_below (kr_ HO414) hb); have BK416 := Aside0.mk (hbox); have GW416 := gw_ HB hg; have GE416 := gw_ HB hg; replace HB := Aside0.mk (below_step (bf_ HB) hb); have NB395_416 := nl_ BK395 hg; have NB416_395 := ng_ BK395 hg; replace BK395 := bb_ BK395 hb; have NB396_416 := nl_ BK396 hg; have NB416_396 := ng_ BK396 hg; replace BK396 := bb_ BK396 hb; clear hb hbox hg
      refine hK.out _ _ ⟨bt_ BK395 0, bt_ BK395 1, bt_ BK395 2, bt_ BK395 3, bt_ BK395 4, bt_ BK396 0, bt_ BK396 1, bt_ BK396 2⟩ (fun hHeld => ?_)
      clear hK K
      refine norm_ (a' := ?_) ?_ ?_
      rotate_left
      ·show Act.put _ (some 8) _ = _
       simp only [Act.put, ls0_, ls1_, ls2_, i64_w, i32_w]
       rfl
      exact norm_ (by simp only [putAll, Act.put, ls0_, ls1_, ls2_]) (hCont (.slice Ao26 t402.length co26, v413, gb416) _ ⟨hHeld, (by (with_reducible repeat (first | apply Kd.R_alloc | apply Kd.R_drewN | apply Kd.R_drew)); exact Kd.R_mono HO404.out (fun _ hk => by first | exact hk.2 | grind)), (by (with_reducible repeat (first | apply Kd.R_alloc | apply Kd.R_drewN | apply Kd.R_drew)); exact Kd.R_mono HO414.out (fun _ hk => by first | exact hk.2 | grind)), (bk_ BK395), (bk_ BK396), (bk_ BK416), GW416.out, GE416.out, NB395_416.out, NB416_395.out, NB396_416.out, NB416_396.out, (bf_ HB)⟩)
     ·skip
      refine box_step ?hg (N := 8) ?hd (cs := #[.int .i64 0, .int .i64 0, .int .i64 0, .int .i64 0, .slice none 0 0]) (t := 32) ?hr ?_; (case hd => rfl); (case hg => rfl); (case hr => first | (go_simp; done) | (go_simp; rfl))
      intro gb416 hg w26 hbox hb
      replace HO404 := Aside0.mk (Kd.R_below (kr_ HO404) hb); have BK416 := Aside0.mk (hbox); have GW416 := gw_ HB hg; have GE416 := gw_ HB hg; replace HB := Aside0.mk (below_step (bf_ HB) hb); have NB395_416 := nl_ BK395 hg; have NB416_395 := ng_ BK395 hg; replace BK395 := bb_ BK395 hb; have NB396_416 := nl_ BK396 hg; have NB416_396 := ng_ BK396 hg; replace BK396 := bb_ BK396 hb; clear hb hbox hg
      obtain ⟨Ao27, co27, eo27⟩ := Kd.R_slice HO404.out
      (first | subst eo27 | (injection eo27 with f1_ f2_ f3_; have f4_ := f1_.symm; have f5_ := f3_.symm; clear f1_ f2_ f3_; subst f4_; subst f5_))
      refine hK.out _ _ ⟨bt_ BK395 0, bt_ BK395 1, bt_ BK395 2, bt_ BK395 3, bt_ BK395 4, bt_ BK396 0, bt_ BK396 1, bt_ BK396 2⟩ (fun hHeld => ?_)
      clear hK K
      refine norm_ (a' := ?_) ?_ ?_
      rotate_left
      ·show Act.put _ (some 8) _ = _
       simp only [Act.put, ls0_, ls1_, ls2_, i64_w, i32_w]
       rfl
      refine on_ 5 (some 29) (bm 12 575) HT_ (fun K hK => ?_)
      refine gs_ Try.func43 #[.agg #[.int .i64 t398, .int .i64 t399, .int .i64 t400, .int .i64 t401, .slice Ao27 t402.length co27], .agg #[.int .i64 t405, .int .i64 t406, .int .i64 t407], .bool a2] ?_
      with_reducible refine (spec_FairServe.calls k t398 t399 t400 t401 _ _ t402 t405 t406 t407 a2 t408 t409 t410 t411 t412 t415 _ ?side1 ?side2 A13.out).mono ?_
      (case side1 => exact cr_ HO404)
      (case side2 => exact (Kd.R_reads' HO404.out).2.1)
      rintro e w28 ⟨v413, rfl, ho0, hb⟩
      refine ⟨_, rfl, ?_⟩
      have HO414 := Aside0.mk (Kd.R_lower (Kd.R_new' ho0 (Kd.R_lt (kr_ HO404))) (below_size (bf_ HB))); replace HO404 := Aside0.mk (Kd.R_elder' (kr_ HO404) (Kd.R_base ho0) hb); replace BK395 := bb_ BK395 hb; replace BK396 := bb_ BK396 hb; replace BK416 := bb_ BK416 hb; replace HB := Aside0.mk (below_step (bf_ HB) hb); (try clear hb); (try clear hb2); (try clear hk); (try clear hi); (try clear ho0)
      refine hK.out _ _ ⟨bt_ BK395 0, bt_ BK395 1, bt_ BK395 2, bt_ BK395 3, bt_ BK395 4, bt_ BK396 0, bt_ BK396 1, bt_ BK396 2⟩ (fun hHeld => ?_)
      clear hK K
      refine norm_ (a' := ?_) ?_ ?_
      rotate_left
      ·show Act.put _ (some 29) _ = _
       simp only [Act.put, ls0_, ls1_, ls2_, i64_w, i32_w]
       rfl
      refine ps_ 6 23 (bm 12 639) HT_ ?_
      refine ps_ 7 30 (bm 12 767) HT_ ?_
      refine ps_ 8 31 (bs 12 10) HT_ ?_
      exact norm_ (by simp only [putAll, Act.put, ls0_, ls1_, ls2_]) (hCont (.slice Ao27 t402.length co27, v413, gb416) _ ⟨hHeld, (by (with_reducible repeat (first | apply Kd.R_alloc | apply Kd.R_drewN | apply Kd.R_drew)); exact Kd.R_mono HO404.out (fun _ hk => by first | exact hk.2 | grind)), (by (with_reducible repeat (first | apply Kd.R_alloc | apply Kd.R_drewN | apply Kd.R_drew)); exact Kd.R_mono HO414.out (fun _ hk => by first | exact hk.2 | grind)), (bk_ BK395), (bk_ BK396), (bk_ BK416), GW416.out, GE416.out, NB395_416.out, NB416_395.out, NB396_416.out, NB416_396.out, (bf_ HB)⟩)
    ·skip
     refine box_step ?hg (N := 8) ?hd (cs := #[.int .i64 0, .int .i64 0, .int .i64 0, .int .i64 0, .slice none 0 0]) (t := 32) ?hr ?_; (case hd => rfl); (case hg => rfl); (case hr => first | (go_simp; done) | (go_simp; rfl))
     intro gb416 hg w25 hbox hb
     replace HO404 := Aside0.mk (Kd.R_below (kr_ HO404) hb); have BK416 := Aside0.mk (hbox); have GW416 := gw_ HB hg; have GE416 := gw_ HB hg; replace HB := Aside0.mk (below_step (bf_ HB) hb); have NB395_416 := nl_ BK395 hg; have NB416_395 := ng_ BK395 hg; replace BK395 := bb_ BK395 hb; have NB396_416 := nl_ BK396 hg; have NB416_396 := ng_ BK396 hg; replace BK396 := bb_ BK396 hb; clear hb hbox hg
     refine hK.out _ _ ⟨bt_ BK395 0, bt_ BK395 1, bt_ BK395 2, bt_ BK395 3, bt_ BK395 4, bt_ BK396 0, bt_ BK396 1, bt_ BK396 2⟩ (fun hHeld => ?_)
     clear hK K
     refine norm_ (a' := ?_) ?_ ?_
     rotate_left
     ·show Act.put _ (some 8) _ = _
      simp only [Act.put, ls0_, ls1_, ls2_, i64_w, i32_w]
      rfl
     refine on_ 3 (some 27) (bm 12 543) HT_ (fun K hK => ?_)
     refine gs_ Try.func45 #[.agg #[.int .i64 a1_0, .int .i64 a1_1, .int .i64 a1_2]] ?_
     with_reducible refine (laws_toVec.calls a1_0 a1_1 a1_2 t405 t406 t407 _ A12.out).mono ?_
     rintro e w26 ⟨rfl, hb⟩
     refine ⟨_, rfl, ?_⟩
     replace HO404 := Aside0.mk (Kd.R_below (kr_ HO404) hb); replace BK395 := bb_ BK395 hb; replace BK396 := bb_ BK396 hb; replace BK416 := bb_ BK416 hb; replace HB := Aside0.mk (below_step (bf_ HB) hb); (try clear hb); (try clear hb2); (try clear hk); (try clear hi)
     obtain ⟨Ao27, co27, eo27⟩ := Kd.R_slice HO404.out
     (first | subst eo27 | (injection eo27 with f1_ f2_ f3_; have f4_ := f1_.symm; have f5_ := f3_.symm; clear f1_ f2_ f3_; subst f4_; subst f5_))
     refine hK.out _ _ ⟨bt_ BK395 0, bt_ BK395 1, bt_ BK395 2, bt_ BK395 3, bt_ BK395 4, bt_ BK396 0, bt_ BK396 1, bt_ BK396 2⟩ (fun hHeld => ?_)
     clear hK K
     refine norm_ (a' := ?_) ?_ ?_
     rotate_left
     ·show Act.put _ (some 27) _ = _
      simp only [Act.put, ls0_, ls1_, ls2_, i64_w, i32_w]
      rfl
     refine on_ 5 (some 29) (bm 12 575) HT_ (fun K hK => ?_)
     refine gs_ Try.func43 #[.agg #[.int .i64 t398, .int .i64 t399, .int .i64 t400, .int .i64 t401, .slice Ao27 t402.length co27], .agg #[.int .i64 t405, .int .i64 t406, .int .i64 t407], .bool a2] ?_
     with_reducible refine (spec_FairServe.calls k t398 t399 t400 t401 _ _ t402 t405 t406 t407 a2 t408 t409 t410 t411 t412 t415 _ ?side1 ?side2 A13.out).mono ?_
     (case side1 => exact cr_ HO404)
     (case side2 => exact (Kd.R_reads' HO404.out).2.1)
     rintro e w28 ⟨v413, rfl, ho0, hb⟩
     refine ⟨_, rfl, ?_⟩
     have HO414 := Aside0.mk (Kd.R_lower (Kd.R_new' ho0 (Kd.R_lt (kr_ HO404))) (below_size (bf_ HB))); replace HO404 := Aside0.mk (Kd.R_elder' (kr_ HO404) (Kd.R_base ho0) hb); replace BK395 := bb_ BK395 hb; replace BK396 := bb_ BK396 hb; replace BK416 := bb_ BK416 hb; replace HB := Aside0.mk (below_step (bf_ HB) hb); (try clear hb); (try clear hb2); (try clear hk); (try clear hi); (try clear ho0)
     refine hK.out _ _ ⟨bt_ BK395 0, bt_ BK395 1, bt_ BK395 2, bt_ BK395 3, bt_ BK395 4, bt_ BK396 0, bt_ BK396 1, bt_ BK396 2⟩ (fun hHeld => ?_)
     clear hK K
     refine norm_ (a' := ?_) ?_ ?_
     rotate_left
     ·show Act.put _ (some 29) _ = _
      simp only [Act.put, ls0_, ls1_, ls2_, i64_w, i32_w]
      rfl
     refine ps_ 6 23 (bm 12 639) HT_ ?_
     refine ps_ 7 30 (bm 12 767) HT_ ?_
     refine ps_ 8 31 (bs 12 10) HT_ ?_
     exact norm_ (by simp only [putAll, Act.put, ls0_, ls1_, ls2_]) (hCont (.slice Ao27 t402.length co27, v413, gb416) _ ⟨hHeld, (by (with_reducible repeat (first | apply Kd.R_alloc | apply Kd.R_drewN | apply Kd.R_drew)); exact Kd.R_mono HO404.out (fun _ hk => by first | exact hk.2 | grind)), (by (with_reducible repeat (first | apply Kd.R_alloc | apply Kd.R_drewN | apply Kd.R_drew)); exact Kd.R_mono HO414.out (fun _ hk => by first | exact hk.2 | grind)), (bk_ BK395), (bk_ BK396), (bk_ BK416), GW416.out, GE416.out, NB395_416.out, NB416_395.out, NB396_416.out, NB416_396.out, (bf_ HB)⟩)
   ·skip
    refine box_step ?hg (N := 8) ?hd (cs := #[.int .i64 0, .int .i64 0, .int .i64 0, .int .i64 0, .slice none 0 0]) (t := 32) ?hr ?_; (case hd => rfl); (case hg => rfl); (case hr => first | (go_simp; done) | (go_simp; rfl))
    intro gb416 hg w24 hbox hb
    have BK416 := Aside0.mk (hbox); have GW416 := gw_ HB hg; have GE416 := gw_ HB hg; replace HB := Aside0.mk (below_step (bf_ HB) hb); have NB395_416 := nl_ BK395 hg; have NB416_395 := ng_ BK395 hg; replace BK395 := bb_ BK395 hb; have NB396_416 := nl_ BK396 hg; have NB416_396 := ng_ BK396 hg; replace BK396 := bb_ BK396 hb; clear hb hbox hg
    refine hK.out _ _ ⟨bt_ BK395 0, bt_ BK395 1, bt_ BK395 2, bt_ BK395 3, bt_ BK395 4, bt_ BK396 0, bt_ BK396 1, bt_ BK396 2⟩ (fun hHeld => ?_)
    clear hK K
    refine norm_ (a' := ?_) ?_ ?_
    rotate_left
    ·show Act.put _ (some 8) _ = _
     simp only [Act.put, ls0_, ls1_, ls2_, i64_w, i32_w]
     rfl
    refine on_ 1 (some 25) (bm 12 535) HT_ (fun K hK => ?_)
    refine gs_ Try.func17 #[.agg #[.int .i64 a0_0, .int .i64 a0_1, .int .i64 a0_2, .int .i64 a0_3, .slice A0_4 l0_4.length c0_4]] ?_
    with_reducible refine (laws_toFair.calls k a0_0 a0_1 a0_2 a0_3 _ _ l0_4 t398 t399 t400 t401 t402 _ ?side1 ?side2 A11.out).mono ?_
    (case side1 => repeat (first | exact (Kd.C_below HR0_4.out HB.out) | (with_reducible refine Kd.C_alloc ?_ _) | (with_reducible refine Kd.C_drewN ?_ _) | (with_reducible refine Kd.C_drew ?_)))
    (case side2 => exact HC0_4.out)
    rintro e w25 ⟨v403, rfl, ho0, hb⟩
    refine ⟨_, rfl, ?_⟩
    have HO404 := Aside0.mk (Kd.R_lower ho0 (below_size (bf_ HB))); replace BK395 := bb_ BK395 hb; replace BK396 := bb_ BK396 hb; replace BK416 := bb_ BK416 hb; replace HB := Aside0.mk (below_step (bf_ HB) hb); (try clear hb); (try clear hb2); (try clear hk); (try clear hi); (try clear ho0)
    refine hK.out _ _ ⟨bt_ BK395 0, bt_ BK395 1, bt_ BK395 2, bt_ BK395 3, bt_ BK395 4, bt_ BK396 0, bt_ BK396 1, bt_ BK396 2⟩ (fun hHeld => ?_)
    clear hK K
    refine norm_ (a' := ?_) ?_ ?_
    rotate_left
    ·show Act.put _ (some 25) _ = _
     simp only [Act.put, ls0_, ls1_, ls2_, i64_w, i32_w]
     rfl
    refine on_ 3 (some 27) (bm 12 543) HT_ (fun K hK => ?_)
    refine gs_ Try.func45 #[.agg #[.int .i64 a1_0, .int .i64 a1_1, .int .i64 a1_2]] ?_
    with_reducible refine (laws_toVec.calls a1_0 a1_1 a1_2 t405 t406 t407 _ A12.out).mono ?_
    rintro e w26 ⟨rfl, hb⟩
    refine ⟨_, rfl, ?_⟩
    replace HO404 := Aside0.mk (Kd.R_below (kr_ HO404) hb); replace BK395 := bb_ BK395 hb; replace BK396 := bb_ BK396 hb; replace BK416 := bb_ BK416 hb; replace HB := Aside0.mk (below_step (bf_ HB) hb); (try clear hb); (try clear hb2); (try clear hk); (try clear hi)
    obtain ⟨Ao27, co27, eo27⟩ := Kd.R_slice HO404.out
    (first | subst eo27 | (injection eo27 with f1_ f2_ f3_; have f4_ := f1_.symm; have f5_ := f3_.symm; clear f1_ f2_ f3_; subst f4_; subst f5_))
    refine hK.out _ _ ⟨bt_ BK395 0, bt_ BK395 1, bt_ BK395 2, bt_ BK395 3, bt_ BK395 4, bt_ BK396 0, bt_ BK396 1, bt_ BK396 2⟩ (fun hHeld => ?_)
    clear hK K
    refine norm_ (a' := ?_) ?_ ?_
    rotate_left
    ·show Act.put _ (some 27) _ = _
     simp only [Act.put, ls0_, ls1_, ls2_, i64_w, i32_w]
     rfl
    refine on_ 5 (some 29) (bm 12 575) HT_ (fun K hK => ?_)
    refine gs_ Try.func43 #[.agg #[.int .i64 t398, .int .i64 t399, .int .i64 t400, .int .i64 t401, .slice Ao27 t402.length co27], .agg #[.int .i64 t405, .int .i64 t406, .int .i64 t407], .bool a2] ?_
    with_reducible refine (spec_FairServe.calls k t398 t399 t400 t401 _ _ t402 t405 t406 t407 a2 t408 t409 t410 t411 t412 t415 _ ?side1 ?side2 A13.out).mono ?_
    (case side1 => exact cr_ HO404)
    (case side2 => exact (Kd.R_reads' HO404.out).2.1)
    rintro e w28 ⟨v413, rfl, ho0, hb⟩
    refine ⟨_, rfl, ?_⟩
    have HO414 := Aside0.mk (Kd.R_lower (Kd.R_new' ho0 (Kd.R_lt (kr_ HO404))) (below_size (bf_ HB))); replace HO404 := Aside0.mk (Kd.R_elder' (kr_ HO404) (Kd.R_base ho0) hb); replace BK395 := bb_ BK395 hb; replace BK396 := bb_ BK396 hb; replace BK416 := bb_ BK416 hb; replace HB := Aside0.mk (below_step (bf_ HB) hb); (try clear hb); (try clear hb2); (try clear hk); (try clear hi); (try clear ho0)
    refine hK.out _ _ ⟨bt_ BK395 0, bt_ BK395 1, bt_ BK395 2, bt_ BK395 3, bt_ BK395 4, bt_ BK396 0, bt_ BK396 1, bt_ BK396 2⟩ (fun hHeld => ?_)
    clear hK K
    refine norm_ (a' := ?_) ?_ ?_
    rotate_left
    ·show Act.put _ (some 29) _ = _
     simp only [Act.put, ls0_, ls1_, ls2_, i64_w, i32_w]
     rfl
    refine ps_ 6 23 (bm 12 639) HT_ ?_
    refine ps_ 7 30 (bm 12 767) HT_ ?_
    refine ps_ 8 31 (bs 12 10) HT_ ?_
    exact norm_ (by simp only [putAll, Act.put, ls0_, ls1_, ls2_]) (hCont (.slice Ao27 t402.length co27, v413, gb416) _ ⟨hHeld, (by (with_reducible repeat (first | apply Kd.R_alloc | apply Kd.R_drewN | apply Kd.R_drew)); exact Kd.R_mono HO404.out (fun _ hk => by first | exact hk.2 | grind)), (by (with_reducible repeat (first | apply Kd.R_alloc | apply Kd.R_drewN | apply Kd.R_drew)); exact Kd.R_mono HO414.out (fun _ hk => by first | exact hk.2 | grind)), (bk_ BK395), (bk_ BK396), (bk_ BK416), GW416.out, GE416.out, NB395_416.out, NB416_395.out, NB396_416.out, NB416_396.out, (bf_ HB)⟩)
  rintro ⟨v403, v413, gb416⟩ w29 ⟨hS_, h0_, h1_, h2_, h3_, h4_, h5_, h6_, h7_, h8_, h9_, h10_, h11_⟩
  have n0_ : Aside0 (Kd.R k38 38 w29 w.heap.size (fun k_ => some k_ ≠ (v413 : Value).ownBlock) v403 t402) := ⟨h0_⟩
  have n1_ : Aside0 (Kd.R k38 38 w29 w.heap.size (fun k_ => some k_ ≠ (v403 : Value).ownBlock) v413 t412) := ⟨h1_⟩
  have n2_ : Aside0 (w29.heap[gb395]? = some (.cells #[.int .i64 a0_0, .int .i64 a0_1, .int .i64 a0_2, .int .i64 a0_3, .slice A0_4 l0_4.length c0_4] 26 (0, 0))) := ⟨h2_⟩
  have n3_ : Aside0 (w29.heap[gb396]? = some (.cells #[.int .i64 a1_0, .int .i64 a1_1, .int .i64 a1_2] 23 (0, 0))) := ⟨h3_⟩
  have n4_ : Aside0 (w29.heap[gb416]? = some (.cells #[.int .i64 0, .int .i64 0, .int .i64 0, .int .i64 0, .slice none 0 0] 32 (0, 0))) := ⟨h4_⟩
  have n5_ : Aside0 (w.heap.size ≤ gb416) := ⟨h5_⟩
  have n6_ : Aside0 (w.heap.size ≤ gb416) := ⟨h6_⟩
  have n7_ : Aside0 (gb395 ≠ gb416) := ⟨h7_⟩
  have n8_ : Aside0 (gb416 ≠ gb395) := ⟨h8_⟩
  have n9_ : Aside0 (gb396 ≠ gb416) := ⟨h9_⟩
  have n10_ : Aside0 (gb416 ≠ gb396) := ⟨h10_⟩
  have n11_ : Aside0 (Below w.heap.size w w29) := ⟨h11_⟩
  clear BK395 BK396 HB h0_ h1_ h2_ h3_ h4_ h5_ h6_ h7_ h8_ h9_ h10_ h11_; have HO404 := n0_; have HO414 := n1_; have BK395 := n2_; have BK396 := n3_; have BK416 := n4_; have GW416 := n5_; have GE416 := n6_; have NB395_416 := n7_; have NB416_395 := n8_; have NB396_416 := n9_; have NB416_396 := n10_; have HB := n11_; clear n0_ n1_ n2_ n3_ n4_ n5_ n6_ n7_ n8_ n9_ n10_ n11_
  have hHeld : w29.cell? ⟨gb395, 0, none⟩ = some (.int .i64 a0_0) ∧ w29.cell? ⟨gb395, 1, none⟩ = some (.int .i64 a0_1) ∧ w29.cell? ⟨gb395, 2, none⟩ = some (.int .i64 a0_2) ∧ w29.cell? ⟨gb395, 3, none⟩ = some (.int .i64 a0_3) ∧ w29.cell? ⟨gb395, 4, none⟩ = some (.slice A0_4 l0_4.length c0_4) ∧ w29.cell? ⟨gb396, 0, none⟩ = some (.int .i64 a1_0) ∧ w29.cell? ⟨gb396, 1, none⟩ = some (.int .i64 a1_1) ∧ w29.cell? ⟨gb396, 2, none⟩ = some (.int .i64 a1_2) := hS_
  obtain ⟨Ao34, co34, eo34⟩ := Kd.R_slice HO414.out
  (first | subst eo34 | (injection eo34 with f1_ f2_ f3_; have f4_ := f1_.symm; have f5_ := f3_.symm; clear f1_ f2_ f3_; subst f4_; subst f5_))
  refine norm_ (a' := ?_) ?_ ?_
  rotate_left
  ·simp only [putAll, Act.put, ls0_, ls1_, ls2_]
   rfl
  refine on_ 10 none (bs 12 11) HT_ (fun K hK => ?_)
  have hs30 := bc_ BK416 0 (.int .i64 0) rfl; have hfs30 := blk_frozen BK416.out 0; have hns30_0 := NB395_416.out; have hns30_1 := NB396_416.out; have hms30_0 := NB416_395.out; have hms30_1 := NB416_396.out; have hs31 := bc_ BK416 1 (.int .i64 0) rfl; have hfs31 := blk_frozen BK416.out 1; have hns31_0 := NB395_416.out; have hns31_1 := NB396_416.out; have hms31_0 := NB416_395.out; have hms31_1 := NB416_396.out; have hs32 := bc_ BK416 2 (.int .i64 0) rfl; have hfs32 := blk_frozen BK416.out 2; have hns32_0 := NB395_416.out; have hns32_1 := NB396_416.out; have hms32_0 := NB416_395.out; have hms32_1 := NB416_396.out; have hs33 := bc_ BK416 3 (.int .i64 0) rfl; have hfs33 := blk_frozen BK416.out 3; have hns33_0 := NB395_416.out; have hns33_1 := NB396_416.out; have hms33_0 := NB416_395.out; have hms33_1 := NB416_396.out; have hs35 := bc_ BK416 4 (.slice none 0 0) rfl; have hfs35 := blk_frozen BK416.out 4; have hns35_0 := NB395_416.out; have hns35_1 := NB396_416.out; have hms35_0 := NB416_395.out; have hms35_1 := NB416_396.out
  refine skip_ (w1 := ?_) (by rfl) rfl ?_ ?_
  rotate_left
  ·go_simp
   rfl
  refine hK.out _ _ ⟨(cf5_ NB395_416.out hHeld.1), (cf5_ NB395_416.out hHeld.2.1), (cf5_ NB395_416.out hHeld.2.2.1), (cf5_ NB395_416.out hHeld.2.2.2.1), (cf5_ NB395_416.out hHeld.2.2.2.2.1), (cf5_ NB396_416.out hHeld.2.2.2.2.2.1), (cf5_ NB396_416.out hHeld.2.2.2.2.2.2.1), (cf5_ NB396_416.out hHeld.2.2.2.2.2.2.2)⟩ (fun hHeld => ?_)
  clear hK K
  refine ps_ 11 9 (bs 12 12) HT_ ?_
  refine done_ (done_of HT_.out (by kernel_rfl)) ?_
  have hnb36 := NB395_416.out; have hnc36 := NB416_395.out; obtain ⟨hcz37_0, hcz37_1, hcz37_2, hcz37_3, hcz37_4, hfz37_0, hfz37_1, hfz37_2, hfz37_3, hfz37_4⟩ := bz5_ BK395
  try go_wp2_with (first | ((with_reducible refine gc_ 17 rfl ?_); refine gl_ 33 Try.func17 #[.agg #[.int .i64 a0_0, .int .i64 a0_1, .int .i64 a0_2, .int .i64 a0_3, .slice A0_4 l0_4.length c0_4]] ?_; (with_reducible refine (laws_toFair.calls k a0_0 a0_1 a0_2 a0_3 _ _ l0_4 t417 t418 t419 t420 t421 _ ?side1 ?side2 A14.out).mono ?_); (case side1 => exact Kd.C_below HR0_4.out (bf_ HB)); (case side2 => exact HC0_4.out); rintro e w38 ⟨v422, rfl, ho0, hb⟩; refine ⟨_, rfl, ?_⟩; have HO423 := Aside0.mk (Kd.R_lower (Kd.R_new' (Kd.R_new' ho0 (Kd.R_lt (by (with_reducible repeat (first | apply Kd.R_alloc | apply Kd.R_drewN | apply Kd.R_drew)); exact (rf5_ HO404 BK416 (.int .i64 t408) (.int .i64 t409) (.int .i64 t410) (.int .i64 t411) (.slice Ao34 t412.length co34))))) (Kd.R_lt (by (with_reducible repeat (first | apply Kd.R_alloc | apply Kd.R_drewN | apply Kd.R_drew)); exact (rf5_ HO414 BK416 (.int .i64 t408) (.int .i64 t409) (.int .i64 t410) (.int .i64 t411) (.slice Ao34 t412.length co34))))) (below_size (bf_ HB))); replace HO404 := Aside0.mk (Kd.R_elder' (by (with_reducible repeat (first | apply Kd.R_alloc | apply Kd.R_drewN | apply Kd.R_drew)); exact (rf5_ HO404 BK416 (.int .i64 t408) (.int .i64 t409) (.int .i64 t410) (.int .i64 t411) (.slice Ao34 t412.length co34))) (Kd.R_base ho0) hb); replace HO414 := Aside0.mk (Kd.R_elder' (by (with_reducible repeat (first | apply Kd.R_alloc | apply Kd.R_drewN | apply Kd.R_drew)); exact (rf5_ HO414 BK416 (.int .i64 t408) (.int .i64 t409) (.int .i64 t410) (.int .i64 t411) (.slice Ao34 t412.length co34))) (Kd.R_base ho0) hb); replace BK395 := bm_ BK395 hb; replace BK396 := bm_ BK396 hb; replace BK416 := Aside0.mk (blk_below (g := gb416) (o := .cells #[.int .i64 t408, .int .i64 t409, .int .i64 t410, .int .i64 t411, .slice Ao34 t412.length co34] 32 (0, 0)) (by (with_reducible repeat (first | refine blk_drewN ?_ _ | refine blk_drew ?_ | refine blk_alloc ?_ _)); refine blk_put (cs := #[.int .i64 t408, .int .i64 t409, .int .i64 t410, .int .i64 t411, .slice none 0 0]) ?_ 4 _ rfl; (with_reducible repeat (first | refine blk_drewN ?_ _ | refine blk_drew ?_ | refine blk_alloc ?_ _)); refine blk_put (cs := #[.int .i64 t408, .int .i64 t409, .int .i64 t410, .int .i64 0, .slice none 0 0]) ?_ 3 _ rfl; (with_reducible repeat (first | refine blk_drewN ?_ _ | refine blk_drew ?_ | refine blk_alloc ?_ _)); refine blk_put (cs := #[.int .i64 t408, .int .i64 t409, .int .i64 0, .int .i64 0, .slice none 0 0]) ?_ 2 _ rfl; (with_reducible repeat (first | refine blk_drewN ?_ _ | refine blk_drew ?_ | refine blk_alloc ?_ _)); refine blk_put (cs := #[.int .i64 t408, .int .i64 0, .int .i64 0, .int .i64 0, .slice none 0 0]) ?_ 1 _ rfl; (with_reducible repeat (first | refine blk_drewN ?_ _ | refine blk_drew ?_ | refine blk_alloc ?_ _)); refine blk_put (cs := #[.int .i64 0, .int .i64 0, .int .i64 0, .int .i64 0, .slice none 0 0]) ?_ 0 _ rfl; exact bk_ BK416) hb); replace HB := Aside0.mk (below_step (bf_ HB) hb); (try clear hb); (try clear hb2); (try clear hk); (try clear hi); (try clear ho0)) | ((with_reducible refine gd_ 10 rfl ?_); refine bv_ 10 #[.int .i64 0, .int .i64 0, .int .i64 0, .int .i64 0, .slice none 0 0] 32 ?_; intro gb424 hg w39 hbox hb; replace HO404 := Aside0.mk (Kd.R_below (kr_ HO404) hb); replace HO414 := Aside0.mk (Kd.R_below (kr_ HO414) hb); replace HO423 := Aside0.mk (Kd.R_below (kr_ HO423) hb); have BK424 := Aside0.mk (hbox); have GW424 := gw_ HB hg; have GE424 := gw_ HB hg; replace HB := Aside0.mk (below_step (bf_ HB) hb); have NB395_424 := nl_ BK395 hg; have NB424_395 := ng_ BK395 hg; replace BK395 := bb_ BK395 hb; have NB396_424 := nl_ BK396 hg; have NB424_396 := ng_ BK396 hg; replace BK396 := bb_ BK396 hb; have NB416_424 := nl_ BK416 hg; have NB424_416 := ng_ BK416 hg; replace BK416 := bb_ BK416 hb; clear hb hbox hg; have hnb40 := NB424_395.out; have hnc40 := NB395_424.out; have hnb41 := NB424_396.out; have hnc41 := NB396_424.out; have hnb42 := NB424_416.out; have hnc42 := NB416_424.out; obtain ⟨hcz43_0, hcz43_1, hcz43_2, hcz43_3, hcz43_4, hfz43_0, hfz43_1, hfz43_2, hfz43_3, hfz43_4⟩ := bz5_ BK424; obtain ⟨Ao44, co44, eo44⟩ := Kd.R_slice HO423.out; subst eo44))
  generalize hW_ : (((((w39.setCell ⟨gb424, 0, none⟩ (.int .i64 t417)).setCell ⟨gb424, 1, none⟩ (.int .i64 t418)).setCell ⟨gb424, 2, none⟩ (.int .i64 t419)).setCell ⟨gb424, 3, none⟩ (.int .i64 t420)).setCell ⟨gb424, 4, none⟩ (.slice Ao44 t421.length co44)) = w45
  replace HO404 : Aside0 (Kd.R k38 38 w45 w.heap.size (fun k_ => some k_ ≠ (.slice Ao34 t412.length co34 : Value).ownBlock ∧ some k_ ≠ (.slice Ao44 t421.length co44 : Value).ownBlock) v403 t402) := ⟨by cases hW_; (with_reducible repeat (first | apply Kd.R_alloc | apply Kd.R_drewN | apply Kd.R_drew)); exact Kd.R_mono (Kd.R_far (p := ⟨gb424, 4, none⟩) (Kd.R_far (p := ⟨gb424, 3, none⟩) (Kd.R_far (p := ⟨gb424, 2, none⟩) (Kd.R_far (p := ⟨gb424, 1, none⟩) (Kd.R_far (p := ⟨gb424, 0, none⟩) (Kd.R_types HO404.out BK424.out (by decide)) (fun _ hk => by first | exact hk.2 | grind) (.int .i64 t417)) (fun _ hk => by first | exact hk.2 | grind) (.int .i64 t418)) (fun _ hk => by first | exact hk.2 | grind) (.int .i64 t419)) (fun _ hk => by first | exact hk.2 | grind) (.int .i64 t420)) (fun _ hk => by first | exact hk.2 | grind) (.slice Ao44 t421.length co44)) (fun _ hk => by first | exact ⟨hk.1.1, hk.1.2⟩ | grind)⟩
  replace HO414 : Aside0 (Kd.R k38 38 w45 w.heap.size (fun k_ => some k_ ≠ (v403 : Value).ownBlock ∧ some k_ ≠ (.slice Ao44 t421.length co44 : Value).ownBlock) (.slice Ao34 t412.length co34) t412) := ⟨by cases hW_; (with_reducible repeat (first | apply Kd.R_alloc | apply Kd.R_drewN | apply Kd.R_drew)); exact Kd.R_mono (Kd.R_far (p := ⟨gb424, 4, none⟩) (Kd.R_far (p := ⟨gb424, 3, none⟩) (Kd.R_far (p := ⟨gb424, 2, none⟩) (Kd.R_far (p := ⟨gb424, 1, none⟩) (Kd.R_far (p := ⟨gb424, 0, none⟩) (Kd.R_types HO414.out BK424.out (by decide)) (fun _ hk => by first | exact hk.2 | grind) (.int .i64 t417)) (fun _ hk => by first | exact hk.2 | grind) (.int .i64 t418)) (fun _ hk => by first | exact hk.2 | grind) (.int .i64 t419)) (fun _ hk => by first | exact hk.2 | grind) (.int .i64 t420)) (fun _ hk => by first | exact hk.2 | grind) (.slice Ao44 t421.length co44)) (fun _ hk => by first | exact ⟨hk.1.1, hk.1.2⟩ | grind)⟩
  replace HO423 : Aside0 (Kd.R k38 38 w45 w.heap.size (fun k_ => some k_ ≠ (v403 : Value).ownBlock ∧ some k_ ≠ (.slice Ao34 t412.length co34 : Value).ownBlock) (.slice Ao44 t421.length co44) t421) := ⟨by cases hW_; (with_reducible repeat (first | apply Kd.R_alloc | apply Kd.R_drewN | apply Kd.R_drew)); exact Kd.R_mono (Kd.R_far (p := ⟨gb424, 4, none⟩) (Kd.R_far (p := ⟨gb424, 3, none⟩) (Kd.R_far (p := ⟨gb424, 2, none⟩) (Kd.R_far (p := ⟨gb424, 1, none⟩) (Kd.R_far (p := ⟨gb424, 0, none⟩) (Kd.R_types HO423.out BK424.out (by decide)) (fun _ hk => by first | exact hk.2 | grind) (.int .i64 t417)) (fun _ hk => by first | exact hk.2 | grind) (.int .i64 t418)) (fun _ hk => by first | exact hk.2 | grind) (.int .i64 t419)) (fun _ hk => by first | exact hk.2 | grind) (.int .i64 t420)) (fun _ hk => by first | exact hk.2 | grind) (.slice Ao44 t421.length co44)) (fun _ hk => by first | exact ⟨hk.1.1.2, hk.1.2⟩ | grind)⟩
  replace BK395 := fc5_ hW_ BK395 NB395_424
  replace BK396 := fc5_ hW_ BK396 NB396_424
  replace BK416 := fc5_ hW_ BK416 NB416_424
  replace BK424 : Aside0 (w45.heap[gb424]? = some (.cells #[.int .i64 t417, .int .i64 t418, .int .i64 t419, .int .i64 t420, .slice Ao44 t421.length co44] 32 (0, 0))) := pc5_ hW_ BK424
  replace HB : Aside0 (Below w.heap.size w w45) := ⟨by cases hW_; exact bf_ HB⟩
  clear hW_; replace HO404 := Aside0.mk (Kd.R_drew HO404.out); replace HO414 := Aside0.mk (Kd.R_drew HO414.out); replace HO423 := Aside0.mk (Kd.R_drew HO423.out); replace BK395 := Aside0.mk (blk_drew BK395.out); replace BK396 := Aside0.mk (blk_drew BK396.out); replace BK416 := Aside0.mk (blk_drew BK416.out); replace BK424 := Aside0.mk (blk_drew BK424.out); replace HB := Aside0.mk (below_drew1 HB.out)
  refine start_ (n := 11) (S := fun w' => cw_ w' gb424 0 (.int .i64 t417) ∧ cw_ w' gb424 1 (.int .i64 t418) ∧ cw_ w' gb424 2 (.int .i64 t419) ∧ cw_ w' gb424 3 (.int .i64 t420) ∧ cw_ w' gb424 4 (.slice Ao44 t421.length co44) ∧ cw_ w' gb396 0 (.int .i64 a1_0) ∧ cw_ w' gb396 1 (.int .i64 a1_1) ∧ cw_ w' gb396 2 (.int .i64 a1_2)) (ds := []) (bs 11 0) (by kernel_rfl) rfl rfl ⟨bt_ BK424 0, bt_ BK424 1, bt_ BK424 2, bt_ BK424 3, bt_ BK424 4, bt_ BK396 0, bt_ BK396 1, bt_ BK396 2⟩ (fun hHeld => ?_); refine with_tabW laws_FnExactFairServe.tab7 laws_FnExactFairServe.bits7 (fun HT_ HW_ => ?_)
  generalize w45.drew = w46 at HO404 HO414 HO423 BK395 BK396 BK416 BK424 HB hHeld ⊢
  refine ps_ 3 38 (bm 11 8) HT_ ?_
  refine tk_ 0 35 (bm 11 9) HT_ HW_ hHeld ?_
  refine tk_ 1 36 (bm 11 11) HT_ HW_ hHeld ?_
  refine join_ (σ := Value × Nat) 2 (bs 11 9) (fun s_ => [(37, .agg #[.int .i64 t425, .int .i64 t426, .int .i64 t427]), (39, .tuple #[.agg #[.int .i64 t428, .int .i64 t429, .int .i64 t430, .int .i64 t431, s_.1], .int .i64 t435]), (11, .pointer (some ⟨s_.2, 0, none⟩)), (34, .tuple #[.agg #[.int .i64 t428, .int .i64 t429, .int .i64 t430, .int .i64 t431, s_.1], .int .i64 t435]), (40, .agg #[.int .i64 t428, .int .i64 t429, .int .i64 t430, .int .i64 t431, s_.1]), (41, .int .i64 t435)]) (fun s_ w' => (w'.cell? ⟨gb424, 0, none⟩ = some (.int .i64 t417) ∧ w'.cell? ⟨gb424, 1, none⟩ = some (.int .i64 t418) ∧ w'.cell? ⟨gb424, 2, none⟩ = some (.int .i64 t419) ∧ w'.cell? ⟨gb424, 3, none⟩ = some (.int .i64 t420) ∧ w'.cell? ⟨gb424, 4, none⟩ = some (.slice Ao44 t421.length co44) ∧ w'.cell? ⟨gb396, 0, none⟩ = some (.int .i64 a1_0) ∧ w'.cell? ⟨gb396, 1, none⟩ = some (.int .i64 a1_1) ∧ w'.cell? ⟨gb396, 2, none⟩ = some (.int .i64 a1_2)) ∧ (Kd.R k38 38 w' w.heap.size (fun k_ => some k_ ≠ (.slice Ao34 t412.length co34 : Value).ownBlock ∧ some k_ ≠ (.slice Ao44 t421.length co44 : Value).ownBlock ∧ some k_ ≠ (s_.1 : Value).ownBlock) v403 t402) ∧ (Kd.R k38 38 w' w.heap.size (fun k_ => some k_ ≠ (v403 : Value).ownBlock ∧ some k_ ≠ (.slice Ao44 t421.length co44 : Value).ownBlock ∧ some k_ ≠ (s_.1 : Value).ownBlock) (.slice Ao34 t412.length co34) t412) ∧ (Kd.R k38 38 w' w.heap.size (fun k_ => some k_ ≠ (v403 : Value).ownBlock ∧ some k_ ≠ (.slice Ao34 t412.length co34 : Value).ownBlock ∧ some k_ ≠ (s_.1 : Value).ownBlock) (.slice Ao44 t421.length co44) t421) ∧ (Kd.R k38 38 w' w.heap.size (fun k_ => some k_ ≠ (v403 : Value).ownBlock ∧ some k_ ≠ (.slice Ao34 t412.length co34 : Value).ownBlock ∧ some k_ ≠ (.slice Ao44 t421.length co44 : Value).ownBlock) s_.1 t432) ∧ (w'.heap[gb395]? = some (.cells #[.int .i64 a0_0, .int .i64 a0_1, .int .i64 a0_2, .int .i64 a0_3, .slice A0_4 l0_4.length c0_4] 26 (0, 0))) ∧ (w'.heap[gb396]? = some (.cells #[.int .i64 a1_0, .int .i64 a1_1, .int .i64 a1_2] 23 (0, 0))) ∧ (w'.heap[gb416]? = some (.cells #[.int .i64 t408, .int .i64 t409, .int .i64 t410, .int .i64 t411, .slice Ao34 t412.length co34] 32 (0, 0))) ∧ (w'.heap[gb424]? = some (.cells #[.int .i64 t417, .int .i64 t418, .int .i64 t419, .int .i64 t420, .slice Ao44 t421.length co44] 32 (0, 0))) ∧ (w'.heap[s_.2]? = some (.cells #[.int .i64 0, .int .i64 0, .int .i64 0, .int .i64 0, .slice none 0 0] 32 (0, 0))) ∧ (w.heap.size ≤ s_.2) ∧ (w.heap.size ≤ s_.2) ∧ (gb395 ≠ s_.2) ∧ (s_.2 ≠ gb395) ∧ (gb396 ≠ s_.2) ∧ (s_.2 ≠ gb396) ∧ (gb416 ≠ s_.2) ∧ (s_.2 ≠ gb416) ∧ (gb424 ≠ s_.2) ∧ (s_.2 ≠ gb424) ∧ (Below w.heap.size w w')) ?_ ?_
  rotate_left
  ·intro hCont
   refine two_ (i := 2) (j := 8) (Ni := some 37) (Nj := some 11) (bs 11 4) (bm 11 267) rfl rfl rfl rfl (two_of HT_.out (by kernel_rfl)) (by decide) (by decide) (fun K hK => ?_) (fun K hK => ?_)
   ·skip
    refine gs_ Try.func45 #[.agg #[.int .i64 a1_0, .int .i64 a1_1, .int .i64 a1_2]] ?_
    with_reducible refine (laws_toVec.calls a1_0 a1_1 a1_2 t425 t426 t427 _ A15.out).mono ?_
    rintro e w47 ⟨rfl, hb⟩
    refine ⟨_, rfl, ?_⟩
    replace HO404 := Aside0.mk (Kd.R_below (kr_ HO404) hb); replace HO414 := Aside0.mk (Kd.R_below (kr_ HO414) hb); replace HO423 := Aside0.mk (Kd.R_below (kr_ HO423) hb); replace BK395 := bb_ BK395 hb; replace BK396 := bb_ BK396 hb; replace BK416 := bb_ BK416 hb; replace BK424 := bb_ BK424 hb; replace HB := Aside0.mk (below_step (bf_ HB) hb); (try clear hb); (try clear hb2); (try clear hk); (try clear hi)
    refine hK.out _ _ ⟨bt_ BK424 0, bt_ BK424 1, bt_ BK424 2, bt_ BK424 3, bt_ BK424 4, bt_ BK396 0, bt_ BK396 1, bt_ BK396 2⟩ (fun hHeld => ?_)
    clear hK K
    refine norm_ (a' := ?_) ?_ ?_
    rotate_left
    ·show Act.put _ (some 37) _ = _
     simp only [Act.put, ls0_, ls1_, ls2_, i64_w, i32_w]
     rfl
    refine two_ (i := 4) (j := 8) (Ni := some 39) (Nj := some 11) (bs 11 5) (bm 11 271) rfl rfl rfl rfl (two_of HT_.out (by kernel_rfl)) (by decide) (by decide) (fun K hK => ?_) (fun K hK => ?_)
    ·skip
     refine gs_ Try.func42 #[.agg #[.int .i64 t417, .int .i64 t418, .int .i64 t419, .int .i64 t420, .slice Ao44 t421.length co44], .agg #[.int .i64 t425, .int .i64 t426, .int .i64 t427], .bool a2] ?_
     with_reducible refine (impl_FairServe.calls k t417 t418 t419 t420 _ _ t421 t425 t426 t427 a2 t428 t429 t430 t431 t432 t435 _ ?side1 ?side2 A16.out).mono ?_
     (case side1 => exact cr_ HO423)
     (case side2 => exact (Kd.R_reads' HO423.out).2.1)
     rintro e w48 ⟨v433, rfl, ho0, hb⟩
     refine ⟨_, rfl, ?_⟩
     have HO434 := Aside0.mk (Kd.R_lower (Kd.R_new' (Kd.R_new' (Kd.R_new' ho0 (Kd.R_lt (kr_ HO404))) (Kd.R_lt (kr_ HO414))) (Kd.R_lt (kr_ HO423))) (below_size (bf_ HB))); replace HO404 := Aside0.mk (Kd.R_elder' (kr_ HO404) (Kd.R_base ho0) hb); replace HO414 := Aside0.mk (Kd.R_elder' (kr_ HO414) (Kd.R_base ho0) hb); replace HO423 := Aside0.mk (Kd.R_elder' (kr_ HO423) (Kd.R_base ho0) hb); replace BK395 := bb_ BK395 hb; replace BK396 := bb_ BK396 hb; replace BK416 := bb_ BK416 hb; replace BK424 := bb_ BK424 hb; replace HB := Aside0.mk (below_step (bf_ HB) hb); (try clear hb); (try clear hb2); (try clear hk); (try clear hi); (try clear ho0)
     refine hK.out _ _ ⟨bt_ BK424 0, bt_ BK424 1, bt_ BK424 2, bt_ BK424 3, bt_ BK424 4, bt_ BK396 0, bt_ BK396 1, bt_ BK396 2⟩ (fun hHeld => ?_)
     clear hK K
     refine norm_ (a' := ?_) ?_ ?_
     rotate_left
     ·show Act.put _ (some 39) _ = _
      simp only [Act.put, ls0_, ls1_, ls2_, i64_w, i32_w]
      rfl
     refine ps_ 5 34 (bs 11 6) HT_ ?_
     refine ps_ 6 40 (bs 11 7) HT_ ?_
     refine ps_ 7 41 (bs 11 8) HT_ ?_
     refine on_ 8 (some 11) (bs 11 9) HT_ (fun K hK => ?_)
     refine box_step ?hg (N := 11) ?hd (cs := #[.int .i64 0, .int .i64 0, .int .i64 0, .int .i64 0, .slice none 0 0]) (t := 32) ?hr ?_; (case hd => rfl); (case hg => rfl); (case hr => first | (go_simp; done) | (go_simp; rfl))
     intro gb436 hg w49 hbox hb
     replace HO404 := Aside0.mk (Kd.R_below (kr_ HO404) hb); replace HO414 := Aside0.mk (Kd.R_below (kr_ HO414) hb); replace HO423 := Aside0.mk (Kd.R_below (kr_ HO423) hb); replace HO434 := Aside0.mk (Kd.R_below (kr_ HO434) hb); have BK436 := Aside0.mk (hbox); have GW436 := gw_ HB hg; have GE436 := gw_ HB hg; replace HB := Aside0.mk (below_step (bf_ HB) hb); have NB395_436 := nl_ BK395 hg; have NB436_395 := ng_ BK395 hg; replace BK395 := bb_ BK395 hb; have NB396_436 := nl_ BK396 hg; have NB436_396 := ng_ BK396 hg; replace BK396 := bb_ BK396 hb; have NB416_436 := nl_ BK416 hg; have NB436_416 := ng_ BK416 hg; replace BK416 := bb_ BK416 hb; have NB424_436 := nl_ BK424 hg; have NB436_424 := ng_ BK424 hg; replace BK424 := bb_ BK424 hb; clear hb hbox hg
     refine hK.out _ _ ⟨bt_ BK424 0, bt_ BK424 1, bt_ BK424 2, bt_ BK424 3, bt_ BK424 4, bt_ BK396 0, bt_ BK396 1, bt_ BK396 2⟩ (fun hHeld => ?_)
     clear hK K
     refine norm_ (a' := ?_) ?_ ?_
     rotate_left
     ·show Act.put _ (some 11) _ = _
      simp only [Act.put, ls0_, ls1_, ls2_, i64_w, i32_w]
      rfl
     exact norm_ (by simp only [putAll, Act.put, ls0_, ls1_, ls2_]) (hCont (v433, gb436) _ ⟨hHeld, (by (with_reducible repeat (first | apply Kd.R_alloc | apply Kd.R_drewN | apply Kd.R_drew)); exact Kd.R_mono HO404.out (fun _ hk => by first | exact ⟨hk.1.1, ⟨hk.1.2, hk.2⟩⟩ | grind)), (by (with_reducible repeat (first | apply Kd.R_alloc | apply Kd.R_drewN | apply Kd.R_drew)); exact Kd.R_mono HO414.out (fun _ hk => by first | exact ⟨hk.1.1, ⟨hk.1.2, hk.2⟩⟩ | grind)), (by (with_reducible repeat (first | apply Kd.R_alloc | apply Kd.R_drewN | apply Kd.R_drew)); exact Kd.R_mono HO423.out (fun _ hk => by first | exact ⟨hk.1.1, ⟨hk.1.2, hk.2⟩⟩ | grind)), (by (with_reducible repeat (first | apply Kd.R_alloc | apply Kd.R_drewN | apply Kd.R_drew)); exact Kd.R_mono HO434.out (fun _ hk => by first | exact ⟨hk.1.1.2, ⟨hk.1.2, hk.2⟩⟩ | grind)), (bk_ BK395), (bk_ BK396), (bk_ BK416), (bk_ BK424), (bk_ BK436), GW436.out, GE436.out, NB395_436.out, NB436_395.out, NB396_436.out, NB436_396.out, NB416_436.out, NB436_416.out, NB424_436.out, NB436_424.out, (bf_ HB)⟩)
    ·skip
     refine box_step ?hg (N := 11) ?hd (cs := #[.int .i64 0, .int .i64 0, .int .i64 0, .int .i64 0, .slice none 0 0]) (t := 32) ?hr ?_; (case hd => rfl); (case hg => rfl); (case hr => first | (go_simp; done) | (go_simp; rfl))
     intro gb436 hg w48 hbox hb
     replace HO404 := Aside0.mk (Kd.R_below (kr_ HO404) hb); replace HO414 := Aside0.mk (Kd.R_below (kr_ HO414) hb); replace HO423 := Aside0.mk (Kd.R_below (kr_ HO423) hb); have BK436 := Aside0.mk (hbox); have GW436 := gw_ HB hg; have GE436 := gw_ HB hg; replace HB := Aside0.mk (below_step (bf_ HB) hb); have NB395_436 := nl_ BK395 hg; have NB436_395 := ng_ BK395 hg; replace BK395 := bb_ BK395 hb; have NB396_436 := nl_ BK396 hg; have NB436_396 := ng_ BK396 hg; replace BK396 := bb_ BK396 hb; have NB416_436 := nl_ BK416 hg; have NB436_416 := ng_ BK416 hg; replace BK416 := bb_ BK416 hb; have NB424_436 := nl_ BK424 hg; have NB436_424 := ng_ BK424 hg; replace BK424 := bb_ BK424 hb; clear hb hbox hg
     refine hK.out _ _ ⟨bt_ BK424 0, bt_ BK424 1, bt_ BK424 2, bt_ BK424 3, bt_ BK424 4, bt_ BK396 0, bt_ BK396 1, bt_ BK396 2⟩ (fun hHeld => ?_)
     clear hK K
     refine norm_ (a' := ?_) ?_ ?_
     rotate_left
     ·show Act.put _ (some 11) _ = _
      simp only [Act.put, ls0_, ls1_, ls2_, i64_w, i32_w]
      rfl
     refine on_ 4 (some 39) (bm 11 287) HT_ (fun K hK => ?_)
     refine gs_ Try.func42 #[.agg #[.int .i64 t417, .int .i64 t418, .int .i64 t419, .int .i64 t420, .slice Ao44 t421.length co44], .agg #[.int .i64 t425, .int .i64 t426, .int .i64 t427], .bool a2] ?_
     with_reducible refine (impl_FairServe.calls k t417 t418 t419 t420 _ _ t421 t425 t426 t427 a2 t428 t429 t430 t431 t432 t435 _ ?side1 ?side2 A16.out).mono ?_
     (case side1 => exact cr_ HO423)
     (case side2 => exact (Kd.R_reads' HO423.out).2.1)
     rintro e w49 ⟨v433, rfl, ho0, hb⟩
     refine ⟨_, rfl, ?_⟩
     have HO434 := Aside0.mk (Kd.R_lower (Kd.R_new' (Kd.R_new' (Kd.R_new' ho0 (Kd.R_lt (kr_ HO404))) (Kd.R_lt (kr_ HO414))) (Kd.R_lt (kr_ HO423))) (below_size (bf_ HB))); replace HO404 := Aside0.mk (Kd.R_elder' (kr_ HO404) (Kd.R_base ho0) hb); replace HO414 := Aside0.mk (Kd.R_elder' (kr_ HO414) (Kd.R_base ho0) hb); replace HO423 := Aside0.mk (Kd.R_elder' (kr_ HO423) (Kd.R_base ho0) hb); replace BK395 := bb_ BK395 hb; replace BK396 := bb_ BK396 hb; replace BK416 := bb_ BK416 hb; replace BK424 := bb_ BK424 hb; replace BK436 := bb_ BK436 hb; replace HB := Aside0.mk (below_step (bf_ HB) hb); (try clear hb); (try clear hb2); (try clear hk); (try clear hi); (try clear ho0)
     refine hK.out _ _ ⟨bt_ BK424 0, bt_ BK424 1, bt_ BK424 2, bt_ BK424 3, bt_ BK424 4, bt_ BK396 0, bt_ BK396 1, bt_ BK396 2⟩ (fun hHeld => ?_)
     clear hK K
     refine norm_ (a' := ?_) ?_ ?_
     rotate_left
     ·show Act.put _ (some 39) _ = _
      simp only [Act.put, ls0_, ls1_, ls2_, i64_w, i32_w]
      rfl
     refine ps_ 5 34 (bm 11 319) HT_ ?_
     refine ps_ 6 40 (bm 11 383) HT_ ?_
     refine ps_ 7 41 (bs 11 9) HT_ ?_
     exact norm_ (by simp only [putAll, Act.put, ls0_, ls1_, ls2_]) (hCont (v433, gb436) _ ⟨hHeld, (by (with_reducible repeat (first | apply Kd.R_alloc | apply Kd.R_drewN | apply Kd.R_drew)); exact Kd.R_mono HO404.out (fun _ hk => by first | exact ⟨hk.1.1, ⟨hk.1.2, hk.2⟩⟩ | grind)), (by (with_reducible repeat (first | apply Kd.R_alloc | apply Kd.R_drewN | apply Kd.R_drew)); exact Kd.R_mono HO414.out (fun _ hk => by first | exact ⟨hk.1.1, ⟨hk.1.2, hk.2⟩⟩ | grind)), (by (with_reducible repeat (first | apply Kd.R_alloc | apply Kd.R_drewN | apply Kd.R_drew)); exact Kd.R_mono HO423.out (fun _ hk => by first | exact ⟨hk.1.1, ⟨hk.1.2, hk.2⟩⟩ | grind)), (by (with_reducible repeat (first | apply Kd.R_alloc | apply Kd.R_drewN | apply Kd.R_drew)); exact Kd.R_mono HO434.out (fun _ hk => by first | exact ⟨hk.1.1.2, ⟨hk.1.2, hk.2⟩⟩ | grind)), (bk_ BK395), (bk_ BK396), (bk_ BK416), (bk_ BK424), (bk_ BK436), GW436.out, GE436.out, NB395_436.out, NB436_395.out, NB396_436.out, NB436_396.out, NB416_436.out, NB436_416.out, NB424_436.out, NB436_424.out, (bf_ HB)⟩)
   ·skip
    refine box_step ?hg (N := 11) ?hd (cs := #[.int .i64 0, .int .i64 0, .int .i64 0, .int .i64 0, .slice none 0 0]) (t := 32) ?hr ?_; (case hd => rfl); (case hg => rfl); (case hr => first | (go_simp; done) | (go_simp; rfl))
    intro gb436 hg w47 hbox hb
    replace HO404 := Aside0.mk (Kd.R_below (kr_ HO404) hb); replace HO414 := Aside0.mk (Kd.R_below (kr_ HO414) hb); replace HO423 := Aside0.mk (Kd.R_below (kr_ HO423) hb); have BK436 := Aside0.mk (hbox); have GW436 := gw_ HB hg; have GE436 := gw_ HB hg; replace HB := Aside0.mk (below_step (bf_ HB) hb); have NB395_436 := nl_ BK395 hg; have NB436_395 := ng_ BK395 hg; replace BK395 := bb_ BK395 hb; have NB396_436 := nl_ BK396 hg; have NB436_396 := ng_ BK396 hg; replace BK396 := bb_ BK396 hb; have NB416_436 := nl_ BK416 hg; have NB436_416 := ng_ BK416 hg; replace BK416 := bb_ BK416 hb; have NB424_436 := nl_ BK424 hg; have NB436_424 := ng_ BK424 hg; replace BK424 := bb_ BK424 hb; clear hb hbox hg
    refine hK.out _ _ ⟨bt_ BK424 0, bt_ BK424 1, bt_ BK424 2, bt_ BK424 3, bt_ BK424 4, bt_ BK396 0, bt_ BK396 1, bt_ BK396 2⟩ (fun hHeld => ?_)
    clear hK K
    refine norm_ (a' := ?_) ?_ ?_
    rotate_left
    ·show Act.put _ (some 11) _ = _
     simp only [Act.put, ls0_, ls1_, ls2_, i64_w, i32_w]
     rfl
    refine on_ 2 (some 37) (bm 11 271) HT_ (fun K hK => ?_)
    refine gs_ Try.func45 #[.agg #[.int .i64 a1_0, .int .i64 a1_1, .int .i64 a1_2]] ?_
    with_reducible refine (laws_toVec.calls a1_0 a1_1 a1_2 t425 t426 t427 _ A15.out).mono ?_
    rintro e w48 ⟨rfl, hb⟩
    refine ⟨_, rfl, ?_⟩
    replace HO404 := Aside0.mk (Kd.R_below (kr_ HO404) hb); replace HO414 := Aside0.mk (Kd.R_below (kr_ HO414) hb); replace HO423 := Aside0.mk (Kd.R_below (kr_ HO423) hb); replace BK395 := bb_ BK395 hb; replace BK396 := bb_ BK396 hb; replace BK416 := bb_ BK416 hb; replace BK424 := bb_ BK424 hb; replace BK436 := bb_ BK436 hb; replace HB := Aside0.mk (below_step (bf_ HB) hb); (try clear hb); (try clear hb2); (try clear hk); (try clear hi)
    refine hK.out _ _ ⟨bt_ BK424 0, bt_ BK424 1, bt_ BK424 2, bt_ BK424 3, bt_ BK424 4, bt_ BK396 0, bt_ BK396 1, bt_ BK396 2⟩ (fun hHeld => ?_)
    clear hK K
    refine norm_ (a' := ?_) ?_ ?_
    rotate_left
    ·show Act.put _ (some 37) _ = _
     simp only [Act.put, ls0_, ls1_, ls2_, i64_w, i32_w]
     rfl
    refine on_ 4 (some 39) (bm 11 287) HT_ (fun K hK => ?_)
    refine gs_ Try.func42 #[.agg #[.int .i64 t417, .int .i64 t418, .int .i64 t419, .int .i64 t420, .slice Ao44 t421.length co44], .agg #[.int .i64 t425, .int .i64 t426, .int .i64 t427], .bool a2] ?_
    with_reducible refine (impl_FairServe.calls k t417 t418 t419 t420 _ _ t421 t425 t426 t427 a2 t428 t429 t430 t431 t432 t435 _ ?side1 ?side2 A16.out).mono ?_
    (case side1 => exact cr_ HO423)
    (case side2 => exact (Kd.R_reads' HO423.out).2.1)
    rintro e w49 ⟨v433, rfl, ho0, hb⟩
    refine ⟨_, rfl, ?_⟩
    have HO434 := Aside0.mk (Kd.R_lower (Kd.R_new' (Kd.R_new' (Kd.R_new' ho0 (Kd.R_lt (kr_ HO404))) (Kd.R_lt (kr_ HO414))) (Kd.R_lt (kr_ HO423))) (below_size (bf_ HB))); replace HO404 := Aside0.mk (Kd.R_elder' (kr_ HO404) (Kd.R_base ho0) hb); replace HO414 := Aside0.mk (Kd.R_elder' (kr_ HO414) (Kd.R_base ho0) hb); replace HO423 := Aside0.mk (Kd.R_elder' (kr_ HO423) (Kd.R_base ho0) hb); replace BK395 := bb_ BK395 hb; replace BK396 := bb_ BK396 hb; replace BK416 := bb_ BK416 hb; replace BK424 := bb_ BK424 hb; replace BK436 := bb_ BK436 hb; replace HB := Aside0.mk (below_step (bf_ HB) hb); (try clear hb); (try clear hb2); (try clear hk); (try clear hi); (try clear ho0)
    refine hK.out _ _ ⟨bt_ BK424 0, bt_ BK424 1, bt_ BK424 2, bt_ BK424 3, bt_ BK424 4, bt_ BK396 0, bt_ BK396 1, bt_ BK396 2⟩ (fun hHeld => ?_)
    clear hK K
    refine norm_ (a' := ?_) ?_ ?_
    rotate_left
    ·show Act.put _ (some 39) _ = _
     simp only [Act.put, ls0_, ls1_, ls2_, i64_w, i32_w]
     rfl
    refine ps_ 5 34 (bm 11 319) HT_ ?_
    refine ps_ 6 40 (bm 11 383) HT_ ?_
    refine ps_ 7 41 (bs 11 9) HT_ ?_
    exact norm_ (by simp only [putAll, Act.put, ls0_, ls1_, ls2_]) (hCont (v433, gb436) _ ⟨hHeld, (by (with_reducible repeat (first | apply Kd.R_alloc | apply Kd.R_drewN | apply Kd.R_drew)); exact Kd.R_mono HO404.out (fun _ hk => by first | exact ⟨hk.1.1, ⟨hk.1.2, hk.2⟩⟩ | grind)), (by (with_reducible repeat (first | apply Kd.R_alloc | apply Kd.R_drewN | apply Kd.R_drew)); exact Kd.R_mono HO414.out (fun _ hk => by first | exact ⟨hk.1.1, ⟨hk.1.2, hk.2⟩⟩ | grind)), (by (with_reducible repeat (first | apply Kd.R_alloc | apply Kd.R_drewN | apply Kd.R_drew)); exact Kd.R_mono HO423.out (fun _ hk => by first | exact ⟨hk.1.1, ⟨hk.1.2, hk.2⟩⟩ | grind)), (by (with_reducible repeat (first | apply Kd.R_alloc | apply Kd.R_drewN | apply Kd.R_drew)); exact Kd.R_mono HO434.out (fun _ hk => by first | exact ⟨hk.1.1.2, ⟨hk.1.2, hk.2⟩⟩ | grind)), (bk_ BK395), (bk_ BK396), (bk_ BK416), (bk_ BK424), (bk_ BK436), GW436.out, GE436.out, NB395_436.out, NB436_395.out, NB396_436.out, NB436_396.out, NB416_436.out, NB436_416.out, NB424_436.out, NB436_424.out, (bf_ HB)⟩)
  rintro ⟨v433, gb436⟩ w50 ⟨hS_, h0_, h1_, h2_, h3_, h4_, h5_, h6_, h7_, h8_, h9_, h10_, h11_, h12_, h13_, h14_, h15_, h16_, h17_, h18_, h19_⟩
  have n0_ : Aside0 (Kd.R k38 38 w50 w.heap.size (fun k_ => some k_ ≠ (.slice Ao34 t412.length co34 : Value).ownBlock ∧ some k_ ≠ (.slice Ao44 t421.length co44 : Value).ownBlock ∧ some k_ ≠ (v433 : Value).ownBlock) v403 t402) := ⟨h0_⟩
  have n1_ : Aside0 (Kd.R k38 38 w50 w.heap.size (fun k_ => some k_ ≠ (v403 : Value).ownBlock ∧ some k_ ≠ (.slice Ao44 t421.length co44 : Value).ownBlock ∧ some k_ ≠ (v433 : Value).ownBlock) (.slice Ao34 t412.length co34) t412) := ⟨h1_⟩
  have n2_ : Aside0 (Kd.R k38 38 w50 w.heap.size (fun k_ => some k_ ≠ (v403 : Value).ownBlock ∧ some k_ ≠ (.slice Ao34 t412.length co34 : Value).ownBlock ∧ some k_ ≠ (v433 : Value).ownBlock) (.slice Ao44 t421.length co44) t421) := ⟨h2_⟩
  have n3_ : Aside0 (Kd.R k38 38 w50 w.heap.size (fun k_ => some k_ ≠ (v403 : Value).ownBlock ∧ some k_ ≠ (.slice Ao34 t412.length co34 : Value).ownBlock ∧ some k_ ≠ (.slice Ao44 t421.length co44 : Value).ownBlock) v433 t432) := ⟨h3_⟩
  have n4_ : Aside0 (w50.heap[gb395]? = some (.cells #[.int .i64 a0_0, .int .i64 a0_1, .int .i64 a0_2, .int .i64 a0_3, .slice A0_4 l0_4.length c0_4] 26 (0, 0))) := ⟨h4_⟩
  have n5_ : Aside0 (w50.heap[gb396]? = some (.cells #[.int .i64 a1_0, .int .i64 a1_1, .int .i64 a1_2] 23 (0, 0))) := ⟨h5_⟩
  have n6_ : Aside0 (w50.heap[gb416]? = some (.cells #[.int .i64 t408, .int .i64 t409, .int .i64 t410, .int .i64 t411, .slice Ao34 t412.length co34] 32 (0, 0))) := ⟨h6_⟩
  have n7_ : Aside0 (w50.heap[gb424]? = some (.cells #[.int .i64 t417, .int .i64 t418, .int .i64 t419, .int .i64 t420, .slice Ao44 t421.length co44] 32 (0, 0))) := ⟨h7_⟩
  have n8_ : Aside0 (w50.heap[gb436]? = some (.cells #[.int .i64 0, .int .i64 0, .int .i64 0, .int .i64 0, .slice none 0 0] 32 (0, 0))) := ⟨h8_⟩
  have n9_ : Aside0 (w.heap.size ≤ gb436) := ⟨h9_⟩
  have n10_ : Aside0 (w.heap.size ≤ gb436) := ⟨h10_⟩
  have n11_ : Aside0 (gb395 ≠ gb436) := ⟨h11_⟩
  have n12_ : Aside0 (gb436 ≠ gb395) := ⟨h12_⟩
  have n13_ : Aside0 (gb396 ≠ gb436) := ⟨h13_⟩
  have n14_ : Aside0 (gb436 ≠ gb396) := ⟨h14_⟩
  have n15_ : Aside0 (gb416 ≠ gb436) := ⟨h15_⟩
  have n16_ : Aside0 (gb436 ≠ gb416) := ⟨h16_⟩
  have n17_ : Aside0 (gb424 ≠ gb436) := ⟨h17_⟩
  have n18_ : Aside0 (gb436 ≠ gb424) := ⟨h18_⟩
  have n19_ : Aside0 (Below w.heap.size w w50) := ⟨h19_⟩
  clear HO404 HO414 HO423 BK395 BK396 BK416 BK424 HB h0_ h1_ h2_ h3_ h4_ h5_ h6_ h7_ h8_ h9_ h10_ h11_ h12_ h13_ h14_ h15_ h16_ h17_ h18_ h19_; have HO404 := n0_; have HO414 := n1_; have HO423 := n2_; have HO434 := n3_; have BK395 := n4_; have BK396 := n5_; have BK416 := n6_; have BK424 := n7_; have BK436 := n8_; have GW436 := n9_; have GE436 := n10_; have NB395_436 := n11_; have NB436_395 := n12_; have NB396_436 := n13_; have NB436_396 := n14_; have NB416_436 := n15_; have NB436_416 := n16_; have NB424_436 := n17_; have NB436_424 := n18_; have HB := n19_; clear n0_ n1_ n2_ n3_ n4_ n5_ n6_ n7_ n8_ n9_ n10_ n11_ n12_ n13_ n14_ n15_ n16_ n17_ n18_ n19_
  have hHeld : w50.cell? ⟨gb424, 0, none⟩ = some (.int .i64 t417) ∧ w50.cell? ⟨gb424, 1, none⟩ = some (.int .i64 t418) ∧ w50.cell? ⟨gb424, 2, none⟩ = some (.int .i64 t419) ∧ w50.cell? ⟨gb424, 3, none⟩ = some (.int .i64 t420) ∧ w50.cell? ⟨gb424, 4, none⟩ = some (.slice Ao44 t421.length co44) ∧ w50.cell? ⟨gb396, 0, none⟩ = some (.int .i64 a1_0) ∧ w50.cell? ⟨gb396, 1, none⟩ = some (.int .i64 a1_1) ∧ w50.cell? ⟨gb396, 2, none⟩ = some (.int .i64 a1_2) := hS_
  obtain ⟨Ao55, co55, eo55⟩ := Kd.R_slice HO434.out
  (first | subst eo55 | (injection eo55 with f1_ f2_ f3_; have f4_ := f1_.symm; have f5_ := f3_.symm; clear f1_ f2_ f3_; subst f4_; subst f5_))
  refine norm_ (a' := ?_) ?_ ?_
  rotate_left
  ·simp only [putAll, Act.put, ls0_, ls1_, ls2_]
   rfl
  refine on_ 9 none (bs 11 10) HT_ (fun K hK => ?_)
  have hs51 := bc_ BK436 0 (.int .i64 0) rfl; have hfs51 := blk_frozen BK436.out 0; have hns51_0 := NB395_436.out; have hns51_1 := NB396_436.out; have hns51_2 := NB416_436.out; have hns51_3 := NB424_436.out; have hms51_0 := NB436_395.out; have hms51_1 := NB436_396.out; have hms51_2 := NB436_416.out; have hms51_3 := NB436_424.out; have hs52 := bc_ BK436 1 (.int .i64 0) rfl; have hfs52 := blk_frozen BK436.out 1; have hns52_0 := NB395_436.out; have hns52_1 := NB396_436.out; have hns52_2 := NB416_436.out; have hns52_3 := NB424_436.out; have hms52_0 := NB436_395.out; have hms52_1 := NB436_396.out; have hms52_2 := NB436_416.out; have hms52_3 := NB436_424.out; have hs53 := bc_ BK436 2 (.int .i64 0) rfl; have hfs53 := blk_frozen BK436.out 2; have hns53_0 := NB395_436.out; have hns53_1 := NB396_436.out; have hns53_2 := NB416_436.out; have hns53_3 := NB424_436.out; have hms53_0 := NB436_395.out; have hms53_1 := NB436_396.out; have hms53_2 := NB436_416.out; have hms53_3 := NB436_424.out; have hs54 := bc_ BK436 3 (.int .i64 0) rfl; have hfs54 := blk_frozen BK436.out 3; have hns54_0 := NB395_436.out; have hns54_1 := NB396_436.out; have hns54_2 := NB416_436.out; have hns54_3 := NB424_436.out; have hms54_0 := NB436_395.out; have hms54_1 := NB436_396.out; have hms54_2 := NB436_416.out; have hms54_3 := NB436_424.out; have hs56 := bc_ BK436 4 (.slice none 0 0) rfl; have hfs56 := blk_frozen BK436.out 4; have hns56_0 := NB395_436.out; have hns56_1 := NB396_436.out; have hns56_2 := NB416_436.out; have hns56_3 := NB424_436.out; have hms56_0 := NB436_395.out; have hms56_1 := NB436_396.out; have hms56_2 := NB436_416.out; have hms56_3 := NB436_424.out
  refine skip_ (w1 := ?_) (by rfl) rfl ?_ ?_
  rotate_left
  ·go_simp
   rfl
  refine hK.out _ _ ⟨(cf5_ NB424_436.out hHeld.1), (cf5_ NB424_436.out hHeld.2.1), (cf5_ NB424_436.out hHeld.2.2.1), (cf5_ NB424_436.out hHeld.2.2.2.1), (cf5_ NB424_436.out hHeld.2.2.2.2.1), (cf5_ NB396_436.out hHeld.2.2.2.2.2.1), (cf5_ NB396_436.out hHeld.2.2.2.2.2.2.1), (cf5_ NB396_436.out hHeld.2.2.2.2.2.2.2)⟩ (fun hHeld => ?_)
  clear hK K
  refine ps_ 10 12 (bs 11 11) HT_ ?_
  refine done_ (done_of HT_.out (by kernel_rfl)) ?_
  go_upto_region 8 with (fail)
  go_cut [50] (fun v50 wc => ∃ (kq : Nat) (x50_16 : Bool), v50 = .bool x50_16 ∧ Aside0 (laws_FnExactFairServe.j0 kq a2 t415 t435 x50_16 a0_0 a0_1 a0_2 a0_3 l0_4 a1_0 a1_1 a1_2 t408 t409 t410 t411 t412 t417 t418 t419 t420 t421 t428 t429 t430 t431 t432 = some r) ∧ Aside0 (kq ≤ k) ∧ Aside0 (Kd.R k38 38 wc w.heap.size (fun k_ => some k_ ≠ ((.slice Ao44 t421.length co44) : Value).ownBlock ∧ some k_ ≠ ((.slice Ao55 t432.length co55) : Value).ownBlock) (.slice Ao34 t412.length co34) t412) ∧ Aside0 (Kd.R k38 38 wc w.heap.size (fun k_ => some k_ ≠ ((.slice Ao34 t412.length co34) : Value).ownBlock ∧ some k_ ≠ ((.slice Ao55 t432.length co55) : Value).ownBlock) (.slice Ao44 t421.length co44) t421) ∧ Aside0 (Kd.R k38 38 wc w.heap.size (fun k_ => some k_ ≠ ((.slice Ao34 t412.length co34) : Value).ownBlock ∧ some k_ ≠ ((.slice Ao44 t421.length co44) : Value).ownBlock) (.slice Ao55 t432.length co55) t432) ∧ Aside0 (wc.heap[gb395]? = some (.cells #[.int .i64 a0_0, .int .i64 a0_1, .int .i64 a0_2, .int .i64 a0_3, (.slice A0_4 l0_4.length c0_4)] 26 (0, 0))) ∧ Aside0 (wc.heap[gb396]? = some (.cells #[.int .i64 a1_0, .int .i64 a1_1, .int .i64 a1_2] 23 (0, 0))) ∧ Aside0 (wc.heap[gb416]? = some (.cells #[.int .i64 t408, .int .i64 t409, .int .i64 t410, .int .i64 t411, (.slice Ao34 t412.length co34)] 32 (0, 0))) ∧ Aside0 (wc.heap[gb424]? = some (.cells #[.int .i64 t417, .int .i64 t418, .int .i64 t419, .int .i64 t420, (.slice Ao44 t421.length co44)] 32 (0, 0))) ∧ Aside0 (wc.heap[gb436]? = some (.cells #[.int .i64 t428, .int .i64 t429, .int .i64 t430, .int .i64 t431, (.slice Ao55 t432.length co55)] 32 (0, 0))) ∧ Aside0 (Below w.heap.size w wc))
  case first =>
   have H := HC17.out
   clear HC17
   replace H := Option.bind_eq_some_iff.mp H
   obtain ⟨t437, A570, H⟩ := H
   replace H : (if t437 = true then (laws_FnExactFairServe.j0 k a2 t415 t435 (t435 != t415) a0_0 a0_1 a0_2 a0_3 l0_4 a1_0 a1_1 a1_2 t408 t409 t410 t411 t412 t417 t418 t419 t420 t421 t428 t429 t430 t431 t432) else (laws_FnExactFairServe.j0 k a2 t415 t435 true a0_0 a0_1 a0_2 a0_3 l0_4 a1_0 a1_1 a1_2 t408 t409 t410 t411 t412 t417 t418 t419 t420 t421 t428 t429 t430 t431 t432)) = some r := H
   have A57 := Aside0.mk A570
   clear A570
   by_cases c58 : t437 = true
   ·subst c58
    have H1 : (laws_FnExactFairServe.j0 k a2 t415 t435 (t435 != t415) a0_0 a0_1 a0_2 a0_3 l0_4 a1_0 a1_1 a1_2 t408 t409 t410 t411 t412 t417 t418 t419 t420 t421 t428 t429 t430 t431 t432) = some r := by rw [if_pos rfl] at H; exact H
    clear H
    have H := H1
    clear H1
    have H' := Aside0.mk H
    clear H; have hnb59 := NB436_395.out; have hnc59 := NB395_436.out; have hnb60 := NB436_396.out; have hnc60 := NB396_436.out; have hnb61 := NB436_416.out; have hnc61 := NB416_436.out; have hnb62 := NB436_424.out; have hnc62 := NB424_436.out; obtain ⟨hcz63_0, hcz63_1, hcz63_2, hcz63_3, hcz63_4, hfz63_0, hfz63_1, hfz63_2, hfz63_3, hfz63_4⟩ := bz5_ BK436; have hnb64 := NB416_395.out; have hnc64 := NB395_416.out; have hnb65 := NB416_396.out; have hnc65 := NB396_416.out; have hnb66 := NB416_424.out; have hnc66 := NB424_416.out; obtain ⟨hcz67_0, hcz67_1, hcz67_2, hcz67_3, hcz67_4, hfz67_0, hfz67_1, hfz67_2, hfz67_3, hfz67_4⟩ := bz5_ BK416
    go_wp2_with (first | ((with_reducible refine gc_ 19 rfl ?_); refine gl_ 44 Try.func19 #[.agg #[.int .i64 t428, .int .i64 t429, .int .i64 t430, .int .i64 t431, .slice Ao55 t432.length co55], .agg #[.int .i64 t408, .int .i64 t409, .int .i64 t410, .int .i64 t411, .slice Ao34 t412.length co34]] ?_; (with_reducible refine (laws_eqFair.calls k t428 t429 t430 t431 _ _ t432 t408 t409 t410 t411 _ _ t412 true _ ?side1 ?side2 ?side3 ?side4 A57.out).mono ?_); (case side1 => refine (Kd.R_reads' (e := 38) (base := w.heap.size) (ok := fun k_ => (some k_ ≠ (v403 : Value).ownBlock ∧ (some k_ ≠ (.slice Ao34 t412.length co34 : Value).ownBlock ∧ some k_ ≠ (.slice Ao44 t421.length co44 : Value).ownBlock))) (n := t432.length) (c := co55) ?_).2.2; exact (by (with_reducible repeat (first | apply Kd.R_alloc | apply Kd.R_drewN | apply Kd.R_drew)); exact (rf5_ HO434 BK436 (.int .i64 t428) (.int .i64 t429) (.int .i64 t430) (.int .i64 t431) (.slice Ao55 t432.length co55)))); (case side2 => exact (Kd.R_reads' HO434.out).2.1); (case side3 => refine (Kd.R_reads' (e := 38) (base := w.heap.size) (ok := fun k_ => (some k_ ≠ (v403 : Value).ownBlock ∧ (some k_ ≠ (.slice Ao44 t421.length co44 : Value).ownBlock ∧ some k_ ≠ (.slice Ao55 t432.length co55 : Value).ownBlock))) (n := t412.length) (c := co34) ?_).2.2; exact (by (with_reducible repeat (first | apply Kd.R_alloc | apply Kd.R_drewN | apply Kd.R_drew)); exact (rf5_ HO414 BK436 (.int .i64 t428) (.int .i64 t429) (.int .i64 t430) (.int .i64 t431) (.slice Ao55 t432.length co55)))); (case side4 => exact (Kd.R_reads' HO414.out).2.1); rintro e w68 ⟨rfl, hb⟩; refine ⟨_, rfl, ?_⟩; replace HO404 := Aside0.mk (Kd.R_below (by (with_reducible repeat (first | apply Kd.R_alloc | apply Kd.R_drewN | apply Kd.R_drew)); exact (rf5_ HO404 BK436 (.int .i64 t428) (.int .i64 t429) (.int .i64 t430) (.int .i64 t431) (.slice Ao55 t432.length co55))) hb); replace HO414 := Aside0.mk (Kd.R_below (by (with_reducible repeat (first | apply Kd.R_alloc | apply Kd.R_drewN | apply Kd.R_drew)); exact (rf5_ HO414 BK436 (.int .i64 t428) (.int .i64 t429) (.int .i64 t430) (.int .i64 t431) (.slice Ao55 t432.length co55))) hb); replace HO423 := Aside0.mk (Kd.R_below (by (with_reducible repeat (first | apply Kd.R_alloc | apply Kd.R_drewN | apply Kd.R_drew)); exact (rf5_ HO423 BK436 (.int .i64 t428) (.int .i64 t429) (.int .i64 t430) (.int .i64 t431) (.slice Ao55 t432.length co55))) hb); replace HO434 := Aside0.mk (Kd.R_below (by (with_reducible repeat (first | apply Kd.R_alloc | apply Kd.R_drewN | apply Kd.R_drew)); exact (rf5_ HO434 BK436 (.int .i64 t428) (.int .i64 t429) (.int .i64 t430) (.int .i64 t431) (.slice Ao55 t432.length co55))) hb); replace BK395 := bm_ BK395 hb; replace BK396 := bm_ BK396 hb; replace BK416 := bm_ BK416 hb; replace BK424 := bm_ BK424 hb; replace BK436 := Aside0.mk (blk_below (g := gb436) (o := .cells #[.int .i64 t428, .int .i64 t429, .int .i64 t430, .int .i64 t431, .slice Ao55 t432.length co55] 32 (0, 0)) (by (with_reducible repeat (first | refine blk_drewN ?_ _ | refine blk_drew ?_ | refine blk_alloc ?_ _)); refine blk_put (cs := #[.int .i64 t428, .int .i64 t429, .int .i64 t430, .int .i64 t431, .slice none 0 0]) ?_ 4 _ rfl; (with_reducible repeat (first | refine blk_drewN ?_ _ | refine blk_drew ?_ | refine blk_alloc ?_ _)); refine blk_put (cs := #[.int .i64 t428, .int .i64 t429, .int .i64 t430, .int .i64 0, .slice none 0 0]) ?_ 3 _ rfl; (with_reducible repeat (first | refine blk_drewN ?_ _ | refine blk_drew ?_ | refine blk_alloc ?_ _)); refine blk_put (cs := #[.int .i64 t428, .int .i64 t429, .int .i64 0, .int .i64 0, .slice none 0 0]) ?_ 2 _ rfl; (with_reducible repeat (first | refine blk_drewN ?_ _ | refine blk_drew ?_ | refine blk_alloc ?_ _)); refine blk_put (cs := #[.int .i64 t428, .int .i64 0, .int .i64 0, .int .i64 0, .slice none 0 0]) ?_ 1 _ rfl; (with_reducible repeat (first | refine blk_drewN ?_ _ | refine blk_drew ?_ | refine blk_alloc ?_ _)); refine blk_put (cs := #[.int .i64 0, .int .i64 0, .int .i64 0, .int .i64 0, .slice none 0 0]) ?_ 0 _ rfl; exact bk_ BK436) hb); replace HB := Aside0.mk (below_step (bf_ HB) hb); (try clear hb); (try clear hb2); (try clear hk); (try clear hi)))
    go_meet
    case rel => exact ⟨_, ((t435 != t415)), (by first | rfl | (simp; done) | (simp [*]; done)), H', ⟨by first | omega | exact Nat.le_refl _⟩, ⟨by (with_reducible repeat (first | apply Kd.R_alloc | apply Kd.R_drewN | apply Kd.R_drew)); exact Kd.R_mono HO414.out (fun _ hk => by first | exact ⟨hk.2.1, hk.2.2⟩ | grind)⟩, ⟨by (with_reducible repeat (first | apply Kd.R_alloc | apply Kd.R_drewN | apply Kd.R_drew)); exact Kd.R_mono HO423.out (fun _ hk => by first | exact ⟨hk.2.1, hk.2.2⟩ | grind)⟩, ⟨by (with_reducible repeat (first | apply Kd.R_alloc | apply Kd.R_drewN | apply Kd.R_drew)); exact Kd.R_mono HO434.out (fun _ hk => by first | exact ⟨hk.2.1, hk.2.2⟩ | grind)⟩, ⟨bk_ BK395⟩, ⟨bk_ BK396⟩, ⟨bk_ BK416⟩, ⟨bk_ BK424⟩, ⟨bk_ BK436⟩, ⟨bf_ HB⟩⟩
   ·replace c58 := Bool.eq_false_iff.mpr c58
    subst c58
    have H1 : (laws_FnExactFairServe.j0 k a2 t415 t435 true a0_0 a0_1 a0_2 a0_3 l0_4 a1_0 a1_1 a1_2 t408 t409 t410 t411 t412 t417 t418 t419 t420 t421 t428 t429 t430 t431 t432) = some r := by rw [if_neg (show ¬ (false = true) by decide)] at H; exact H
    clear H
    have H := H1
    clear H1
    have H' := Aside0.mk H
    clear H; have hnb69 := NB436_395.out; have hnc69 := NB395_436.out; have hnb70 := NB436_396.out; have hnc70 := NB396_436.out; have hnb71 := NB436_416.out; have hnc71 := NB416_436.out; have hnb72 := NB436_424.out; have hnc72 := NB424_436.out; obtain ⟨hcz73_0, hcz73_1, hcz73_2, hcz73_3, hcz73_4, hfz73_0, hfz73_1, hfz73_2, hfz73_3, hfz73_4⟩ := bz5_ BK436; have hnb74 := NB416_395.out; have hnc74 := NB395_416.out; have hnb75 := NB416_396.out; have hnc75 := NB396_416.out; have hnb76 := NB416_424.out; have hnc76 := NB424_416.out; obtain ⟨hcz77_0, hcz77_1, hcz77_2, hcz77_3, hcz77_4, hfz77_0, hfz77_1, hfz77_2, hfz77_3, hfz77_4⟩ := bz5_ BK416
    go_wp2_with (first | ((with_reducible refine gc_ 19 rfl ?_); refine gl_ 44 Try.func19 #[.agg #[.int .i64 t428, .int .i64 t429, .int .i64 t430, .int .i64 t431, .slice Ao55 t432.length co55], .agg #[.int .i64 t408, .int .i64 t409, .int .i64 t410, .int .i64 t411, .slice Ao34 t412.length co34]] ?_; (with_reducible refine (laws_eqFair.calls k t428 t429 t430 t431 _ _ t432 t408 t409 t410 t411 _ _ t412 false _ ?side1 ?side2 ?side3 ?side4 A57.out).mono ?_); (case side1 => refine (Kd.R_reads' (e := 38) (base := w.heap.size) (ok := fun k_ => (some k_ ≠ (v403 : Value).ownBlock ∧ (some k_ ≠ (.slice Ao34 t412.length co34 : Value).ownBlock ∧ some k_ ≠ (.slice Ao44 t421.length co44 : Value).ownBlock))) (n := t432.length) (c := co55) ?_).2.2; exact (by (with_reducible repeat (first | apply Kd.R_alloc | apply Kd.R_drewN | apply Kd.R_drew)); exact (rf5_ HO434 BK436 (.int .i64 t428) (.int .i64 t429) (.int .i64 t430) (.int .i64 t431) (.slice Ao55 t432.length co55)))); (case side2 => exact (Kd.R_reads' HO434.out).2.1); (case side3 => refine (Kd.R_reads' (e := 38) (base := w.heap.size) (ok := fun k_ => (some k_ ≠ (v403 : Value).ownBlock ∧ (some k_ ≠ (.slice Ao44 t421.length co44 : Value).ownBlock ∧ some k_ ≠ (.slice Ao55 t432.length co55 : Value).ownBlock))) (n := t412.length) (c := co34) ?_).2.2; exact (by (with_reducible repeat (first | apply Kd.R_alloc | apply Kd.R_drewN | apply Kd.R_drew)); exact (rf5_ HO414 BK436 (.int .i64 t428) (.int .i64 t429) (.int .i64 t430) (.int .i64 t431) (.slice Ao55 t432.length co55)))); (case side4 => exact (Kd.R_reads' HO414.out).2.1); rintro e w78 ⟨rfl, hb⟩; refine ⟨_, rfl, ?_⟩; replace HO404 := Aside0.mk (Kd.R_below (by (with_reducible repeat (first | apply Kd.R_alloc | apply Kd.R_drewN | apply Kd.R_drew)); exact (rf5_ HO404 BK436 (.int .i64 t428) (.int .i64 t429) (.int .i64 t430) (.int .i64 t431) (.slice Ao55 t432.length co55))) hb); replace HO414 := Aside0.mk (Kd.R_below (by (with_reducible repeat (first | apply Kd.R_alloc | apply Kd.R_drewN | apply Kd.R_drew)); exact (rf5_ HO414 BK436 (.int .i64 t428) (.int .i64 t429) (.int .i64 t430) (.int .i64 t431) (.slice Ao55 t432.length co55))) hb); replace HO423 := Aside0.mk (Kd.R_below (by (with_reducible repeat (first | apply Kd.R_alloc | apply Kd.R_drewN | apply Kd.R_drew)); exact (rf5_ HO423 BK436 (.int .i64 t428) (.int .i64 t429) (.int .i64 t430) (.int .i64 t431) (.slice Ao55 t432.length co55))) hb); replace HO434 := Aside0.mk (Kd.R_below (by (with_reducible repeat (first | apply Kd.R_alloc | apply Kd.R_drewN | apply Kd.R_drew)); exact (rf5_ HO434 BK436 (.int .i64 t428) (.int .i64 t429) (.int .i64 t430) (.int .i64 t431) (.slice Ao55 t432.length co55))) hb); replace BK395 := bm_ BK395 hb; replace BK396 := bm_ BK396 hb; replace BK416 := bm_ BK416 hb; replace BK424 := bm_ BK424 hb; replace BK436 := Aside0.mk (blk_below (g := gb436) (o := .cells #[.int .i64 t428, .int .i64 t429, .int .i64 t430, .int .i64 t431, .slice Ao55 t432.length co55] 32 (0, 0)) (by (with_reducible repeat (first | refine blk_drewN ?_ _ | refine blk_drew ?_ | refine blk_alloc ?_ _)); refine blk_put (cs := #[.int .i64 t428, .int .i64 t429, .int .i64 t430, .int .i64 t431, .slice none 0 0]) ?_ 4 _ rfl; (with_reducible repeat (first | refine blk_drewN ?_ _ | refine blk_drew ?_ | refine blk_alloc ?_ _)); refine blk_put (cs := #[.int .i64 t428, .int .i64 t429, .int .i64 t430, .int .i64 0, .slice none 0 0]) ?_ 3 _ rfl; (with_reducible repeat (first | refine blk_drewN ?_ _ | refine blk_drew ?_ | refine blk_alloc ?_ _)); refine blk_put (cs := #[.int .i64 t428, .int .i64 t429, .int .i64 0, .int .i64 0, .slice none 0 0]) ?_ 2 _ rfl; (with_reducible repeat (first | refine blk_drewN ?_ _ | refine blk_drew ?_ | refine blk_alloc ?_ _)); refine blk_put (cs := #[.int .i64 t428, .int .i64 0, .int .i64 0, .int .i64 0, .slice none 0 0]) ?_ 1 _ rfl; (with_reducible repeat (first | refine blk_drewN ?_ _ | refine blk_drew ?_ | refine blk_alloc ?_ _)); refine blk_put (cs := #[.int .i64 0, .int .i64 0, .int .i64 0, .int .i64 0, .slice none 0 0]) ?_ 0 _ rfl; exact bk_ BK436) hb); replace HB := Aside0.mk (below_step (bf_ HB) hb); (try clear hb); (try clear hb2); (try clear hk); (try clear hi)))
    go_meet
    case rel => exact ⟨_, (true), (by first | rfl | (simp; done) | (simp [*]; done)), H', ⟨by first | omega | exact Nat.le_refl _⟩, ⟨by (with_reducible repeat (first | apply Kd.R_alloc | apply Kd.R_drewN | apply Kd.R_drew)); exact Kd.R_mono HO414.out (fun _ hk => by first | exact ⟨hk.2.1, hk.2.2⟩ | grind)⟩, ⟨by (with_reducible repeat (first | apply Kd.R_alloc | apply Kd.R_drewN | apply Kd.R_drew)); exact Kd.R_mono HO423.out (fun _ hk => by first | exact ⟨hk.2.1, hk.2.2⟩ | grind)⟩, ⟨by (with_reducible repeat (first | apply Kd.R_alloc | apply Kd.R_drewN | apply Kd.R_drew)); exact Kd.R_mono HO434.out (fun _ hk => by first | exact ⟨hk.2.1, hk.2.2⟩ | grind)⟩, ⟨bk_ BK395⟩, ⟨bk_ BK396⟩, ⟨bk_ BK416⟩, ⟨bk_ BK424⟩, ⟨bk_ BK436⟩, ⟨bf_ HB⟩⟩
  case rest =>
   clear HC17; (try clear c1); (try clear p2); (try clear c4); (try clear c5); (try clear c6); (try clear c7); (try clear c19); (try clear c42); (try clear c45); (try clear c58); (try clear c59); (try clear c60); (try clear c61); (try clear c62); (try clear c64); (try clear c65); (try clear c66); (try clear c69); (try clear c70); (try clear c71); (try clear c72); (try clear c74); (try clear c75); (try clear c76); (try clear hcz63_0 hcz63_1 hcz63_2 hcz63_3 hcz63_4 hfz63_0 hfz63_1 hfz63_2 hfz63_3 hfz63_4); (try clear hcz67_0 hcz67_1 hcz67_2 hcz67_3 hcz67_4 hfz67_0 hfz67_1 hfz67_2 hfz67_3 hfz67_4); (try clear hcz73_0 hcz73_1 hcz73_2 hcz73_3 hcz73_4 hfz73_0 hfz73_1 hfz73_2 hfz73_3 hfz73_4); (try clear hcz77_0 hcz77_1 hcz77_2 hcz77_3 hcz77_4 hfz77_0 hfz77_1 hfz77_2 hfz77_3 hfz77_4)
   obtain ⟨kq, x50_16, rfl, HA, HJ16, HO_417004, HO_425004, HO_437004, BK395, BK396, BK416, BK424, BK436, HB⟩ := hcut
   cases kq with
   | zero => exact absurd HA.out (by simp [laws_FnExactFairServe.j0])
   | succ kj16 =>
    have H := HA.out
    clear HA
    simp only [laws_FnExactFairServe.j0] at H
    by_cases c79 : x50_16 = true
    ·subst c79
     have H1 : (some false) = some r := by rw [if_pos rfl] at H; exact H
     clear H
     have H := H1
     clear H1
     obtain rfl := Option.some.inj H
     go_wp2
     go_ret
     exact ⟨by first | rfl | (simp [errW_none, errW_some] <;> rfl) | (simp [*, errW_none, errW_some] <;> rfl), bf_ HB⟩
    ·replace c79 := Bool.eq_false_iff.mpr c79
     subst c79
     have H1 : ((laws_toFair.f kj16 a0_0 a0_1 a0_2 a0_3 l0_4).bind fun bt438 => ((laws_eqFair.f kj16 t417 t418 t419 t420 t421 bt438.1 bt438.2.1 bt438.2.2.1 bt438.2.2.2.1 bt438.2.2.2.2).bind fun t445 => (if t445 = true then ((laws_markFair.f kj16 t417 t418 t419 t420 t421 1).bind fun bt446 => (if bt446.1 < 0 then (laws_FnExactFairServe.j1 kj16 a2 t415 true a0_0 a0_1 a0_2 a0_3 l0_4 a1_0 a1_1 a1_2 t408 t409 t410 t411 t412 t428 t429 t430 t431 t432) else ((laws_eqFair.f kj16 t428 t429 t430 t431 t432 t408 t409 t410 t411 t412).bind fun t448 => (if t448 = true then (laws_FnExactFairServe.j1 kj16 a2 t415 (t435 != t415) a0_0 a0_1 a0_2 a0_3 l0_4 a1_0 a1_1 a1_2 t408 t409 t410 t411 t412 t428 t429 t430 t431 t432) else (laws_FnExactFairServe.j1 kj16 a2 t415 true a0_0 a0_1 a0_2 a0_3 l0_4 a1_0 a1_1 a1_2 t408 t409 t410 t411 t412 t428 t429 t430 t431 t432))))) else (some false)))) = some r := by rw [if_neg (show ¬ (false = true) by decide)] at H; exact H
     clear H
     have H := H1
     clear H1
     replace H := Option.bind_eq_some_iff.mp H
     obtain ⟨⟨t438, t439, t440, t441, t442⟩, A800, H⟩ := H
     replace H : ((laws_eqFair.f kj16 t417 t418 t419 t420 t421 t438 t439 t440 t441 t442).bind fun t445 => (if t445 = true then ((laws_markFair.f kj16 t417 t418 t419 t420 t421 1).bind fun bt446 => (if bt446.1 < 0 then (laws_FnExactFairServe.j1 kj16 a2 t415 true a0_0 a0_1 a0_2 a0_3 l0_4 a1_0 a1_1 a1_2 t408 t409 t410 t411 t412 t428 t429 t430 t431 t432) else ((laws_eqFair.f kj16 t428 t429 t430 t431 t432 t408 t409 t410 t411 t412).bind fun t448 => (if t448 = true then (laws_FnExactFairServe.j1 kj16 a2 t415 (t435 != t415) a0_0 a0_1 a0_2 a0_3 l0_4 a1_0 a1_1 a1_2 t408 t409 t410 t411 t412 t428 t429 t430 t431 t432) else (laws_FnExactFairServe.j1 kj16 a2 t415 true a0_0 a0_1 a0_2 a0_3 l0_4 a1_0 a1_1 a1_2 t408 t409 t410 t411 t412 t428 t429 t430 t431 t432))))) else (some false))) = some r := H
     have A80 := Aside0.mk A800
     clear A800
     replace H := Option.bind_eq_some_iff.mp H
     obtain ⟨t445, A810, H⟩ := H
     replace H : (if t445 = true then ((laws_markFair.f kj16 t417 t418 t419 t420 t421 1).bind fun bt446 => (if bt446.1 < 0 then (laws_FnExactFairServe.j1 kj16 a2 t415 true a0_0 a0_1 a0_2 a0_3 l0_4 a1_0 a1_1 a1_2 t408 t409 t410 t411 t412 t428 t429 t430 t431 t432) else ((laws_eqFair.f kj16 t428 t429 t430 t431 t432 t408 t409 t410 t411 t412).bind fun t448 => (if t448 = true then (laws_FnExactFairServe.j1 kj16 a2 t415 (t435 != t415) a0_0 a0_1 a0_2 a0_3 l0_4 a1_0 a1_1 a1_2 t408 t409 t410 t411 t412 t428 t429 t430 t431 t432) else (laws_FnExactFairServe.j1 kj16 a2 t415 true a0_0 a0_1 a0_2 a0_3 l0_4 a1_0 a1_1 a1_2 t408 t409 t410 t411 t412 t428 t429 t430 t431 t432))))) else (some false)) = some r := H
     have A81 := Aside0.mk A810
     clear A810
     by_cases c82 : t445 = true
     ·subst c82
      have H1 : ((laws_markFair.f kj16 t417 t418 t419 t420 t421 1).bind fun bt446 => (if bt446.1 < 0 then (laws_FnExactFairServe.j1 kj16 a2 t415 true a0_0 a0_1 a0_2 a0_3 l0_4 a1_0 a1_1 a1_2 t408 t409 t410 t411 t412 t428 t429 t430 t431 t432) else ((laws_eqFair.f kj16 t428 t429 t430 t431 t432 t408 t409 t410 t411 t412).bind fun t448 => (if t448 = true then (laws_FnExactFairServe.j1 kj16 a2 t415 (t435 != t415) a0_0 a0_1 a0_2 a0_3 l0_4 a1_0 a1_1 a1_2 t408 t409 t410 t411 t412 t428 t429 t430 t431 t432) else (laws_FnExactFairServe.j1 kj16 a2 t415 true a0_0 a0_1 a0_2 a0_3 l0_4 a1_0 a1_1 a1_2 t408 t409 t410 t411 t412 t428 t429 t430 t431 t432))))) = some r := by rw [if_pos rfl] at H; exact H
      clear H
      have H := H1
      clear H1
      replace H := Option.bind_eq_some_iff.mp H
      obtain ⟨⟨t446, t447⟩, A830, H⟩ := H
      replace H : (if t446 < 0 then (laws_FnExactFairServe.j1 kj16 a2 t415 true a0_0 a0_1 a0_2 a0_3 l0_4 a1_0 a1_1 a1_2 t408 t409 t410 t411 t412 t428 t429 t430 t431 t432) else ((laws_eqFair.f kj16 t428 t429 t430 t431 t432 t408 t409 t410 t411 t412).bind fun t448 => (if t448 = true then (laws_FnExactFairServe.j1 kj16 a2 t415 (t435 != t415) a0_0 a0_1 a0_2 a0_3 l0_4 a1_0 a1_1 a1_2 t408 t409 t410 t411 t412 t428 t429 t430 t431 t432) else (laws_FnExactFairServe.j1 kj16 a2 t415 true a0_0 a0_1 a0_2 a0_3 l0_4 a1_0 a1_1 a1_2 t408 t409 t410 t411 t412 t428 t429 t430 t431 t432)))) = some r := H
      have A83 := Aside0.mk A830
      clear A830
      have HC84 := Aside0.mk H
      clear H
      try go_wp2
      replace HO_417004 := Aside0.mk (Kd.R_drew HO_417004.out); replace HO_425004 := Aside0.mk (Kd.R_drew HO_425004.out); replace HO_437004 := Aside0.mk (Kd.R_drew HO_437004.out); replace BK395 := Aside0.mk (blk_drew BK395.out); replace BK396 := Aside0.mk (blk_drew BK396.out); replace BK416 := Aside0.mk (blk_drew BK416.out); replace BK424 := Aside0.mk (blk_drew BK424.out); replace BK436 := Aside0.mk (blk_drew BK436.out); replace HB := Aside0.mk (below_drew1 HB.out)
      refine start_ (n := 5) (S := fun w' => cw_ w' gb424 0 (.int .i64 t417) ∧ cw_ w' gb424 1 (.int .i64 t418) ∧ cw_ w' gb424 2 (.int .i64 t419) ∧ cw_ w' gb424 3 (.int .i64 t420) ∧ cw_ w' gb424 4 (.slice Ao44 t421.length co44) ∧ cw_ w' gb395 0 (.int .i64 a0_0) ∧ cw_ w' gb395 1 (.int .i64 a0_1) ∧ cw_ w' gb395 2 (.int .i64 a0_2) ∧ cw_ w' gb395 3 (.int .i64 a0_3) ∧ cw_ w' gb395 4 (.slice A0_4 l0_4.length c0_4)) (ds := []) (bs 5 0) (by kernel_rfl) rfl rfl ⟨bt_ BK424 0, bt_ BK424 1, bt_ BK424 2, bt_ BK424 3, bt_ BK424 4, bt_ BK395 0, bt_ BK395 1, bt_ BK395 2, bt_ BK395 3, bt_ BK395 4⟩ (fun hHeld => ?_)
      generalize wc.drew = w85 at HO_417004 HO_425004 HO_437004 BK395 BK396 BK416 BK424 BK436 HB hHeld ⊢
      refine tk0_ 0 51 (bs 5 1) hHeld ?_
      refine tk0_ 1 52 (bs 5 2) hHeld ?_
      refine on0_ 2 (some 53) (bs 5 3) (fun K hK => ?_)
      refine gs_ Try.func17 #[.agg #[.int .i64 a0_0, .int .i64 a0_1, .int .i64 a0_2, .int .i64 a0_3, .slice A0_4 l0_4.length c0_4]] ?_
      with_reducible refine (laws_toFair.calls kj16 a0_0 a0_1 a0_2 a0_3 _ _ l0_4 t438 t439 t440 t441 t442 _ ?side1 ?side2 A80.out).mono ?_
      (case side1 => repeat (first | exact (Kd.C_below HR0_4.out HB.out) | (with_reducible refine Kd.C_alloc ?_ _) | (with_reducible refine Kd.C_drewN ?_ _) | (with_reducible refine Kd.C_drew ?_)))
      (case side2 => exact HC0_4.out)
      rintro e w86 ⟨v443, rfl, ho0, hb⟩
      refine ⟨_, rfl, ?_⟩
      have HO444 := Aside0.mk (Kd.R_lower (Kd.R_new' (Kd.R_new' (Kd.R_new' ho0 (Kd.R_lt (kr_ HO_417004))) (Kd.R_lt (kr_ HO_425004))) (Kd.R_lt (kr_ HO_437004))) (below_size (bf_ HB))); replace HO_417004 := Aside0.mk (Kd.R_elder' (kr_ HO_417004) (Kd.R_base ho0) hb); replace HO_425004 := Aside0.mk (Kd.R_elder' (kr_ HO_425004) (Kd.R_base ho0) hb); replace HO_437004 := Aside0.mk (Kd.R_elder' (kr_ HO_437004) (Kd.R_base ho0) hb); replace BK395 := bb_ BK395 hb; replace BK396 := bb_ BK396 hb; replace BK416 := bb_ BK416 hb; replace BK424 := bb_ BK424 hb; replace BK436 := bb_ BK436 hb; replace HB := Aside0.mk (below_step (bf_ HB) hb); (try clear hb); (try clear hb2); (try clear hk); (try clear hi); (try clear ho0)
      obtain ⟨Ao87, co87, eo87⟩ := Kd.R_slice HO444.out
      (first | subst eo87 | (injection eo87 with f1_ f2_ f3_; have f4_ := f1_.symm; have f5_ := f3_.symm; clear f1_ f2_ f3_; subst f4_; subst f5_))
      refine hK.out _ _ ⟨bt_ BK424 0, bt_ BK424 1, bt_ BK424 2, bt_ BK424 3, bt_ BK424 4, bt_ BK395 0, bt_ BK395 1, bt_ BK395 2, bt_ BK395 3, bt_ BK395 4⟩ (fun hHeld => ?_)
      clear hK K
      refine norm_ (a' := ?_) ?_ ?_
      rotate_left
      ·show Act.put _ (some 53) _ = _
       simp only [Act.put, ls0_, ls1_, ls2_, i64_w, i32_w]
       rfl
      refine on0_ 3 (some 54) (bs 5 4) (fun K hK => ?_)
      refine gs_ Try.func19 #[.agg #[.int .i64 t417, .int .i64 t418, .int .i64 t419, .int .i64 t420, .slice Ao44 t421.length co44], .agg #[.int .i64 t438, .int .i64 t439, .int .i64 t440, .int .i64 t441, .slice Ao87 t442.length co87]] ?_
      with_reducible refine (laws_eqFair.calls kj16 t417 t418 t419 t420 _ _ t421 t438 t439 t440 t441 _ _ t442 true _ ?side1 ?side2 ?side3 ?side4 A81.out).mono ?_
      (case side1 => exact cr_ HO_425004)
      (case side2 => exact (Kd.R_reads' HO_425004.out).2.1)
      (case side3 => exact cr_ HO444)
      (case side4 => exact (Kd.R_reads' HO444.out).2.1)
      rintro e w88 ⟨rfl, hb⟩
      refine ⟨_, rfl, ?_⟩
      replace HO_417004 := Aside0.mk (Kd.R_below (kr_ HO_417004) hb); replace HO_425004 := Aside0.mk (Kd.R_below (kr_ HO_425004) hb); replace HO_437004 := Aside0.mk (Kd.R_below (kr_ HO_437004) hb); replace HO444 := Aside0.mk (Kd.R_below (kr_ HO444) hb); replace BK395 := bb_ BK395 hb; replace BK396 := bb_ BK396 hb; replace BK416 := bb_ BK416 hb; replace BK424 := bb_ BK424 hb; replace BK436 := bb_ BK436 hb; replace HB := Aside0.mk (below_step (bf_ HB) hb); (try clear hb); (try clear hb2); (try clear hk); (try clear hi)
      refine hK.out _ _ ⟨bt_ BK424 0, bt_ BK424 1, bt_ BK424 2, bt_ BK424 3, bt_ BK424 4, bt_ BK395 0, bt_ BK395 1, bt_ BK395 2, bt_ BK395 3, bt_ BK395 4⟩ (fun hHeld => ?_)
      clear hK K
      refine norm_ (a' := ?_) ?_ ?_
      rotate_left
      ·show Act.put _ (some 54) _ = _
       simp only [Act.put, ls0_, ls1_, ls2_, i64_w, i32_w]
       rfl
      refine ps0_ 4 55 (bs 5 5) ?_
      refine done_ (by kernel_rfl) ?_
      have hnb89 := NB424_395.out; have hnc89 := NB395_424.out; have hnb90 := NB424_396.out; have hnc90 := NB396_424.out; have hnb91 := NB424_416.out; have hnc91 := NB416_424.out; have hnb92 := NB424_436.out; have hnc92 := NB436_424.out; obtain ⟨hcz93_0, hcz93_1, hcz93_2, hcz93_3, hcz93_4, hfz93_0, hfz93_1, hfz93_2, hfz93_3, hfz93_4⟩ := bz5_ BK424
      go_upto_region 14 with (first | ((with_reducible refine gc_ 29 rfl ?_); refine gl_ 58 Try.func29 #[.agg #[.int .i64 t417, .int .i64 t418, .int .i64 t419, .int .i64 t420, .slice Ao44 t421.length co44], .int .i64 1] ?_; (with_reducible refine (laws_markFair.calls kj16 t417 t418 t419 t420 (fun k_ => some k_ = (.slice Ao44 t421.length co44 : Value).ownBlock) (.slice Ao44 t421.length co44) t421 1 t446 t447 w _ ?side1 ?side2 A83.out).mono ?_); (case side1 => repeat (first | (with_reducible first | exact HB.out | apply below_alloc | apply pw_below_drewN | apply below_drew1 | refine below_set ?_ GE395.out | refine below_set ?_ GE396.out | refine below_set ?_ GE416.out | refine below_set ?_ GE424.out | refine below_set ?_ GE436.out) | exact HB.out)); (case side2 => exact Kd.R_tight rfl HO_425004.out); rintro e w94 ⟨rfl, hy0, hb, hkp⟩; refine ⟨_, rfl, ?_⟩; replace HO_417004 := Aside0.mk (Kd.R_mono (ok' := fun k_ => some k_ ≠ (.slice Ao44 t421.length co44 : Value).ownBlock ∧ some k_ ≠ (.slice Ao55 t432.length co55 : Value).ownBlock ∧ some k_ ≠ (.slice Ao87 t442.length co87 : Value).ownBlock) (Kd.R_keptB (HO_417004.out) hkp (fun k_ hk_ hs_ => by first | exact (hk_.1.1) hs_ | grind)) (fun k_ hk_ => by first | exact ⟨hk_.1.1.1, hk_.1.1.2, hk_.1.2⟩ | grind)); replace HO_437004 := Aside0.mk (Kd.R_mono (ok' := fun k_ => some k_ ≠ (.slice Ao34 t412.length co34 : Value).ownBlock ∧ some k_ ≠ (.slice Ao44 t421.length co44 : Value).ownBlock ∧ some k_ ≠ (.slice Ao87 t442.length co87 : Value).ownBlock) (Kd.R_keptB (HO_437004.out) hkp (fun k_ hk_ hs_ => by first | exact (hk_.1.2) hs_ | grind)) (fun k_ hk_ => by first | exact ⟨hk_.1.1.1, hk_.1.1.2, hk_.1.2⟩ | grind)); replace BK395 := Aside0.mk (blk_kept (bk_ BK395) hkp (fun hs_ => (fun e_ => (Kd.R_ne HO_425004.out BK395.out (by decide)) e_) hs_)); replace BK396 := Aside0.mk (blk_kept (bk_ BK396) hkp (fun hs_ => (fun e_ => (Kd.R_ne HO_425004.out BK396.out (by decide)) e_) hs_)); replace BK416 := Aside0.mk (blk_kept (bk_ BK416) hkp (fun hs_ => (fun e_ => (Kd.R_ne HO_425004.out BK416.out (by decide)) e_) hs_)); replace BK424 := Aside0.mk (blk_kept (bk_ BK424) hkp (fun hs_ => (fun e_ => (Kd.R_ne HO_425004.out BK424.out (by decide)) e_) hs_)); replace BK436 := Aside0.mk (blk_kept (bk_ BK436) hkp (fun hs_ => (fun e_ => (Kd.R_ne HO_425004.out BK436.out (by decide)) e_) hs_)); replace HO_425004 := Aside0.mk (Kd.R_reok rfl hy0 (fun k_ e_ => HO_425004.out.1 k_ e_)); replace HO444 := Aside0.mk (Kd.R_mono (ok' := fun k_ => some k_ ≠ (.slice Ao34 t412.length co34 : Value).ownBlock ∧ some k_ ≠ (.slice Ao44 t421.length co44 : Value).ownBlock ∧ some k_ ≠ (.slice Ao55 t432.length co55 : Value).ownBlock) (Kd.R_keptB (HO444.out) hkp (fun k_ hk_ hs_ => by first | exact (hk_.1.2) hs_ | grind)) (fun k_ hk_ => by first | exact ⟨hk_.1.1.1.2, hk_.1.1.2, hk_.1.2⟩ | grind)); replace HB := Aside0.mk (hb); (try clear hb); (try clear hkp); (try clear hy0)))
      (try simp only [Act.put, ls0_, ls1_, ls2_])
      go_cut [71] (fun v71 wc => ∃ (kq : Nat) (x71_83 : Bool), v71 = .bool x71_83 ∧ Aside0 (laws_FnExactFairServe.j1 kq a2 t415 x71_83 a0_0 a0_1 a0_2 a0_3 l0_4 a1_0 a1_1 a1_2 t408 t409 t410 t411 t412 t428 t429 t430 t431 t432 = some r) ∧ Aside0 (kq ≤ kj16) ∧ Aside0 (Kd.R k38 38 wc w.heap.size (fun k_ => some k_ ≠ ((.slice Ao44 t421.length co44) : Value).ownBlock ∧ some k_ ≠ ((.slice Ao55 t432.length co55) : Value).ownBlock) (.slice Ao34 t412.length co34) t412) ∧ Aside0 (Kd.R k38 38 wc w.heap.size (fun k_ => some k_ ≠ ((.slice Ao34 t412.length co34) : Value).ownBlock ∧ some k_ ≠ ((.slice Ao55 t432.length co55) : Value).ownBlock) (.slice Ao44 t421.length co44) t447) ∧ Aside0 (Kd.R k38 38 wc w.heap.size (fun k_ => some k_ ≠ ((.slice Ao34 t412.length co34) : Value).ownBlock ∧ some k_ ≠ ((.slice Ao44 t421.length co44) : Value).ownBlock) (.slice Ao55 t432.length co55) t432) ∧ Aside0 (wc.heap[gb395]? = some (.cells #[.int .i64 a0_0, .int .i64 a0_1, .int .i64 a0_2, .int .i64 a0_3, (.slice A0_4 l0_4.length c0_4)] 26 (0, 0))) ∧ Aside0 (wc.heap[gb396]? = some (.cells #[.int .i64 a1_0, .int .i64 a1_1, .int .i64 a1_2] 23 (0, 0))) ∧ Aside0 (wc.heap[gb416]? = some (.cells #[.int .i64 t408, .int .i64 t409, .int .i64 t410, .int .i64 t411, (.slice Ao34 t412.length co34)] 32 (0, 0))) ∧ Aside0 (wc.heap[gb424]? = some (.cells #[.int .i64 t417, .int .i64 t418, .int .i64 t419, .int .i64 t420, (.slice Ao44 t421.length co44)] 32 (0, 0))) ∧ Aside0 (wc.heap[gb436]? = some (.cells #[.int .i64 t428, .int .i64 t429, .int .i64 t430, .int .i64 t431, (.slice Ao55 t432.length co55)] 32 (0, 0))) ∧ Aside0 (Below w.heap.size w wc))
      case first =>
       have H := HC84.out
       clear HC84
       by_cases c95 : t446 < 0
       ·rw [if_pos c95] at H
        have c95b0 : decide (t446 < 0) = true := decide_eq_true c95
        clear c95
        (first | rw [c95b0] | (simp only [i64_w, i32_w]; rw [c95b0]) | skip)
        have H' := Aside0.mk H
        clear H
        go_wp2
        go_meet
        case rel => exact ⟨_, (true), (by first | rfl | (simp; done) | (simp [*]; done)), H', ⟨by have := HJ16.out; first | omega | exact Nat.le_refl _⟩, ⟨by (with_reducible repeat (first | apply Kd.R_alloc | apply Kd.R_drewN | apply Kd.R_drew)); exact Kd.R_mono HO_417004.out (fun _ hk => by first | exact ⟨hk.1, hk.2.1⟩ | grind)⟩, ⟨by (with_reducible repeat (first | apply Kd.R_alloc | apply Kd.R_drewN | apply Kd.R_drew)); exact Kd.R_mono HO_425004.out (fun _ hk => by first | exact ⟨hk.1.1, hk.1.2⟩ | grind)⟩, ⟨by (with_reducible repeat (first | apply Kd.R_alloc | apply Kd.R_drewN | apply Kd.R_drew)); exact Kd.R_mono HO_437004.out (fun _ hk => by first | exact ⟨hk.1, hk.2.1⟩ | grind)⟩, ⟨bk_ BK395⟩, ⟨bk_ BK396⟩, ⟨bk_ BK416⟩, ⟨bk_ BK424⟩, ⟨bk_ BK436⟩, ⟨bf_ HB⟩⟩
       ·rw [if_neg c95] at H
        have c95b0 : decide (t446 < 0) = false := decide_eq_false c95
        clear c95
        (first | rw [c95b0] | (simp only [i64_w, i32_w]; rw [c95b0]) | skip)
        replace H := Option.bind_eq_some_iff.mp H
        obtain ⟨t448, A960, H⟩ := H
        replace H : (if t448 = true then (laws_FnExactFairServe.j1 kj16 a2 t415 (t435 != t415) a0_0 a0_1 a0_2 a0_3 l0_4 a1_0 a1_1 a1_2 t408 t409 t410 t411 t412 t428 t429 t430 t431 t432) else (laws_FnExactFairServe.j1 kj16 a2 t415 true a0_0 a0_1 a0_2 a0_3 l0_4 a1_0 a1_1 a1_2 t408 t409 t410 t411 t412 t428 t429 t430 t431 t432)) = some r := H
        have A96 := Aside0.mk A960
        clear A960
        by_cases c97 : t448 = true
        ·subst c97
         have H1 : (laws_FnExactFairServe.j1 kj16 a2 t415 (t435 != t415) a0_0 a0_1 a0_2 a0_3 l0_4 a1_0 a1_1 a1_2 t408 t409 t410 t411 t412 t428 t429 t430 t431 t432) = some r := by rw [if_pos rfl] at H; exact H
         clear H
         have H := H1
         clear H1
         have H' := Aside0.mk H
         clear H; have hnb98 := NB436_395.out; have hnc98 := NB395_436.out; have hnb99 := NB436_396.out; have hnc99 := NB396_436.out; have hnb100 := NB436_416.out; have hnc100 := NB416_436.out; have hnb101 := NB436_424.out; have hnc101 := NB424_436.out; obtain ⟨hcz102_0, hcz102_1, hcz102_2, hcz102_3, hcz102_4, hfz102_0, hfz102_1, hfz102_2, hfz102_3, hfz102_4⟩ := bz5_ BK436; have hnb103 := NB416_395.out; have hnc103 := NB395_416.out; have hnb104 := NB416_396.out; have hnc104 := NB396_416.out; have hnb105 := NB416_424.out; have hnc105 := NB424_416.out; obtain ⟨hcz106_0, hcz106_1, hcz106_2, hcz106_3, hcz106_4, hfz106_0, hfz106_1, hfz106_2, hfz106_3, hfz106_4⟩ := bz5_ BK416
         go_wp2_with (first | (go_at_call 19; (with_reducible refine (laws_eqFair.calls kj16 t428 t429 t430 t431 _ _ t432 t408 t409 t410 t411 _ _ t412 true _ ?side1 ?side2 ?side3 ?side4 A96.out).mono ?_); (case side1 => exact cr_ HO_437004); (case side2 => exact (Kd.R_reads' HO_437004.out).2.1); (case side3 => exact cr_ HO_417004); (case side4 => exact (Kd.R_reads' HO_417004.out).2.1); rintro e w107 ⟨rfl, hb⟩; replace HO_417004 := Aside0.mk (Kd.R_below (kr_ HO_417004) hb); replace HO_425004 := Aside0.mk (Kd.R_below (kr_ HO_425004) hb); replace HO_437004 := Aside0.mk (Kd.R_below (kr_ HO_437004) hb); replace HO444 := Aside0.mk (Kd.R_below (kr_ HO444) hb); replace BK395 := bb_ BK395 hb; replace BK396 := bb_ BK396 hb; replace BK416 := bb_ BK416 hb; replace BK424 := bb_ BK424 hb; replace BK436 := bb_ BK436 hb; replace HB := Aside0.mk (below_step (bf_ HB) hb); (try clear hb); (try clear hb2); (try clear hk); (try clear hi)))
         go_meet
         case rel => exact ⟨_, ((t435 != t415)), (by first | rfl | (simp; done) | (simp [*]; done)), H', ⟨by have := HJ16.out; first | omega | exact Nat.le_refl _⟩, ⟨by (with_reducible repeat (first | apply Kd.R_alloc | apply Kd.R_drewN | apply Kd.R_drew)); exact Kd.R_mono HO_417004.out (fun _ hk => by first | exact ⟨hk.1, hk.2.1⟩ | grind)⟩, ⟨by (with_reducible repeat (first | apply Kd.R_alloc | apply Kd.R_drewN | apply Kd.R_drew)); exact Kd.R_mono HO_425004.out (fun _ hk => by first | exact ⟨hk.1.1, hk.1.2⟩ | grind)⟩, ⟨by (with_reducible repeat (first | apply Kd.R_alloc | apply Kd.R_drewN | apply Kd.R_drew)); exact Kd.R_mono HO_437004.out (fun _ hk => by first | exact ⟨hk.1, hk.2.1⟩ | grind)⟩, ⟨bk_ BK395⟩, ⟨bk_ BK396⟩, ⟨bk_ BK416⟩, ⟨bk_ BK424⟩, ⟨bk_ BK436⟩, ⟨bf_ HB⟩⟩
        ·replace c97 := Bool.eq_false_iff.mpr c97
         subst c97
         have H1 : (laws_FnExactFairServe.j1 kj16 a2 t415 true a0_0 a0_1 a0_2 a0_3 l0_4 a1_0 a1_1 a1_2 t408 t409 t410 t411 t412 t428 t429 t430 t431 t432) = some r := by rw [if_neg (show ¬ (false = true) by decide)] at H; exact H
         clear H
         have H := H1
         clear H1
         have H' := Aside0.mk H
         clear H; have hnb108 := NB436_395.out; have hnc108 := NB395_436.out; have hnb109 := NB436_396.out; have hnc109 := NB396_436.out; have hnb110 := NB436_416.out; have hnc110 := NB416_436.out; have hnb111 := NB436_424.out; have hnc111 := NB424_436.out; obtain ⟨hcz112_0, hcz112_1, hcz112_2, hcz112_3, hcz112_4, hfz112_0, hfz112_1, hfz112_2, hfz112_3, hfz112_4⟩ := bz5_ BK436; have hnb113 := NB416_395.out; have hnc113 := NB395_416.out; have hnb114 := NB416_396.out; have hnc114 := NB396_416.out; have hnb115 := NB416_424.out; have hnc115 := NB424_416.out; obtain ⟨hcz116_0, hcz116_1, hcz116_2, hcz116_3, hcz116_4, hfz116_0, hfz116_1, hfz116_2, hfz116_3, hfz116_4⟩ := bz5_ BK416
         go_wp2_with (first | (go_at_call 19; (with_reducible refine (laws_eqFair.calls kj16 t428 t429 t430 t431 _ _ t432 t408 t409 t410 t411 _ _ t412 false _ ?side1 ?side2 ?side3 ?side4 A96.out).mono ?_); (case side1 => exact cr_ HO_437004); (case side2 => exact (Kd.R_reads' HO_437004.out).2.1); (case side3 => exact cr_ HO_417004); (case side4 => exact (Kd.R_reads' HO_417004.out).2.1); rintro e w117 ⟨rfl, hb⟩; replace HO_417004 := Aside0.mk (Kd.R_below (kr_ HO_417004) hb); replace HO_425004 := Aside0.mk (Kd.R_below (kr_ HO_425004) hb); replace HO_437004 := Aside0.mk (Kd.R_below (kr_ HO_437004) hb); replace HO444 := Aside0.mk (Kd.R_below (kr_ HO444) hb); replace BK395 := bb_ BK395 hb; replace BK396 := bb_ BK396 hb; replace BK416 := bb_ BK416 hb; replace BK424 := bb_ BK424 hb; replace BK436 := bb_ BK436 hb; replace HB := Aside0.mk (below_step (bf_ HB) hb); (try clear hb); (try clear hb2); (try clear hk); (try clear hi)))
         go_meet
         case rel => exact ⟨_, (true), (by first | rfl | (simp; done) | (simp [*]; done)), H', ⟨by have := HJ16.out; first | omega | exact Nat.le_refl _⟩, ⟨by (with_reducible repeat (first | apply Kd.R_alloc | apply Kd.R_drewN | apply Kd.R_drew)); exact Kd.R_mono HO_417004.out (fun _ hk => by first | exact ⟨hk.1, hk.2.1⟩ | grind)⟩, ⟨by (with_reducible repeat (first | apply Kd.R_alloc | apply Kd.R_drewN | apply Kd.R_drew)); exact Kd.R_mono HO_425004.out (fun _ hk => by first | exact ⟨hk.1.1, hk.1.2⟩ | grind)⟩, ⟨by (with_reducible repeat (first | apply Kd.R_alloc | apply Kd.R_drewN | apply Kd.R_drew)); exact Kd.R_mono HO_437004.out (fun _ hk => by first | exact ⟨hk.1, hk.2.1⟩ | grind)⟩, ⟨bk_ BK395⟩, ⟨bk_ BK396⟩, ⟨bk_ BK416⟩, ⟨bk_ BK424⟩, ⟨bk_ BK436⟩, ⟨bf_ HB⟩⟩
      case rest =>
       clear HC84; (try clear c1); (try clear c2); (try clear p2 p2); (try clear c4); (try clear c5); (try clear c6); (try clear c7); (try clear c8); (try clear c9); (try clear c10); (try clear c11); (try clear c17); (try clear c19); (try clear c29); (try clear c42); (try clear c45); (try clear c58); (try clear c59); (try clear c60); (try clear c61); (try clear c62); (try clear c64); (try clear c65); (try clear c66); (try clear c69); (try clear c70); (try clear c71); (try clear c72); (try clear c74); (try clear c75); (try clear c76); (try clear c79); (try clear c82); (try clear c89); (try clear c90); (try clear c91); (try clear c92); (try clear c95); (try clear c95b0); (try clear c97); (try clear c98); (try clear c99); (try clear c100); (try clear c101); (try clear c103); (try clear c104); (try clear c105); (try clear c108); (try clear c109); (try clear c110); (try clear c111); (try clear c113); (try clear c114); (try clear c115); (try clear hcz102_0 hcz102_1 hcz102_2 hcz102_3 hcz102_4 hfz102_0 hfz102_1 hfz102_2 hfz102_3 hfz102_4); (try clear hcz106_0 hcz106_1 hcz106_2 hcz106_3 hcz106_4 hfz106_0 hfz106_1 hfz106_2 hfz106_3 hfz106_4); (try clear hcz112_0 hcz112_1 hcz112_2 hcz112_3 hcz112_4 hfz112_0 hfz112_1 hfz112_2 hfz112_3 hfz112_4); (try clear hcz116_0 hcz116_1 hcz116_2 hcz116_3 hcz116_4 hfz116_0 hfz116_1 hfz116_2 hfz116_3 hfz116_4); (try clear hcz63_0 hcz63_1 hcz63_2 hcz63_3 hcz63_4 hfz63_0 hfz63_1 hfz63_2 hfz63_3 hfz63_4); (try clear hcz67_0 hcz67_1 hcz67_2 hcz67_3 hcz67_4 hfz67_0 hfz67_1 hfz67_2 hfz67_3 hfz67_4); (try clear hcz73_0 hcz73_1 hcz73_2 hcz73_3 hcz73_4 hfz73_0 hfz73_1 hfz73_2 hfz73_3 hfz73_4); (try clear hcz77_0 hcz77_1 hcz77_2 hcz77_3 hcz77_4 hfz77_0 hfz77_1 hfz77_2 hfz77_3 hfz77_4); (try clear hcz93_0 hcz93_1 hcz93_2 hcz93_3 hcz93_4 hfz93_0 hfz93_1 hfz93_2 hfz93_3 hfz93_4)
       obtain ⟨kq, x71_83, rfl, HA, HJ83, HO_417004, HO_425004, HO_437004, BK395, BK396, BK416, BK424, BK436, HB⟩ := hcut
       have hl425004_83 := (Kd.R_reads' HO_425004.out).1
       rw [hl425004_83] at HO_425004
       (try simp only [hl425004_83])
       (try simp only [hl425004_83] at BK395)
       (try simp only [hl425004_83] at BK396)
       (try simp only [hl425004_83] at BK416)
       (try simp only [hl425004_83] at BK424)
       (try simp only [hl425004_83] at BK436)
       (try simp only [hl425004_83] at HO_417004)
       (try simp only [hl425004_83] at HO_437004)
       cases kq with
       | zero => exact absurd HA.out (by simp [laws_FnExactFairServe.j1])
       | succ kj83 =>
        have H := HA.out
        clear HA
        simp only [laws_FnExactFairServe.j1] at H
        by_cases c118 : x71_83 = true
        ·subst c118
         have H1 : (some false) = some r := by rw [if_pos rfl] at H; exact H
         clear H
         have H := H1
         clear H1
         obtain rfl := Option.some.inj H
         go_wp2
         go_ret
         exact ⟨by first | rfl | (simp [errW_none, errW_some] <;> rfl) | (simp [*, errW_none, errW_some] <;> rfl), bf_ HB⟩
        ·replace c118 := Bool.eq_false_iff.mpr c118
         subst c118
         have H1 : ((laws_markFair.f kj83 t428 t429 t430 t431 t432 1).bind fun bt449 => ((laws_heldFair.f kj83 t428 t429 t430 t431 bt449.2 1).bind fun t451 => (if t451 < 0 then (some false) else (if t451 = bt449.1 then ((laws_toFair.f kj83 a0_0 a0_1 a0_2 a0_3 l0_4).bind fun bt452 => ((laws_toVec.f a1_0 a1_1 a1_2).bind fun bt459 => ((impl_FairServe.f kj83 bt452.1 bt452.2.1 bt452.2.2.1 bt452.2.2.2.1 bt452.2.2.2.2 bt459.1 bt459.2.1 bt459.2.2 a2).bind fun bt462 => ((laws_eqFair.f kj83 bt462.1 bt462.2.1 bt462.2.2.1 bt462.2.2.2.1 bt462.2.2.2.2.1 t408 t409 t410 t411 t412).bind fun t471 => (if t471 = true then (laws_FnExactFairServe.j2 kj83 bt449.1 (bt462.2.2.2.2.2 != t415) t428 t429 t430 t431 bt449.2) else (laws_FnExactFairServe.j2 kj83 bt449.1 true t428 t429 t430 t431 bt449.2)))))) else (some false))))) = some r := by rw [if_neg (show ¬ (false = true) by decide)] at H; exact H
         clear H
         have H := H1
         clear H1
         replace H := Option.bind_eq_some_iff.mp H
         obtain ⟨⟨t449, t450⟩, A1190, H⟩ := H
         replace H : ((laws_heldFair.f kj83 t428 t429 t430 t431 t450 1).bind fun t451 => (if t451 < 0 then (some false) else (if t451 = t449 then ((laws_toFair.f kj83 a0_0 a0_1 a0_2 a0_3 l0_4).bind fun bt452 => ((laws_toVec.f a1_0 a1_1 a1_2).bind fun bt459 => ((impl_FairServe.f kj83 bt452.1 bt452.2.1 bt452.2.2.1 bt452.2.2.2.1 bt452.2.2.2.2 bt459.1 bt459.2.1 bt459.2.2 a2).bind fun bt462 => ((laws_eqFair.f kj83 bt462.1 bt462.2.1 bt462.2.2.1 bt462.2.2.2.1 bt462.2.2.2.2.1 t408 t409 t410 t411 t412).bind fun t471 => (if t471 = true then (laws_FnExactFairServe.j2 kj83 t449 (bt462.2.2.2.2.2 != t415) t428 t429 t430 t431 t450) else (laws_FnExactFairServe.j2 kj83 t449 true t428 t429 t430 t431 t450)))))) else (some false)))) = some r := H
         have A119 := Aside0.mk A1190
         clear A1190
         replace H := Option.bind_eq_some_iff.mp H
         obtain ⟨t451, A1200, H⟩ := H
         replace H : (if t451 < 0 then (some false) else (if t451 = t449 then ((laws_toFair.f kj83 a0_0 a0_1 a0_2 a0_3 l0_4).bind fun bt452 => ((laws_toVec.f a1_0 a1_1 a1_2).bind fun bt459 => ((impl_FairServe.f kj83 bt452.1 bt452.2.1 bt452.2.2.1 bt452.2.2.2.1 bt452.2.2.2.2 bt459.1 bt459.2.1 bt459.2.2 a2).bind fun bt462 => ((laws_eqFair.f kj83 bt462.1 bt462.2.1 bt462.2.2.1 bt462.2.2.2.1 bt462.2.2.2.2.1 t408 t409 t410 t411 t412).bind fun t471 => (if t471 = true then (laws_FnExactFairServe.j2 kj83 t449 (bt462.2.2.2.2.2 != t415) t428 t429 t430 t431 t450) else (laws_FnExactFairServe.j2 kj83 t449 true t428 t429 t430 t431 t450)))))) else (some false))) = some r := H
         have A120 := Aside0.mk A1200
         clear A1200
         by_cases c121 : t451 < 0
         ·rw [if_pos c121] at H
          have c121b0 : decide (t451 < 0) = true := decide_eq_true c121
          have c121b0l := c121b0
          (try simp only [hl425004_83] at c121b0l)
          clear c121
          obtain rfl := Option.some.inj H
          have hnb122 := NB436_395.out; have hnc122 := NB395_436.out; have hnb123 := NB436_396.out; have hnc123 := NB396_436.out; have hnb124 := NB436_416.out; have hnc124 := NB416_436.out; have hnb125 := NB436_424.out; have hnc125 := NB424_436.out; obtain ⟨hcz126_0, hcz126_1, hcz126_2, hcz126_3, hcz126_4, hfz126_0, hfz126_1, hfz126_2, hfz126_3, hfz126_4⟩ := bz5_ BK436
          go_wp2_with (first | ((with_reducible refine gc_ 29 rfl ?_); refine gl_ 74 Try.func29 #[.agg #[.int .i64 t428, .int .i64 t429, .int .i64 t430, .int .i64 t431, .slice Ao55 t432.length co55], .int .i64 1] ?_; (with_reducible refine (laws_markFair.calls kj83 t428 t429 t430 t431 (fun k_ => some k_ = (.slice Ao55 t432.length co55 : Value).ownBlock) (.slice Ao55 t432.length co55) t432 1 t449 t450 w _ ?side1 ?side2 A119.out).mono ?_); (case side1 => repeat (first | (with_reducible first | exact HB.out | apply below_alloc | apply pw_below_drewN | apply below_drew1 | refine below_set ?_ GE395.out | refine below_set ?_ GE396.out | refine below_set ?_ GE416.out | refine below_set ?_ GE424.out | refine below_set ?_ GE436.out) | exact HB.out)); (case side2 => exact Kd.R_tight rfl HO_437004.out); rintro e w127 ⟨rfl, hy0, hb, hkp⟩; refine ⟨_, rfl, ?_⟩; replace HO_417004 := Aside0.mk (Kd.R_mono (ok' := fun k_ => some k_ ≠ (.slice Ao44 t447.length co44 : Value).ownBlock ∧ some k_ ≠ (.slice Ao55 t432.length co55 : Value).ownBlock) (Kd.R_keptB (HO_417004.out) hkp (fun k_ hk_ hs_ => by first | exact (hk_.2) hs_ | grind)) (fun k_ hk_ => by first | exact ⟨hk_.1.1, hk_.1.2⟩ | grind)); replace HO_425004 := Aside0.mk (Kd.R_mono (ok' := fun k_ => some k_ ≠ (.slice Ao34 t412.length co34 : Value).ownBlock ∧ some k_ ≠ (.slice Ao55 t432.length co55 : Value).ownBlock) (Kd.R_keptB (HO_425004.out) hkp (fun k_ hk_ hs_ => by first | exact (hk_.2) hs_ | grind)) (fun k_ hk_ => by first | exact ⟨hk_.1.1, hk_.1.2⟩ | grind)); replace BK395 := Aside0.mk (blk_kept (bk_ BK395) hkp (fun hs_ => (fun e_ => (Kd.R_ne HO_437004.out BK395.out (by decide)) e_) hs_)); replace BK396 := Aside0.mk (blk_kept (bk_ BK396) hkp (fun hs_ => (fun e_ => (Kd.R_ne HO_437004.out BK396.out (by decide)) e_) hs_)); replace BK416 := Aside0.mk (blk_kept (bk_ BK416) hkp (fun hs_ => (fun e_ => (Kd.R_ne HO_437004.out BK416.out (by decide)) e_) hs_)); replace BK424 := Aside0.mk (blk_kept (bk_ BK424) hkp (fun hs_ => (fun e_ => (Kd.R_ne HO_437004.out BK424.out (by decide)) e_) hs_)); replace BK436 := Aside0.mk (blk_kept (bk_ BK436) hkp (fun hs_ => (fun e_ => (Kd.R_ne HO_437004.out BK436.out (by decide)) e_) hs_)); replace HO_437004 := Aside0.mk (Kd.R_reok rfl hy0 (fun k_ e_ => HO_437004.out.1 k_ e_)); replace HB := Aside0.mk (hb); (try clear hb); (try clear hkp); (try clear hy0); obtain ⟨hcz128_0, hcz128_1, hcz128_2, hcz128_3, hcz128_4, hfz128_0, hfz128_1, hfz128_2, hfz128_3, hfz128_4⟩ := bz5_ BK436) | ((with_reducible refine gc_ 30 rfl ?_); refine goesL_ (some 77) rfl rfl Try.func30 (by kernel_rfl) rfl #[.agg #[.int .i64 t428, .int .i64 t429, .int .i64 t430, .int .i64 t431, .slice Ao55 t450.length co55], .int .i64 1] rfl (by (try simp only [List.map_toArray, List.map_cons, List.map_nil]); first | done | (rw [show t450.length = t432.length from (Kd.R_reads' HO_437004.out).1.symm] <;> rfl) | rfl | (simp only [List.length_drop, List.length_take]; rfl)) ?_; (with_reducible refine (laws_heldFair.calls kj83 t428 t429 t430 t431 _ _ t450 1 t451 _ ?side1 ?side2 A120.out).mono ?_); (case side1 => exact cr_ HO_437004); (case side2 => rw [show t450.length = t432.length from (Kd.R_reads' HO_437004.out).1.symm]; exact (Kd.R_reads' HO_437004.out).2.1); rintro e w129 ⟨rfl, hb⟩; refine ⟨_, rfl, ?_⟩; replace HO_417004 := Aside0.mk (Kd.R_below (kr_ HO_417004) hb); replace HO_425004 := Aside0.mk (Kd.R_below (kr_ HO_425004) hb); replace HO_437004 := Aside0.mk (Kd.R_below (kr_ HO_437004) hb); replace BK395 := bb_ BK395 hb; replace BK396 := bb_ BK396 hb; replace BK416 := bb_ BK416 hb; replace BK424 := bb_ BK424 hb; replace BK436 := bb_ BK436 hb; replace HB := Aside0.mk (below_step (bf_ HB) hb); (try clear hb); (try clear hb2); (try clear hk); (try clear hi)))
          go_ret
          exact ⟨by first | rfl | (simp [errW_none, errW_some] <;> rfl) | (simp [*, errW_none, errW_some] <;> rfl), bf_ HB⟩
         ·rw [if_neg c121] at H
          have c121b0 : decide (t451 < 0) = false := decide_eq_false c121
          have c121b0l := c121b0
          (try simp only [hl425004_83] at c121b0l)
          clear c121
          by_cases c130 : t451 = t449
          ·rw [if_pos c130] at H
           have c130b0 : (t451 == t449) = true := beq_iff_eq.mpr c130
           have c130b0l := c130b0
           (try simp only [hl425004_83] at c130b0l)
           have c130b1 : (t451 != t449) = false := bne_eq_false_iff_eq.mpr c130
           have c130b1l := c130b1
           (try simp only [hl425004_83] at c130b1l)
           clear c130
           replace H := Option.bind_eq_some_iff.mp H
           obtain ⟨⟨t452, t453, t454, t455, t456⟩, A1310, H⟩ := H
           replace H : ((laws_toVec.f a1_0 a1_1 a1_2).bind fun bt459 => ((impl_FairServe.f kj83 t452 t453 t454 t455 t456 bt459.1 bt459.2.1 bt459.2.2 a2).bind fun bt462 => ((laws_eqFair.f kj83 bt462.1 bt462.2.1 bt462.2.2.1 bt462.2.2.2.1 bt462.2.2.2.2.1 t408 t409 t410 t411 t412).bind fun t471 => (if t471 = true then (laws_FnExactFairServe.j2 kj83 t449 (bt462.2.2.2.2.2 != t415) t428 t429 t430 t431 t450) else (laws_FnExactFairServe.j2 kj83 t449 true t428 t429 t430 t431 t450))))) = some r := H
           have A131 := Aside0.mk A1310
           clear A1310
           replace H := Option.bind_eq_some_iff.mp H
           obtain ⟨⟨t459, t460, t461⟩, A1320, H⟩ := H
           replace H : ((impl_FairServe.f kj83 t452 t453 t454 t455 t456 t459 t460 t461 a2).bind fun bt462 => ((laws_eqFair.f kj83 bt462.1 bt462.2.1 bt462.2.2.1 bt462.2.2.2.1 bt462.2.2.2.2.1 t408 t409 t410 t411 t412).bind fun t471 => (if t471 = true then (laws_FnExactFairServe.j2 kj83 t449 (bt462.2.2.2.2.2 != t415) t428 t429 t430 t431 t450) else (laws_FnExactFairServe.j2 kj83 t449 true t428 t429 t430 t431 t450)))) = some r := H
           have A132 := Aside0.mk A1320
           clear A1320
           replace H := Option.bind_eq_some_iff.mp H
           obtain ⟨⟨t462, t463, t464, t465, t466, t469⟩, A1330, H⟩ := H
           replace H : ((laws_eqFair.f kj83 t462 t463 t464 t465 t466 t408 t409 t410 t411 t412).bind fun t471 => (if t471 = true then (laws_FnExactFairServe.j2 kj83 t449 (t469 != t415) t428 t429 t430 t431 t450) else (laws_FnExactFairServe.j2 kj83 t449 true t428 t429 t430 t431 t450))) = some r := H
           have A133 := Aside0.mk A1330
           clear A1330
           have HC134 := Aside0.mk H
           clear H; have hnb135 := NB436_395.out; have hnc135 := NB395_436.out; have hnb136 := NB436_396.out; have hnc136 := NB396_436.out; have hnb137 := NB436_416.out; have hnc137 := NB416_436.out; have hnb138 := NB436_424.out; have hnc138 := NB424_436.out; obtain ⟨hcz139_0, hcz139_1, hcz139_2, hcz139_3, hcz139_4, hfz139_0, hfz139_1, hfz139_2, hfz139_3, hfz139_4⟩ := bz5_ BK436
           try go_wp2_with (first | ((with_reducible refine gc_ 29 rfl ?_); refine gl_ 74 Try.func29 #[.agg #[.int .i64 t428, .int .i64 t429, .int .i64 t430, .int .i64 t431, .slice Ao55 t432.length co55], .int .i64 1] ?_; (with_reducible refine (laws_markFair.calls kj83 t428 t429 t430 t431 (fun k_ => some k_ = (.slice Ao55 t432.length co55 : Value).ownBlock) (.slice Ao55 t432.length co55) t432 1 t449 t450 w _ ?side1 ?side2 A119.out).mono ?_); (case side1 => repeat (first | (with_reducible first | exact HB.out | apply below_alloc | apply pw_below_drewN | apply below_drew1 | refine below_set ?_ GE395.out | refine below_set ?_ GE396.out | refine below_set ?_ GE416.out | refine below_set ?_ GE424.out | refine below_set ?_ GE436.out) | exact HB.out)); (case side2 => exact Kd.R_tight rfl HO_437004.out); rintro e w140 ⟨rfl, hy0, hb, hkp⟩; refine ⟨_, rfl, ?_⟩; replace HO_417004 := Aside0.mk (Kd.R_mono (ok' := fun k_ => some k_ ≠ (.slice Ao44 t447.length co44 : Value).ownBlock ∧ some k_ ≠ (.slice Ao55 t432.length co55 : Value).ownBlock) (Kd.R_keptB (HO_417004.out) hkp (fun k_ hk_ hs_ => by first | exact (hk_.2) hs_ | grind)) (fun k_ hk_ => by first | exact ⟨hk_.1.1, hk_.1.2⟩ | grind)); replace HO_425004 := Aside0.mk (Kd.R_mono (ok' := fun k_ => some k_ ≠ (.slice Ao34 t412.length co34 : Value).ownBlock ∧ some k_ ≠ (.slice Ao55 t432.length co55 : Value).ownBlock) (Kd.R_keptB (HO_425004.out) hkp (fun k_ hk_ hs_ => by first | exact (hk_.2) hs_ | grind)) (fun k_ hk_ => by first | exact ⟨hk_.1.1, hk_.1.2⟩ | grind)); replace BK395 := Aside0.mk (blk_kept (bk_ BK395) hkp (fun hs_ => (fun e_ => (Kd.R_ne HO_437004.out BK395.out (by decide)) e_) hs_)); replace BK396 := Aside0.mk (blk_kept (bk_ BK396) hkp (fun hs_ => (fun e_ => (Kd.R_ne HO_437004.out BK396.out (by decide)) e_) hs_)); replace BK416 := Aside0.mk (blk_kept (bk_ BK416) hkp (fun hs_ => (fun e_ => (Kd.R_ne HO_437004.out BK416.out (by decide)) e_) hs_)); replace BK424 := Aside0.mk (blk_kept (bk_ BK424) hkp (fun hs_ => (fun e_ => (Kd.R_ne HO_437004.out BK424.out (by decide)) e_) hs_)); replace BK436 := Aside0.mk (blk_kept (bk_ BK436) hkp (fun hs_ => (fun e_ => (Kd.R_ne HO_437004.out BK436.out (by decide)) e_) hs_)); replace HO_437004 := Aside0.mk (Kd.R_reok rfl hy0 (fun k_ e_ => HO_437004.out.1 k_ e_)); replace HB := Aside0.mk (hb); (try clear hb); (try clear hkp); (try clear hy0); obtain ⟨hcz141_0, hcz141_1, hcz141_2, hcz141_3, hcz141_4, hfz141_0, hfz141_1, hfz141_2, hfz141_3, hfz141_4⟩ := bz5_ BK436) | ((with_reducible refine gc_ 30 rfl ?_); refine goesL_ (some 77) rfl rfl Try.func30 (by kernel_rfl) rfl #[.agg #[.int .i64 t428, .int .i64 t429, .int .i64 t430, .int .i64 t431, .slice Ao55 t450.length co55], .int .i64 1] rfl (by (try simp only [List.map_toArray, List.map_cons, List.map_nil]); first | done | (rw [show t450.length = t432.length from (Kd.R_reads' HO_437004.out).1.symm] <;> rfl) | rfl | (simp only [List.length_drop, List.length_take]; rfl)) ?_; (with_reducible refine (laws_heldFair.calls kj83 t428 t429 t430 t431 _ _ t450 1 t451 _ ?side1 ?side2 A120.out).mono ?_); (case side1 => exact cr_ HO_437004); (case side2 => rw [show t450.length = t432.length from (Kd.R_reads' HO_437004.out).1.symm]; exact (Kd.R_reads' HO_437004.out).2.1); rintro e w142 ⟨rfl, hb⟩; refine ⟨_, rfl, ?_⟩; replace HO_417004 := Aside0.mk (Kd.R_below (kr_ HO_417004) hb); replace HO_425004 := Aside0.mk (Kd.R_below (kr_ HO_425004) hb); replace HO_437004 := Aside0.mk (Kd.R_below (kr_ HO_437004) hb); replace BK395 := bb_ BK395 hb; replace BK396 := bb_ BK396 hb; replace BK416 := bb_ BK416 hb; replace BK424 := bb_ BK424 hb; replace BK436 := bb_ BK436 hb; replace HB := Aside0.mk (below_step (bf_ HB) hb); (try clear hb); (try clear hb2); (try clear hk); (try clear hi)))
           replace HO_417004 := Aside0.mk (Kd.R_drew HO_417004.out); replace HO_425004 := Aside0.mk (Kd.R_drew HO_425004.out); replace HO_437004 := Aside0.mk (Kd.R_drew HO_437004.out); replace BK395 := Aside0.mk (blk_drew BK395.out); replace BK396 := Aside0.mk (blk_drew BK396.out); replace BK416 := Aside0.mk (blk_drew BK416.out); replace BK424 := Aside0.mk (blk_drew BK424.out); replace BK436 := Aside0.mk (blk_drew BK436.out); replace HB := Aside0.mk (below_drew1 HB.out)
           refine start_ (n := 12) (S := fun w' => cw_ w' gb395 0 (.int .i64 a0_0) ∧ cw_ w' gb395 1 (.int .i64 a0_1) ∧ cw_ w' gb395 2 (.int .i64 a0_2) ∧ cw_ w' gb395 3 (.int .i64 a0_3) ∧ cw_ w' gb395 4 (.slice A0_4 l0_4.length c0_4) ∧ cw_ w' gb396 0 (.int .i64 a1_0) ∧ cw_ w' gb396 1 (.int .i64 a1_1) ∧ cw_ w' gb396 2 (.int .i64 a1_2)) (ds := []) (bs 12 0) (by kernel_rfl) rfl rfl ⟨bt_ BK395 0, bt_ BK395 1, bt_ BK395 2, bt_ BK395 3, bt_ BK395 4, bt_ BK396 0, bt_ BK396 1, bt_ BK396 2⟩ (fun hHeld => ?_); refine with_tabW laws_FnExactFairServe.tab24 laws_FnExactFairServe.bits24 (fun HT_ HW_ => ?_)
           generalize w142.drew = w143 at HO_417004 HO_425004 HO_437004 BK395 BK396 BK416 BK424 BK436 HB hHeld ⊢
           refine ps_ 4 88 (bm 12 16) HT_ ?_
           refine tk_ 0 84 (bm 12 17) HT_ HW_ hHeld ?_
           refine tk_ 2 86 (bm 12 21) HT_ HW_ hHeld ?_
           refine join_ (σ := Value × Value × Nat) 2 (bs 12 10) (fun s_ => [(85, .agg #[.int .i64 t452, .int .i64 t453, .int .i64 t454, .int .i64 t455, s_.1]), (87, .agg #[.int .i64 t459, .int .i64 t460, .int .i64 t461]), (89, .tuple #[.agg #[.int .i64 t462, .int .i64 t463, .int .i64 t464, .int .i64 t465, s_.2.1], .int .i64 t469]), (16, .pointer (some ⟨s_.2.2, 0, none⟩)), (83, .tuple #[.agg #[.int .i64 t462, .int .i64 t463, .int .i64 t464, .int .i64 t465, s_.2.1], .int .i64 t469]), (90, .agg #[.int .i64 t462, .int .i64 t463, .int .i64 t464, .int .i64 t465, s_.2.1]), (91, .int .i64 t469)]) (fun s_ w' => (w'.cell? ⟨gb395, 0, none⟩ = some (.int .i64 a0_0) ∧ w'.cell? ⟨gb395, 1, none⟩ = some (.int .i64 a0_1) ∧ w'.cell? ⟨gb395, 2, none⟩ = some (.int .i64 a0_2) ∧ w'.cell? ⟨gb395, 3, none⟩ = some (.int .i64 a0_3) ∧ w'.cell? ⟨gb395, 4, none⟩ = some (.slice A0_4 l0_4.length c0_4) ∧ w'.cell? ⟨gb396, 0, none⟩ = some (.int .i64 a1_0) ∧ w'.cell? ⟨gb396, 1, none⟩ = some (.int .i64 a1_1) ∧ w'.cell? ⟨gb396, 2, none⟩ = some (.int .i64 a1_2)) ∧ (Kd.R k38 38 w' w.heap.size (fun k_ => some k_ ≠ (s_.2.1 : Value).ownBlock ∧ some k_ ≠ (.slice Ao34 t412.length co34 : Value).ownBlock ∧ some k_ ≠ (.slice Ao44 t447.length co44 : Value).ownBlock ∧ some k_ ≠ (.slice Ao55 t432.length co55 : Value).ownBlock) s_.1 t456) ∧ (Kd.R k38 38 w' w.heap.size (fun k_ => some k_ ≠ (s_.1 : Value).ownBlock ∧ some k_ ≠ (.slice Ao34 t412.length co34 : Value).ownBlock ∧ some k_ ≠ (.slice Ao44 t447.length co44 : Value).ownBlock ∧ some k_ ≠ (.slice Ao55 t432.length co55 : Value).ownBlock) s_.2.1 t466) ∧ (Kd.R k38 38 w' w.heap.size (fun k_ => some k_ ≠ (s_.1 : Value).ownBlock ∧ some k_ ≠ (s_.2.1 : Value).ownBlock ∧ some k_ ≠ (.slice Ao44 t447.length co44 : Value).ownBlock ∧ some k_ ≠ (.slice Ao55 t432.length co55 : Value).ownBlock) (.slice Ao34 t412.length co34) t412) ∧ (Kd.R k38 38 w' w.heap.size (fun k_ => some k_ ≠ (s_.1 : Value).ownBlock ∧ some k_ ≠ (s_.2.1 : Value).ownBlock ∧ some k_ ≠ (.slice Ao34 t412.length co34 : Value).ownBlock ∧ some k_ ≠ (.slice Ao55 t432.length co55 : Value).ownBlock) (.slice Ao44 t447.length co44) t447) ∧ (Kd.R k38 38 w' w.heap.size (fun k_ => some k_ ≠ (s_.1 : Value).ownBlock ∧ some k_ ≠ (s_.2.1 : Value).ownBlock ∧ some k_ ≠ (.slice Ao34 t412.length co34 : Value).ownBlock ∧ some k_ ≠ (.slice Ao44 t447.length co44 : Value).ownBlock) (.slice Ao55 t432.length co55) t450) ∧ (w'.heap[gb395]? = some (.cells #[.int .i64 a0_0, .int .i64 a0_1, .int .i64 a0_2, .int .i64 a0_3, .slice A0_4 l0_4.length c0_4] 26 (0, 0))) ∧ (w'.heap[gb396]? = some (.cells #[.int .i64 a1_0, .int .i64 a1_1, .int .i64 a1_2] 23 (0, 0))) ∧ (w'.heap[gb416]? = some (.cells #[.int .i64 t408, .int .i64 t409, .int .i64 t410, .int .i64 t411, .slice Ao34 t412.length co34] 32 (0, 0))) ∧ (w'.heap[gb424]? = some (.cells #[.int .i64 t417, .int .i64 t418, .int .i64 t419, .int .i64 t420, .slice Ao44 t447.length co44] 32 (0, 0))) ∧ (w'.heap[gb436]? = some (.cells #[.int .i64 t428, .int .i64 t429, .int .i64 t430, .int .i64 t431, .slice Ao55 t432.length co55] 32 (0, 0))) ∧ (w'.heap[s_.2.2]? = some (.cells #[.int .i64 0, .int .i64 0, .int .i64 0, .int .i64 0, .slice none 0 0] 32 (0, 0))) ∧ (w.heap.size ≤ s_.2.2) ∧ (w.heap.size ≤ s_.2.2) ∧ (gb395 ≠ s_.2.2) ∧ (s_.2.2 ≠ gb395) ∧ (gb396 ≠ s_.2.2) ∧ (s_.2.2 ≠ gb396) ∧ (gb416 ≠ s_.2.2) ∧ (s_.2.2 ≠ gb416) ∧ (gb424 ≠ s_.2.2) ∧ (s_.2.2 ≠ gb424) ∧ (gb436 ≠ s_.2.2) ∧ (s_.2.2 ≠ gb436) ∧ (Below w.heap.size w w')) ?_ ?_
           rotate_left
           ·intro hCont
            refine two_ (i := 1) (j := 9) (Ni := some 85) (Nj := some 16) (bm 12 23) (bm 12 533) rfl rfl rfl rfl (two_of HT_.out (by kernel_rfl)) (by decide) (by decide) (fun K hK => ?_) (fun K hK => ?_)
            ·skip
             refine gs_ Try.func17 #[.agg #[.int .i64 a0_0, .int .i64 a0_1, .int .i64 a0_2, .int .i64 a0_3, .slice A0_4 l0_4.length c0_4]] ?_
             with_reducible refine (laws_toFair.calls kj83 a0_0 a0_1 a0_2 a0_3 _ _ l0_4 t452 t453 t454 t455 t456 _ ?side1 ?side2 A131.out).mono ?_
             (case side1 => repeat (first | exact (Kd.C_below HR0_4.out HB.out) | (with_reducible refine Kd.C_alloc ?_ _) | (with_reducible refine Kd.C_drewN ?_ _) | (with_reducible refine Kd.C_drew ?_)))
             (case side2 => exact HC0_4.out)
             rintro e w144 ⟨v457, rfl, ho0, hb⟩
             refine ⟨_, rfl, ?_⟩
             have HO458 := Aside0.mk (Kd.R_lower (Kd.R_new' (Kd.R_new' (Kd.R_new' ho0 (Kd.R_lt (kr_ HO_417004))) (Kd.R_lt (kr_ HO_425004))) (Kd.R_lt (kr_ HO_437004))) (below_size (bf_ HB))); replace HO_417004 := Aside0.mk (Kd.R_elder' (kr_ HO_417004) (Kd.R_base ho0) hb); replace HO_425004 := Aside0.mk (Kd.R_elder' (kr_ HO_425004) (Kd.R_base ho0) hb); replace HO_437004 := Aside0.mk (Kd.R_elder' (kr_ HO_437004) (Kd.R_base ho0) hb); replace BK395 := bb_ BK395 hb; replace BK396 := bb_ BK396 hb; replace BK416 := bb_ BK416 hb; replace BK424 := bb_ BK424 hb; replace BK436 := bb_ BK436 hb; replace HB := Aside0.mk (below_step (bf_ HB) hb); (try clear hb); (try clear hb2); (try clear hk); (try clear hi); (try clear ho0)
             refine hK.out _ _ ⟨bt_ BK395 0, bt_ BK395 1, bt_ BK395 2, bt_ BK395 3, bt_ BK395 4, bt_ BK396 0, bt_ BK396 1, bt_ BK396 2⟩ (fun hHeld => ?_)
             clear hK K
             refine norm_ (a' := ?_) ?_ ?_
             rotate_left
             ·show Act.put _ (some 85) _ = _
              simp only [Act.put, ls0_, ls1_, ls2_, i64_w, i32_w]
              rfl
             refine two_ (i := 3) (j := 9) (Ni := some 87) (Nj := some 16) (bs 12 5) (bm 12 535) rfl rfl rfl rfl (two_of HT_.out (by kernel_rfl)) (by decide) (by decide) (fun K hK => ?_) (fun K hK => ?_)
             ·skip
              refine gs_ Try.func45 #[.agg #[.int .i64 a1_0, .int .i64 a1_1, .int .i64 a1_2]] ?_
              with_reducible refine (laws_toVec.calls a1_0 a1_1 a1_2 t459 t460 t461 _ A132.out).mono ?_
              rintro e w145 ⟨rfl, hb⟩
              refine ⟨_, rfl, ?_⟩
              replace HO_417004 := Aside0.mk (Kd.R_below (kr_ HO_417004) hb); replace HO_425004 := Aside0.mk (Kd.R_below (kr_ HO_425004) hb); replace HO_437004 := Aside0.mk (Kd.R_below (kr_ HO_437004) hb); replace HO458 := Aside0.mk (Kd.R_below (kr_ HO458) hb); replace BK395 := bb_ BK395 hb; replace BK396 := bb_ BK396 hb; replace BK416 := bb_ BK416 hb; replace BK424 := bb_ BK424 hb; replace BK436 := bb_ BK436 hb; replace HB := Aside0.mk (below_step (bf_ HB) hb); (try clear hb); (try clear hb2); (try clear hk); (try clear hi)
              obtain ⟨Ao146, co146, eo146⟩ := Kd.R_slice HO458.out
              (first | subst eo146 | (injection eo146 with f1_ f2_ f3_; have f4_ := f1_.symm; have f5_ := f3_.symm; clear f1_ f2_ f3_; subst f4_; subst f5_))
              refine hK.out _ _ ⟨bt_ BK395 0, bt_ BK395 1, bt_ BK395 2, bt_ BK395 3, bt_ BK395 4, bt_ BK396 0, bt_ BK396 1, bt_ BK396 2⟩ (fun hHeld => ?_)
              clear hK K
              refine norm_ (a' := ?_) ?_ ?_
              rotate_left
              ·show Act.put _ (some 87) _ = _
               simp only [Act.put, ls0_, ls1_, ls2_, i64_w, i32_w]
               rfl
              refine two_ (i := 5) (j := 9) (Ni := some 89) (Nj := some 16) (bs 12 6) (bm 12 543) rfl rfl rfl rfl (two_of HT_.out (by kernel_rfl)) (by decide) (by decide) (fun K hK => ?_) (fun K hK => ?_)
              ·skip
               refine gs_ Try.func42 #[.agg #[.int .i64 t452, .int .i64 t453, .int .i64 t454, .int .i64 t455, .slice Ao146 t456.length co146], .agg #[.int .i64 t459, .int .i64 t460, .int .i64 t461], .bool a2] ?_
               with_reducible refine (impl_FairServe.calls kj83 t452 t453 t454 t455 _ _ t456 t459 t460 t461 a2 t462 t463 t464 t465 t466 t469 _ ?side1 ?side2 A133.out).mono ?_
               (case side1 => exact cr_ HO458)
               (case side2 => exact (Kd.R_reads' HO458.out).2.1)
               rintro e w147 ⟨v467, rfl, ho0, hb⟩
               refine ⟨_, rfl, ?_⟩
               have HO468 := Aside0.mk (Kd.R_lower (Kd.R_new' (Kd.R_new' (Kd.R_new' (Kd.R_new' ho0 (Kd.R_lt (kr_ HO_417004))) (Kd.R_lt (kr_ HO_425004))) (Kd.R_lt (kr_ HO_437004))) (Kd.R_lt (kr_ HO458))) (below_size (bf_ HB))); replace HO_417004 := Aside0.mk (Kd.R_elder' (kr_ HO_417004) (Kd.R_base ho0) hb); replace HO_425004 := Aside0.mk (Kd.R_elder' (kr_ HO_425004) (Kd.R_base ho0) hb); replace HO_437004 := Aside0.mk (Kd.R_elder' (kr_ HO_437004) (Kd.R_base ho0) hb); replace HO458 := Aside0.mk (Kd.R_elder' (kr_ HO458) (Kd.R_base ho0) hb); replace BK395 := bb_ BK395 hb; replace BK396 := bb_ BK396 hb; replace BK416 := bb_ BK416 hb; replace BK424 := bb_ BK424 hb; replace BK436 := bb_ BK436 hb; replace HB := Aside0.mk (below_step (bf_ HB) hb); (try clear hb); (try clear hb2); (try clear hk); (try clear hi); (try clear ho0)
               refine hK.out _ _ ⟨bt_ BK395 0, bt_ BK395 1, bt_ BK395 2, bt_ BK395 3, bt_ BK395 4, bt_ BK396 0, bt_ BK396 1, bt_ BK396 2⟩ (fun hHeld => ?_)
               clear hK K
               refine norm_ (a' := ?_) ?_ ?_
               rotate_left
               ·show Act.put _ (some 89) _ = _
                simp only [Act.put, ls0_, ls1_, ls2_, i64_w, i32_w]
                rfl
               refine ps_ 6 83 (bs 12 7) HT_ ?_
               refine ps_ 7 90 (bs 12 8) HT_ ?_
               refine ps_ 8 91 (bs 12 9) HT_ ?_
               refine on_ 9 (some 16) (bs 12 10) HT_ (fun K hK => ?_)
               refine box_step ?hg (N := 16) ?hd (cs := #[.int .i64 0, .int .i64 0, .int .i64 0, .int .i64 0, .slice none 0 0]) (t := 32) ?hr ?_; (case hd => rfl); (case hg => rfl); (case hr => first | (go_simp; done) | (go_simp; rfl))
               intro gb470 hg w148 hbox hb
               replace HO_417004 := Aside0.mk (Kd.R_below (kr_ HO_417004) hb); replace HO_425004 := Aside0.mk (Kd.R_below (kr_ HO_425004) hb); replace HO_437004 := Aside0.mk (Kd.R_below (kr_ HO_437004) hb); replace HO458 := Aside0.mk (Kd.R_below (kr_ HO458) hb); replace HO468 := Aside0.mk (Kd.R_below (kr_ HO468) hb); have BK470 := Aside0.mk (hbox); have GW470 := gw_ HB hg; have GE470 := gw_ HB hg; replace HB := Aside0.mk (below_step (bf_ HB) hb); have NB395_470 := nl_ BK395 hg; have NB470_395 := ng_ BK395 hg; replace BK395 := bb_ BK395 hb; have NB396_470 := nl_ BK396 hg; have NB470_396 := ng_ BK396 hg; replace BK396 := bb_ BK396 hb; have NB416_470 := nl_ BK416 hg; have NB470_416 := ng_ BK416 hg; replace BK416 := bb_ BK416 hb; have NB424_470 := nl_ BK424 hg; have NB470_424 := ng_ BK424 hg; replace BK424 := bb_ BK424 hb; have NB436_470 := nl_ BK436 hg; have NB470_436 := ng_ BK436 hg; replace BK436 := bb_ BK436 hb; clear hb hbox hg
               refine hK.out _ _ ⟨bt_ BK395 0, bt_ BK395 1, bt_ BK395 2, bt_ BK395 3, bt_ BK395 4, bt_ BK396 0, bt_ BK396 1, bt_ BK396 2⟩ (fun hHeld => ?_)
               clear hK K
               refine norm_ (a' := ?_) ?_ ?_
               rotate_left
               ·show Act.put _ (some 16) _ = _
                simp only [Act.put, ls0_, ls1_, ls2_, i64_w, i32_w]
                rfl
               exact norm_ (by simp only [putAll, Act.put, ls0_, ls1_, ls2_]) (hCont (.slice Ao146 t456.length co146, v467, gb470) _ ⟨hHeld, (by (with_reducible repeat (first | apply Kd.R_alloc | apply Kd.R_drewN | apply Kd.R_drew)); exact Kd.R_mono HO458.out (fun _ hk => by first | exact ⟨hk.2, ⟨hk.1.1.1.2, ⟨hk.1.1.2, hk.1.2⟩⟩⟩ | grind)), (by (with_reducible repeat (first | apply Kd.R_alloc | apply Kd.R_drewN | apply Kd.R_drew)); exact Kd.R_mono HO468.out (fun _ hk => by first | exact ⟨hk.2, ⟨hk.1.1.1.2, ⟨hk.1.1.2, hk.1.2⟩⟩⟩ | grind)), (by (with_reducible repeat (first | apply Kd.R_alloc | apply Kd.R_drewN | apply Kd.R_drew)); exact Kd.R_mono HO_417004.out (fun _ hk => by first | exact ⟨hk.1.2, ⟨hk.2, ⟨hk.1.1.1, hk.1.1.2⟩⟩⟩ | grind)), (by (with_reducible repeat (first | apply Kd.R_alloc | apply Kd.R_drewN | apply Kd.R_drew)); exact Kd.R_mono HO_425004.out (fun _ hk => by first | exact ⟨hk.1.2, ⟨hk.2, ⟨hk.1.1.1, hk.1.1.2⟩⟩⟩ | grind)), (by (with_reducible repeat (first | apply Kd.R_alloc | apply Kd.R_drewN | apply Kd.R_drew)); exact Kd.R_mono HO_437004.out (fun _ hk => by first | exact ⟨hk.1.2, ⟨hk.2, ⟨hk.1.1.1, hk.1.1.2⟩⟩⟩ | grind)), (bk_ BK395), (bk_ BK396), (bk_ BK416), (bk_ BK424), (bk_ BK436), (bk_ BK470), GW470.out, GE470.out, NB395_470.out, NB470_395.out, NB396_470.out, NB470_396.out, NB416_470.out, NB470_416.out, NB424_470.out, NB470_424.out, NB436_470.out, NB470_436.out, (bf_ HB)⟩)
              ·skip
               refine box_step ?hg (N := 16) ?hd (cs := #[.int .i64 0, .int .i64 0, .int .i64 0, .int .i64 0, .slice none 0 0]) (t := 32) ?hr ?_; (case hd => rfl); (case hg => rfl); (case hr => first | (go_simp; done) | (go_simp; rfl))
               intro gb470 hg w146 hbox hb
               replace HO_417004 := Aside0.mk (Kd.R_below (kr_ HO_417004) hb); replace HO_425004 := Aside0.mk (Kd.R_below (kr_ HO_425004) hb); replace HO_437004 := Aside0.mk (Kd.R_below (kr_ HO_437004) hb); replace HO458 := Aside0.mk (Kd.R_below (kr_ HO458) hb); have BK470 := Aside0.mk (hbox); have GW470 := gw_ HB hg; have GE470 := gw_ HB hg; replace HB := Aside0.mk (below_step (bf_ HB) hb); have NB395_470 := nl_ BK395 hg; have NB470_395 := ng_ BK395 hg; replace BK395 := bb_ BK395 hb; have NB396_470 := nl_ BK396 hg; have NB470_396 := ng_ BK396 hg; replace BK396 := bb_ BK396 hb; have NB416_470 := nl_ BK416 hg; have NB470_416 := ng_ BK416 hg; replace BK416 := bb_ BK416 hb; have NB424_470 := nl_ BK424 hg; have NB470_424 := ng_ BK424 hg; replace BK424 := bb_ BK424 hb; have NB436_470 := nl_ BK436 hg; have NB470_436 := ng_ BK436 hg; replace BK436 := bb_ BK436 hb; clear hb hbox hg
               obtain ⟨Ao147, co147, eo147⟩ := Kd.R_slice HO458.out
               (first | subst eo147 | (injection eo147 with f1_ f2_ f3_; have f4_ := f1_.symm; have f5_ := f3_.symm; clear f1_ f2_ f3_; subst f4_; subst f5_))
               refine hK.out _ _ ⟨bt_ BK395 0, bt_ BK395 1, bt_ BK395 2, bt_ BK395 3, bt_ BK395 4, bt_ BK396 0, bt_ BK396 1, bt_ BK396 2⟩ (fun hHeld => ?_)
               clear hK K
               refine norm_ (a' := ?_) ?_ ?_
               rotate_left
               ·show Act.put _ (some 16) _ = _
                simp only [Act.put, ls0_, ls1_, ls2_, i64_w, i32_w]
                rfl
               refine on_ 5 (some 89) (bm 12 575) HT_ (fun K hK => ?_)
               refine gs_ Try.func42 #[.agg #[.int .i64 t452, .int .i64 t453, .int .i64 t454, .int .i64 t455, .slice Ao147 t456.length co147], .agg #[.int .i64 t459, .int .i64 t460, .int .i64 t461], .bool a2] ?_
               with_reducible refine (impl_FairServe.calls kj83 t452 t453 t454 t455 _ _ t456 t459 t460 t461 a2 t462 t463 t464 t465 t466 t469 _ ?side1 ?side2 A133.out).mono ?_
               (case side1 => exact cr_ HO458)
               (case side2 => exact (Kd.R_reads' HO458.out).2.1)
               rintro e w148 ⟨v467, rfl, ho0, hb⟩
               refine ⟨_, rfl, ?_⟩
               have HO468 := Aside0.mk (Kd.R_lower (Kd.R_new' (Kd.R_new' (Kd.R_new' (Kd.R_new' ho0 (Kd.R_lt (kr_ HO_417004))) (Kd.R_lt (kr_ HO_425004))) (Kd.R_lt (kr_ HO_437004))) (Kd.R_lt (kr_ HO458))) (below_size (bf_ HB))); replace HO_417004 := Aside0.mk (Kd.R_elder' (kr_ HO_417004) (Kd.R_base ho0) hb); replace HO_425004 := Aside0.mk (Kd.R_elder' (kr_ HO_425004) (Kd.R_base ho0) hb); replace HO_437004 := Aside0.mk (Kd.R_elder' (kr_ HO_437004) (Kd.R_base ho0) hb); replace HO458 := Aside0.mk (Kd.R_elder' (kr_ HO458) (Kd.R_base ho0) hb); replace BK395 := bb_ BK395 hb; replace BK396 := bb_ BK396 hb; replace BK416 := bb_ BK416 hb; replace BK424 := bb_ BK424 hb; replace BK436 := bb_ BK436 hb; replace BK470 := bb_ BK470 hb; replace HB := Aside0.mk (below_step (bf_ HB) hb); (try clear hb); (try clear hb2); (try clear hk); (try clear hi); (try clear ho0)
               refine hK.out _ _ ⟨bt_ BK395 0, bt_ BK395 1, bt_ BK395 2, bt_ BK395 3, bt_ BK395 4, bt_ BK396 0, bt_ BK396 1, bt_ BK396 2⟩ (fun hHeld => ?_)
               clear hK K
               refine norm_ (a' := ?_) ?_ ?_
               rotate_left
               ·show Act.put _ (some 89) _ = _
                simp only [Act.put, ls0_, ls1_, ls2_, i64_w, i32_w]
                rfl
               refine ps_ 6 83 (bm 12 639) HT_ ?_
               refine ps_ 7 90 (bm 12 767) HT_ ?_
               refine ps_ 8 91 (bs 12 10) HT_ ?_
               exact norm_ (by simp only [putAll, Act.put, ls0_, ls1_, ls2_]) (hCont (.slice Ao147 t456.length co147, v467, gb470) _ ⟨hHeld, (by (with_reducible repeat (first | apply Kd.R_alloc | apply Kd.R_drewN | apply Kd.R_drew)); exact Kd.R_mono HO458.out (fun _ hk => by first | exact ⟨hk.2, ⟨hk.1.1.1.2, ⟨hk.1.1.2, hk.1.2⟩⟩⟩ | grind)), (by (with_reducible repeat (first | apply Kd.R_alloc | apply Kd.R_drewN | apply Kd.R_drew)); exact Kd.R_mono HO468.out (fun _ hk => by first | exact ⟨hk.2, ⟨hk.1.1.1.2, ⟨hk.1.1.2, hk.1.2⟩⟩⟩ | grind)), (by (with_reducible repeat (first | apply Kd.R_alloc | apply Kd.R_drewN | apply Kd.R_drew)); exact Kd.R_mono HO_417004.out (fun _ hk => by first | exact ⟨hk.1.2, ⟨hk.2, ⟨hk.1.1.1, hk.1.1.2⟩⟩⟩ | grind)), (by (with_reducible repeat (first | apply Kd.R_alloc | apply Kd.R_drewN | apply Kd.R_drew)); exact Kd.R_mono HO_425004.out (fun _ hk => by first | exact ⟨hk.1.2, ⟨hk.2, ⟨hk.1.1.1, hk.1.1.2⟩⟩⟩ | grind)), (by (with_reducible repeat (first | apply Kd.R_alloc | apply Kd.R_drewN | apply Kd.R_drew)); exact Kd.R_mono HO_437004.out (fun _ hk => by first | exact ⟨hk.1.2, ⟨hk.2, ⟨hk.1.1.1, hk.1.1.2⟩⟩⟩ | grind)), (bk_ BK395), (bk_ BK396), (bk_ BK416), (bk_ BK424), (bk_ BK436), (bk_ BK470), GW470.out, GE470.out, NB395_470.out, NB470_395.out, NB396_470.out, NB470_396.out, NB416_470.out, NB470_416.out, NB424_470.out, NB470_424.out, NB436_470.out, NB470_436.out, (bf_ HB)⟩)
             ·skip
              refine box_step ?hg (N := 16) ?hd (cs := #[.int .i64 0, .int .i64 0, .int .i64 0, .int .i64 0, .slice none 0 0]) (t := 32) ?hr ?_; (case hd => rfl); (case hg => rfl); (case hr => first | (go_simp; done) | (go_simp; rfl))
              intro gb470 hg w145 hbox hb
              replace HO_417004 := Aside0.mk (Kd.R_below (kr_ HO_417004) hb); replace HO_425004 := Aside0.mk (Kd.R_below (kr_ HO_425004) hb); replace HO_437004 := Aside0.mk (Kd.R_below (kr_ HO_437004) hb); replace HO458 := Aside0.mk (Kd.R_below (kr_ HO458) hb); have BK470 := Aside0.mk (hbox); have GW470 := gw_ HB hg; have GE470 := gw_ HB hg; replace HB := Aside0.mk (below_step (bf_ HB) hb); have NB395_470 := nl_ BK395 hg; have NB470_395 := ng_ BK395 hg; replace BK395 := bb_ BK395 hb; have NB396_470 := nl_ BK396 hg; have NB470_396 := ng_ BK396 hg; replace BK396 := bb_ BK396 hb; have NB416_470 := nl_ BK416 hg; have NB470_416 := ng_ BK416 hg; replace BK416 := bb_ BK416 hb; have NB424_470 := nl_ BK424 hg; have NB470_424 := ng_ BK424 hg; replace BK424 := bb_ BK424 hb; have NB436_470 := nl_ BK436 hg; have NB470_436 := ng_ BK436 hg; replace BK436 := bb_ BK436 hb; clear hb hbox hg
              refine hK.out _ _ ⟨bt_ BK395 0, bt_ BK395 1, bt_ BK395 2, bt_ BK395 3, bt_ BK395 4, bt_ BK396 0, bt_ BK396 1, bt_ BK396 2⟩ (fun hHeld => ?_)
              clear hK K
              refine norm_ (a' := ?_) ?_ ?_
              rotate_left
              ·show Act.put _ (some 16) _ = _
               simp only [Act.put, ls0_, ls1_, ls2_, i64_w, i32_w]
               rfl
              refine on_ 3 (some 87) (bm 12 543) HT_ (fun K hK => ?_)
              refine gs_ Try.func45 #[.agg #[.int .i64 a1_0, .int .i64 a1_1, .int .i64 a1_2]] ?_
              with_reducible refine (laws_toVec.calls a1_0 a1_1 a1_2 t459 t460 t461 _ A132.out).mono ?_
              rintro e w146 ⟨rfl, hb⟩
              refine ⟨_, rfl, ?_⟩
              replace HO_417004 := Aside0.mk (Kd.R_below (kr_ HO_417004) hb); replace HO_425004 := Aside0.mk (Kd.R_below (kr_ HO_425004) hb); replace HO_437004 := Aside0.mk (Kd.R_below (kr_ HO_437004) hb); replace HO458 := Aside0.mk (Kd.R_below (kr_ HO458) hb); replace BK395 := bb_ BK395 hb; replace BK396 := bb_ BK396 hb; replace BK416 := bb_ BK416 hb; replace BK424 := bb_ BK424 hb; replace BK436 := bb_ BK436 hb; replace BK470 := bb_ BK470 hb; replace HB := Aside0.mk (below_step (bf_ HB) hb); (try clear hb); (try clear hb2); (try clear hk); (try clear hi)
              obtain ⟨Ao147, co147, eo147⟩ := Kd.R_slice HO458.out
              (first | subst eo147 | (injection eo147 with f1_ f2_ f3_; have f4_ := f1_.symm; have f5_ := f3_.symm; clear f1_ f2_ f3_; subst f4_; subst f5_))
              refine hK.out _ _ ⟨bt_ BK395 0, bt_ BK395 1, bt_ BK395 2, bt_ BK395 3, bt_ BK395 4, bt_ BK396 0, bt_ BK396 1, bt_ BK396 2⟩ (fun hHeld => ?_)
              clear hK K
              refine norm_ (a' := ?_) ?_ ?_
              rotate_left
              ·show Act.put _ (some 87) _ = _
               simp only [Act.put, ls0_, ls1_, ls2_, i64_w, i32_w]
               rfl
              refine on_ 5 (some 89) (bm 12 575) HT_ (fun K hK => ?_)
              refine gs_ Try.func42 #[.agg #[.int .i64 t452, .int .i64 t453, .int .i64 t454, .int .i64 t455, .slice Ao147 t456.length co147], .agg #[.int .i64 t459, .int .i64 t460, .int .i64 t461], .bool a2] ?_
              with_reducible refine (impl_FairServe.calls kj83 t452 t453 t454 t455 _ _ t456 t459 t460 t461 a2 t462 t463 t464 t465 t466 t469 _ ?side1 ?side2 A133.out).mono ?_
              (case side1 => exact cr_ HO458)
              (case side2 => exact (Kd.R_reads' HO458.out).2.1)
              rintro e w148 ⟨v467, rfl, ho0, hb⟩
              refine ⟨_, rfl, ?_⟩
              have HO468 := Aside0.mk (Kd.R_lower (Kd.R_new' (Kd.R_new' (Kd.R_new' (Kd.R_new' ho0 (Kd.R_lt (kr_ HO_417004))) (Kd.R_lt (kr_ HO_425004))) (Kd.R_lt (kr_ HO_437004))) (Kd.R_lt (kr_ HO458))) (below_size (bf_ HB))); replace HO_417004 := Aside0.mk (Kd.R_elder' (kr_ HO_417004) (Kd.R_base ho0) hb); replace HO_425004 := Aside0.mk (Kd.R_elder' (kr_ HO_425004) (Kd.R_base ho0) hb); replace HO_437004 := Aside0.mk (Kd.R_elder' (kr_ HO_437004) (Kd.R_base ho0) hb); replace HO458 := Aside0.mk (Kd.R_elder' (kr_ HO458) (Kd.R_base ho0) hb); replace BK395 := bb_ BK395 hb; replace BK396 := bb_ BK396 hb; replace BK416 := bb_ BK416 hb; replace BK424 := bb_ BK424 hb; replace BK436 := bb_ BK436 hb; replace BK470 := bb_ BK470 hb; replace HB := Aside0.mk (below_step (bf_ HB) hb); (try clear hb); (try clear hb2); (try clear hk); (try clear hi); (try clear ho0)
              refine hK.out _ _ ⟨bt_ BK395 0, bt_ BK395 1, bt_ BK395 2, bt_ BK395 3, bt_ BK395 4, bt_ BK396 0, bt_ BK396 1, bt_ BK396 2⟩ (fun hHeld => ?_)
              clear hK K
              refine norm_ (a' := ?_) ?_ ?_
              rotate_left
              ·show Act.put _ (some 89) _ = _
               simp only [Act.put, ls0_, ls1_, ls2_, i64_w, i32_w]
               rfl
              refine ps_ 6 83 (bm 12 639) HT_ ?_
              refine ps_ 7 90 (bm 12 767) HT_ ?_
              refine ps_ 8 91 (bs 12 10) HT_ ?_
              exact norm_ (by simp only [putAll, Act.put, ls0_, ls1_, ls2_]) (hCont (.slice Ao147 t456.length co147, v467, gb470) _ ⟨hHeld, (by (with_reducible repeat (first | apply Kd.R_alloc | apply Kd.R_drewN | apply Kd.R_drew)); exact Kd.R_mono HO458.out (fun _ hk => by first | exact ⟨hk.2, ⟨hk.1.1.1.2, ⟨hk.1.1.2, hk.1.2⟩⟩⟩ | grind)), (by (with_reducible repeat (first | apply Kd.R_alloc | apply Kd.R_drewN | apply Kd.R_drew)); exact Kd.R_mono HO468.out (fun _ hk => by first | exact ⟨hk.2, ⟨hk.1.1.1.2, ⟨hk.1.1.2, hk.1.2⟩⟩⟩ | grind)), (by (with_reducible repeat (first | apply Kd.R_alloc | apply Kd.R_drewN | apply Kd.R_drew)); exact Kd.R_mono HO_417004.out (fun _ hk => by first | exact ⟨hk.1.2, ⟨hk.2, ⟨hk.1.1.1, hk.1.1.2⟩⟩⟩ | grind)), (by (with_reducible repeat (first | apply Kd.R_alloc | apply Kd.R_drewN | apply Kd.R_drew)); exact Kd.R_mono HO_425004.out (fun _ hk => by first | exact ⟨hk.1.2, ⟨hk.2, ⟨hk.1.1.1, hk.1.1.2⟩⟩⟩ | grind)), (by (with_reducible repeat (first | apply Kd.R_alloc | apply Kd.R_drewN | apply Kd.R_drew)); exact Kd.R_mono HO_437004.out (fun _ hk => by first | exact ⟨hk.1.2, ⟨hk.2, ⟨hk.1.1.1, hk.1.1.2⟩⟩⟩ | grind)), (bk_ BK395), (bk_ BK396), (bk_ BK416), (bk_ BK424), (bk_ BK436), (bk_ BK470), GW470.out, GE470.out, NB395_470.out, NB470_395.out, NB396_470.out, NB470_396.out, NB416_470.out, NB470_416.out, NB424_470.out, NB470_424.out, NB436_470.out, NB470_436.out, (bf_ HB)⟩)
            ·skip
             refine box_step ?hg (N := 16) ?hd (cs := #[.int .i64 0, .int .i64 0, .int .i64 0, .int .i64 0, .slice none 0 0]) (t := 32) ?hr ?_; (case hd => rfl); (case hg => rfl); (case hr => first | (go_simp; done) | (go_simp; rfl))
             intro gb470 hg w144 hbox hb
             replace HO_417004 := Aside0.mk (Kd.R_below (kr_ HO_417004) hb); replace HO_425004 := Aside0.mk (Kd.R_below (kr_ HO_425004) hb); replace HO_437004 := Aside0.mk (Kd.R_below (kr_ HO_437004) hb); have BK470 := Aside0.mk (hbox); have GW470 := gw_ HB hg; have GE470 := gw_ HB hg; replace HB := Aside0.mk (below_step (bf_ HB) hb); have NB395_470 := nl_ BK395 hg; have NB470_395 := ng_ BK395 hg; replace BK395 := bb_ BK395 hb; have NB396_470 := nl_ BK396 hg; have NB470_396 := ng_ BK396 hg; replace BK396 := bb_ BK396 hb; have NB416_470 := nl_ BK416 hg; have NB470_416 := ng_ BK416 hg; replace BK416 := bb_ BK416 hb; have NB424_470 := nl_ BK424 hg; have NB470_424 := ng_ BK424 hg; replace BK424 := bb_ BK424 hb; have NB436_470 := nl_ BK436 hg; have NB470_436 := ng_ BK436 hg; replace BK436 := bb_ BK436 hb; clear hb hbox hg
             refine hK.out _ _ ⟨bt_ BK395 0, bt_ BK395 1, bt_ BK395 2, bt_ BK395 3, bt_ BK395 4, bt_ BK396 0, bt_ BK396 1, bt_ BK396 2⟩ (fun hHeld => ?_)
             clear hK K
             refine norm_ (a' := ?_) ?_ ?_
             rotate_left
             ·show Act.put _ (some 16) _ = _
              simp only [Act.put, ls0_, ls1_, ls2_, i64_w, i32_w]
              rfl
             refine on_ 1 (some 85) (bm 12 535) HT_ (fun K hK => ?_)
             refine gs_ Try.func17 #[.agg #[.int .i64 a0_0, .int .i64 a0_1, .int .i64 a0_2, .int .i64 a0_3, .slice A0_4 l0_4.length c0_4]] ?_
             with_reducible refine (laws_toFair.calls kj83 a0_0 a0_1 a0_2 a0_3 _ _ l0_4 t452 t453 t454 t455 t456 _ ?side1 ?side2 A131.out).mono ?_
             (case side1 => repeat (first | exact (Kd.C_below HR0_4.out HB.out) | (with_reducible refine Kd.C_alloc ?_ _) | (with_reducible refine Kd.C_drewN ?_ _) | (with_reducible refine Kd.C_drew ?_)))
             (case side2 => exact HC0_4.out)
             rintro e w145 ⟨v457, rfl, ho0, hb⟩
             refine ⟨_, rfl, ?_⟩
             have HO458 := Aside0.mk (Kd.R_lower (Kd.R_new' (Kd.R_new' (Kd.R_new' ho0 (Kd.R_lt (kr_ HO_417004))) (Kd.R_lt (kr_ HO_425004))) (Kd.R_lt (kr_ HO_437004))) (below_size (bf_ HB))); replace HO_417004 := Aside0.mk (Kd.R_elder' (kr_ HO_417004) (Kd.R_base ho0) hb); replace HO_425004 := Aside0.mk (Kd.R_elder' (kr_ HO_425004) (Kd.R_base ho0) hb); replace HO_437004 := Aside0.mk (Kd.R_elder' (kr_ HO_437004) (Kd.R_base ho0) hb); replace BK395 := bb_ BK395 hb; replace BK396 := bb_ BK396 hb; replace BK416 := bb_ BK416 hb; replace BK424 := bb_ BK424 hb; replace BK436 := bb_ BK436 hb; replace BK470 := bb_ BK470 hb; replace HB := Aside0.mk (below_step (bf_ HB) hb); (try clear hb); (try clear hb2); (try clear hk); (try clear hi); (try clear ho0)
             refine hK.out _ _ ⟨bt_ BK395 0, bt_ BK395 1, bt_ BK395 2, bt_ BK395 3, bt_ BK395 4, bt_ BK396 0, bt_ BK396 1, bt_ BK396 2⟩ (fun hHeld => ?_)
             clear hK K
             refine norm_ (a' := ?_) ?_ ?_
             rotate_left
             ·show Act.put _ (some 85) _ = _
              simp only [Act.put, ls0_, ls1_, ls2_, i64_w, i32_w]
              rfl
             refine on_ 3 (some 87) (bm 12 543) HT_ (fun K hK => ?_)
             refine gs_ Try.func45 #[.agg #[.int .i64 a1_0, .int .i64 a1_1, .int .i64 a1_2]] ?_
             with_reducible refine (laws_toVec.calls a1_0 a1_1 a1_2 t459 t460 t461 _ A132.out).mono ?_
             rintro e w146 ⟨rfl, hb⟩
             refine ⟨_, rfl, ?_⟩
             replace HO_417004 := Aside0.mk (Kd.R_below (kr_ HO_417004) hb); replace HO_425004 := Aside0.mk (Kd.R_below (kr_ HO_425004) hb); replace HO_437004 := Aside0.mk (Kd.R_below (kr_ HO_437004) hb); replace HO458 := Aside0.mk (Kd.R_below (kr_ HO458) hb); replace BK395 := bb_ BK395 hb; replace BK396 := bb_ BK396 hb; replace BK416 := bb_ BK416 hb; replace BK424 := bb_ BK424 hb; replace BK436 := bb_ BK436 hb; replace BK470 := bb_ BK470 hb; replace HB := Aside0.mk (below_step (bf_ HB) hb); (try clear hb); (try clear hb2); (try clear hk); (try clear hi)
             obtain ⟨Ao147, co147, eo147⟩ := Kd.R_slice HO458.out
             (first | subst eo147 | (injection eo147 with f1_ f2_ f3_; have f4_ := f1_.symm; have f5_ := f3_.symm; clear f1_ f2_ f3_; subst f4_; subst f5_))
             refine hK.out _ _ ⟨bt_ BK395 0, bt_ BK395 1, bt_ BK395 2, bt_ BK395 3, bt_ BK395 4, bt_ BK396 0, bt_ BK396 1, bt_ BK396 2⟩ (fun hHeld => ?_)
             clear hK K
             refine norm_ (a' := ?_) ?_ ?_
             rotate_left
             ·show Act.put _ (some 87) _ = _
              simp only [Act.put, ls0_, ls1_, ls2_, i64_w, i32_w]
              rfl
             refine on_ 5 (some 89) (bm 12 575) HT_ (fun K hK => ?_)
             refine gs_ Try.func42 #[.agg #[.int .i64 t452, .int .i64 t453, .int .i64 t454, .int .i64 t455, .slice Ao147 t456.length co147], .agg #[.int .i64 t459, .int .i64 t460, .int .i64 t461], .bool a2] ?_
             with_reducible refine (impl_FairServe.calls kj83 t452 t453 t454 t455 _ _ t456 t459 t460 t461 a2 t462 t463 t464 t465 t466 t469 _ ?side1 ?side2 A133.out).mono ?_
             (case side1 => exact cr_ HO458)
             (case side2 => exact (Kd.R_reads' HO458.out).2.1)
             rintro e w148 ⟨v467, rfl, ho0, hb⟩
             refine ⟨_, rfl, ?_⟩
             have HO468 := Aside0.mk (Kd.R_lower (Kd.R_new' (Kd.R_new' (Kd.R_new' (Kd.R_new' ho0 (Kd.R_lt (kr_ HO_417004))) (Kd.R_lt (kr_ HO_425004))) (Kd.R_lt (kr_ HO_437004))) (Kd.R_lt (kr_ HO458))) (below_size (bf_ HB))); replace HO_417004 := Aside0.mk (Kd.R_elder' (kr_ HO_417004) (Kd.R_base ho0) hb); replace HO_425004 := Aside0.mk (Kd.R_elder' (kr_ HO_425004) (Kd.R_base ho0) hb); replace HO_437004 := Aside0.mk (Kd.R_elder' (kr_ HO_437004) (Kd.R_base ho0) hb); replace HO458 := Aside0.mk (Kd.R_elder' (kr_ HO458) (Kd.R_base ho0) hb); replace BK395 := bb_ BK395 hb; replace BK396 := bb_ BK396 hb; replace BK416 := bb_ BK416 hb; replace BK424 := bb_ BK424 hb; replace BK436 := bb_ BK436 hb; replace BK470 := bb_ BK470 hb; replace HB := Aside0.mk (below_step (bf_ HB) hb); (try clear hb); (try clear hb2); (try clear hk); (try clear hi); (try clear ho0)
             refine hK.out _ _ ⟨bt_ BK395 0, bt_ BK395 1, bt_ BK395 2, bt_ BK395 3, bt_ BK395 4, bt_ BK396 0, bt_ BK396 1, bt_ BK396 2⟩ (fun hHeld => ?_)
             clear hK K
             refine norm_ (a' := ?_) ?_ ?_
             rotate_left
             ·show Act.put _ (some 89) _ = _
              simp only [Act.put, ls0_, ls1_, ls2_, i64_w, i32_w]
              rfl
             refine ps_ 6 83 (bm 12 639) HT_ ?_
             refine ps_ 7 90 (bm 12 767) HT_ ?_
             refine ps_ 8 91 (bs 12 10) HT_ ?_
             exact norm_ (by simp only [putAll, Act.put, ls0_, ls1_, ls2_]) (hCont (.slice Ao147 t456.length co147, v467, gb470) _ ⟨hHeld, (by (with_reducible repeat (first | apply Kd.R_alloc | apply Kd.R_drewN | apply Kd.R_drew)); exact Kd.R_mono HO458.out (fun _ hk => by first | exact ⟨hk.2, ⟨hk.1.1.1.2, ⟨hk.1.1.2, hk.1.2⟩⟩⟩ | grind)), (by (with_reducible repeat (first | apply Kd.R_alloc | apply Kd.R_drewN | apply Kd.R_drew)); exact Kd.R_mono HO468.out (fun _ hk => by first | exact ⟨hk.2, ⟨hk.1.1.1.2, ⟨hk.1.1.2, hk.1.2⟩⟩⟩ | grind)), (by (with_reducible repeat (first | apply Kd.R_alloc | apply Kd.R_drewN | apply Kd.R_drew)); exact Kd.R_mono HO_417004.out (fun _ hk => by first | exact ⟨hk.1.2, ⟨hk.2, ⟨hk.1.1.1, hk.1.1.2⟩⟩⟩ | grind)), (by (with_reducible repeat (first | apply Kd.R_alloc | apply Kd.R_drewN | apply Kd.R_drew)); exact Kd.R_mono HO_425004.out (fun _ hk => by first | exact ⟨hk.1.2, ⟨hk.2, ⟨hk.1.1.1, hk.1.1.2⟩⟩⟩ | grind)), (by (with_reducible repeat (first | apply Kd.R_alloc | apply Kd.R_drewN | apply Kd.R_drew)); exact Kd.R_mono HO_437004.out (fun _ hk => by first | exact ⟨hk.1.2, ⟨hk.2, ⟨hk.1.1.1, hk.1.1.2⟩⟩⟩ | grind)), (bk_ BK395), (bk_ BK396), (bk_ BK416), (bk_ BK424), (bk_ BK436), (bk_ BK470), GW470.out, GE470.out, NB395_470.out, NB470_395.out, NB396_470.out, NB470_396.out, NB416_470.out, NB470_416.out, NB424_470.out, NB470_424.out, NB436_470.out, NB470_436.out, (bf_ HB)⟩)
           rintro ⟨v457, v467, gb470⟩ w149 ⟨hS_, h0_, h1_, h2_, h3_, h4_, h5_, h6_, h7_, h8_, h9_, h10_, h11_, h12_, h13_, h14_, h15_, h16_, h17_, h18_, h19_, h20_, h21_, h22_, h23_⟩
           have n0_ : Aside0 (Kd.R k38 38 w149 w.heap.size (fun k_ => some k_ ≠ (v467 : Value).ownBlock ∧ some k_ ≠ (.slice Ao34 t412.length co34 : Value).ownBlock ∧ some k_ ≠ (.slice Ao44 t447.length co44 : Value).ownBlock ∧ some k_ ≠ (.slice Ao55 t432.length co55 : Value).ownBlock) v457 t456) := ⟨h0_⟩
           have n1_ : Aside0 (Kd.R k38 38 w149 w.heap.size (fun k_ => some k_ ≠ (v457 : Value).ownBlock ∧ some k_ ≠ (.slice Ao34 t412.length co34 : Value).ownBlock ∧ some k_ ≠ (.slice Ao44 t447.length co44 : Value).ownBlock ∧ some k_ ≠ (.slice Ao55 t432.length co55 : Value).ownBlock) v467 t466) := ⟨h1_⟩
           have n2_ : Aside0 (Kd.R k38 38 w149 w.heap.size (fun k_ => some k_ ≠ (v457 : Value).ownBlock ∧ some k_ ≠ (v467 : Value).ownBlock ∧ some k_ ≠ (.slice Ao44 t447.length co44 : Value).ownBlock ∧ some k_ ≠ (.slice Ao55 t432.length co55 : Value).ownBlock) (.slice Ao34 t412.length co34) t412) := ⟨h2_⟩
           have n3_ : Aside0 (Kd.R k38 38 w149 w.heap.size (fun k_ => some k_ ≠ (v457 : Value).ownBlock ∧ some k_ ≠ (v467 : Value).ownBlock ∧ some k_ ≠ (.slice Ao34 t412.length co34 : Value).ownBlock ∧ some k_ ≠ (.slice Ao55 t432.length co55 : Value).ownBlock) (.slice Ao44 t447.length co44) t447) := ⟨h3_⟩
           have n4_ : Aside0 (Kd.R k38 38 w149 w.heap.size (fun k_ => some k_ ≠ (v457 : Value).ownBlock ∧ some k_ ≠ (v467 : Value).ownBlock ∧ some k_ ≠ (.slice Ao34 t412.length co34 : Value).ownBlock ∧ some k_ ≠ (.slice Ao44 t447.length co44 : Value).ownBlock) (.slice Ao55 t432.length co55) t450) := ⟨h4_⟩
           have n5_ : Aside0 (w149.heap[gb395]? = some (.cells #[.int .i64 a0_0, .int .i64 a0_1, .int .i64 a0_2, .int .i64 a0_3, .slice A0_4 l0_4.length c0_4] 26 (0, 0))) := ⟨h5_⟩
           have n6_ : Aside0 (w149.heap[gb396]? = some (.cells #[.int .i64 a1_0, .int .i64 a1_1, .int .i64 a1_2] 23 (0, 0))) := ⟨h6_⟩
           have n7_ : Aside0 (w149.heap[gb416]? = some (.cells #[.int .i64 t408, .int .i64 t409, .int .i64 t410, .int .i64 t411, .slice Ao34 t412.length co34] 32 (0, 0))) := ⟨h7_⟩
           have n8_ : Aside0 (w149.heap[gb424]? = some (.cells #[.int .i64 t417, .int .i64 t418, .int .i64 t419, .int .i64 t420, .slice Ao44 t447.length co44] 32 (0, 0))) := ⟨h8_⟩
           have n9_ : Aside0 (w149.heap[gb436]? = some (.cells #[.int .i64 t428, .int .i64 t429, .int .i64 t430, .int .i64 t431, .slice Ao55 t432.length co55] 32 (0, 0))) := ⟨h9_⟩
           have n10_ : Aside0 (w149.heap[gb470]? = some (.cells #[.int .i64 0, .int .i64 0, .int .i64 0, .int .i64 0, .slice none 0 0] 32 (0, 0))) := ⟨h10_⟩
           have n11_ : Aside0 (w.heap.size ≤ gb470) := ⟨h11_⟩
           have n12_ : Aside0 (w.heap.size ≤ gb470) := ⟨h12_⟩
           have n13_ : Aside0 (gb395 ≠ gb470) := ⟨h13_⟩
           have n14_ : Aside0 (gb470 ≠ gb395) := ⟨h14_⟩
           have n15_ : Aside0 (gb396 ≠ gb470) := ⟨h15_⟩
           have n16_ : Aside0 (gb470 ≠ gb396) := ⟨h16_⟩
           have n17_ : Aside0 (gb416 ≠ gb470) := ⟨h17_⟩
           have n18_ : Aside0 (gb470 ≠ gb416) := ⟨h18_⟩
           have n19_ : Aside0 (gb424 ≠ gb470) := ⟨h19_⟩
           have n20_ : Aside0 (gb470 ≠ gb424) := ⟨h20_⟩
           have n21_ : Aside0 (gb436 ≠ gb470) := ⟨h21_⟩
           have n22_ : Aside0 (gb470 ≠ gb436) := ⟨h22_⟩
           have n23_ : Aside0 (Below w.heap.size w w149) := ⟨h23_⟩
           clear HO_417004 HO_425004 HO_437004 BK395 BK396 BK416 BK424 BK436 HB h0_ h1_ h2_ h3_ h4_ h5_ h6_ h7_ h8_ h9_ h10_ h11_ h12_ h13_ h14_ h15_ h16_ h17_ h18_ h19_ h20_ h21_ h22_ h23_; have HO458 := n0_; have HO468 := n1_; have HO_417004 := n2_; have HO_425004 := n3_; have HO_437004 := n4_; have BK395 := n5_; have BK396 := n6_; have BK416 := n7_; have BK424 := n8_; have BK436 := n9_; have BK470 := n10_; have GW470 := n11_; have GE470 := n12_; have NB395_470 := n13_; have NB470_395 := n14_; have NB396_470 := n15_; have NB470_396 := n16_; have NB416_470 := n17_; have NB470_416 := n18_; have NB424_470 := n19_; have NB470_424 := n20_; have NB436_470 := n21_; have NB470_436 := n22_; have HB := n23_; clear n0_ n1_ n2_ n3_ n4_ n5_ n6_ n7_ n8_ n9_ n10_ n11_ n12_ n13_ n14_ n15_ n16_ n17_ n18_ n19_ n20_ n21_ n22_ n23_
           have hHeld : w149.cell? ⟨gb395, 0, none⟩ = some (.int .i64 a0_0) ∧ w149.cell? ⟨gb395, 1, none⟩ = some (.int .i64 a0_1) ∧ w149.cell? ⟨gb395, 2, none⟩ = some (.int .i64 a0_2) ∧ w149.cell? ⟨gb395, 3, none⟩ = some (.int .i64 a0_3) ∧ w149.cell? ⟨gb395, 4, none⟩ = some (.slice A0_4 l0_4.length c0_4) ∧ w149.cell? ⟨gb396, 0, none⟩ = some (.int .i64 a1_0) ∧ w149.cell? ⟨gb396, 1, none⟩ = some (.int .i64 a1_1) ∧ w149.cell? ⟨gb396, 2, none⟩ = some (.int .i64 a1_2) := hS_
           obtain ⟨Ao154, co154, eo154⟩ := Kd.R_slice HO468.out
           (first | subst eo154 | (injection eo154 with f1_ f2_ f3_; have f4_ := f1_.symm; have f5_ := f3_.symm; clear f1_ f2_ f3_; subst f4_; subst f5_))
           refine norm_ (a' := ?_) ?_ ?_
           rotate_left
           ·simp only [putAll, Act.put, ls0_, ls1_, ls2_]
            rfl
           refine on_ 10 none (bs 12 11) HT_ (fun K hK => ?_)
           have hs150 := bc_ BK470 0 (.int .i64 0) rfl; have hfs150 := blk_frozen BK470.out 0; have hns150_0 := NB395_470.out; have hns150_1 := NB396_470.out; have hns150_2 := NB416_470.out; have hns150_3 := NB424_470.out; have hns150_4 := NB436_470.out; have hms150_0 := NB470_395.out; have hms150_1 := NB470_396.out; have hms150_2 := NB470_416.out; have hms150_3 := NB470_424.out; have hms150_4 := NB470_436.out; have hs151 := bc_ BK470 1 (.int .i64 0) rfl; have hfs151 := blk_frozen BK470.out 1; have hns151_0 := NB395_470.out; have hns151_1 := NB396_470.out; have hns151_2 := NB416_470.out; have hns151_3 := NB424_470.out; have hns151_4 := NB436_470.out; have hms151_0 := NB470_395.out; have hms151_1 := NB470_396.out; have hms151_2 := NB470_416.out; have hms151_3 := NB470_424.out; have hms151_4 := NB470_436.out; have hs152 := bc_ BK470 2 (.int .i64 0) rfl; have hfs152 := blk_frozen BK470.out 2; have hns152_0 := NB395_470.out; have hns152_1 := NB396_470.out; have hns152_2 := NB416_470.out; have hns152_3 := NB424_470.out; have hns152_4 := NB436_470.out; have hms152_0 := NB470_395.out; have hms152_1 := NB470_396.out; have hms152_2 := NB470_416.out; have hms152_3 := NB470_424.out; have hms152_4 := NB470_436.out; have hs153 := bc_ BK470 3 (.int .i64 0) rfl; have hfs153 := blk_frozen BK470.out 3; have hns153_0 := NB395_470.out; have hns153_1 := NB396_470.out; have hns153_2 := NB416_470.out; have hns153_3 := NB424_470.out; have hns153_4 := NB436_470.out; have hms153_0 := NB470_395.out; have hms153_1 := NB470_396.out; have hms153_2 := NB470_416.out; have hms153_3 := NB470_424.out; have hms153_4 := NB470_436.out; have hs155 := bc_ BK470 4 (.slice none 0 0) rfl; have hfs155 := blk_frozen BK470.out 4; have hns155_0 := NB395_470.out; have hns155_1 := NB396_470.out; have hns155_2 := NB416_470.out; have hns155_3 := NB424_470.out; have hns155_4 := NB436_470.out; have hms155_0 := NB470_395.out; have hms155_1 := NB470_396.out; have hms155_2 := NB470_416.out; have hms155_3 := NB470_424.out; have hms155_4 := NB470_436.out
           refine skip_ (w1 := ?_) (by rfl) rfl ?_ ?_
           rotate_left
           ·go_simp
            rfl
           refine hK.out _ _ ⟨(cf5_ NB395_470.out hHeld.1), (cf5_ NB395_470.out hHeld.2.1), (cf5_ NB395_470.out hHeld.2.2.1), (cf5_ NB395_470.out hHeld.2.2.2.1), (cf5_ NB395_470.out hHeld.2.2.2.2.1), (cf5_ NB396_470.out hHeld.2.2.2.2.2.1), (cf5_ NB396_470.out hHeld.2.2.2.2.2.2.1), (cf5_ NB396_470.out hHeld.2.2.2.2.2.2.2)⟩ (fun hHeld => ?_)
           clear hK K
           refine ps_ 11 17 (bs 12 12) HT_ ?_
           refine done_ (done_of HT_.out (by kernel_rfl)) ?_
           go_upto_region 25 with (fail)
           go_cut [100] (fun v100 wc => ∃ (kq : Nat) (x100_133 : Bool), v100 = .bool x100_133 ∧ Aside0 (laws_FnExactFairServe.j2 kq t449 x100_133 t428 t429 t430 t431 t450 = some r) ∧ Aside0 (kq ≤ kj83) ∧ Aside0 (Kd.R k38 38 wc w.heap.size (fun k_ => some k_ ≠ ((.slice Ao44 t447.length co44) : Value).ownBlock ∧ some k_ ≠ ((.slice Ao55 t432.length co55) : Value).ownBlock ∧ some k_ ≠ ((.slice Ao154 t466.length co154) : Value).ownBlock) (.slice Ao34 t412.length co34) t412) ∧ Aside0 (Kd.R k38 38 wc w.heap.size (fun k_ => some k_ ≠ ((.slice Ao34 t412.length co34) : Value).ownBlock ∧ some k_ ≠ ((.slice Ao55 t432.length co55) : Value).ownBlock ∧ some k_ ≠ ((.slice Ao154 t466.length co154) : Value).ownBlock) (.slice Ao44 t447.length co44) t447) ∧ Aside0 (Kd.R k38 38 wc w.heap.size (fun k_ => some k_ ≠ ((.slice Ao34 t412.length co34) : Value).ownBlock ∧ some k_ ≠ ((.slice Ao44 t447.length co44) : Value).ownBlock ∧ some k_ ≠ ((.slice Ao154 t466.length co154) : Value).ownBlock) (.slice Ao55 t432.length co55) t450) ∧ Aside0 (Kd.R k38 38 wc w.heap.size (fun k_ => some k_ ≠ ((.slice Ao34 t412.length co34) : Value).ownBlock ∧ some k_ ≠ ((.slice Ao44 t447.length co44) : Value).ownBlock ∧ some k_ ≠ ((.slice Ao55 t432.length co55) : Value).ownBlock) (.slice Ao154 t466.length co154) t466) ∧ Aside0 (wc.heap[gb395]? = some (.cells #[.int .i64 a0_0, .int .i64 a0_1, .int .i64 a0_2, .int .i64 a0_3, (.slice A0_4 l0_4.length c0_4)] 26 (0, 0))) ∧ Aside0 (wc.heap[gb396]? = some (.cells #[.int .i64 a1_0, .int .i64 a1_1, .int .i64 a1_2] 23 (0, 0))) ∧ Aside0 (wc.heap[gb416]? = some (.cells #[.int .i64 t408, .int .i64 t409, .int .i64 t410, .int .i64 t411, (.slice Ao34 t412.length co34)] 32 (0, 0))) ∧ Aside0 (wc.heap[gb424]? = some (.cells #[.int .i64 t417, .int .i64 t418, .int .i64 t419, .int .i64 t420, (.slice Ao44 t447.length co44)] 32 (0, 0))) ∧ Aside0 (wc.heap[gb436]? = some (.cells #[.int .i64 t428, .int .i64 t429, .int .i64 t430, .int .i64 t431, (.slice Ao55 t432.length co55)] 32 (0, 0))) ∧ Aside0 (wc.heap[gb470]? = some (.cells #[.int .i64 t462, .int .i64 t463, .int .i64 t464, .int .i64 t465, (.slice Ao154 t466.length co154)] 32 (0, 0))) ∧ Aside0 (Below w.heap.size w wc))
           case first =>
            have H := HC134.out
            clear HC134
            replace H := Option.bind_eq_some_iff.mp H
            obtain ⟨t471, A1560, H⟩ := H
            replace H : (if t471 = true then (laws_FnExactFairServe.j2 kj83 t449 (t469 != t415) t428 t429 t430 t431 t450) else (laws_FnExactFairServe.j2 kj83 t449 true t428 t429 t430 t431 t450)) = some r := H
            have A156 := Aside0.mk A1560
            clear A1560
            by_cases c157 : t471 = true
            ·subst c157
             have H1 : (laws_FnExactFairServe.j2 kj83 t449 (t469 != t415) t428 t429 t430 t431 t450) = some r := by rw [if_pos rfl] at H; exact H
             clear H
             have H := H1
             clear H1
             have H' := Aside0.mk H
             clear H; have hnb158 := NB470_395.out; have hnc158 := NB395_470.out; have hnb159 := NB470_396.out; have hnc159 := NB396_470.out; have hnb160 := NB470_416.out; have hnc160 := NB416_470.out; have hnb161 := NB470_424.out; have hnc161 := NB424_470.out; have hnb162 := NB470_436.out; have hnc162 := NB436_470.out; obtain ⟨hcz163_0, hcz163_1, hcz163_2, hcz163_3, hcz163_4, hfz163_0, hfz163_1, hfz163_2, hfz163_3, hfz163_4⟩ := bz5_ BK470; have hnb164 := NB416_395.out; have hnc164 := NB395_416.out; have hnb165 := NB416_396.out; have hnc165 := NB396_416.out; have hnb166 := NB416_424.out; have hnc166 := NB424_416.out; have hnb167 := NB416_436.out; have hnc167 := NB436_416.out; obtain ⟨hcz168_0, hcz168_1, hcz168_2, hcz168_3, hcz168_4, hfz168_0, hfz168_1, hfz168_2, hfz168_3, hfz168_4⟩ := bz5_ BK416
             go_wp2_with (first | ((with_reducible refine gc_ 19 rfl ?_); refine gl_ 94 Try.func19 #[.agg #[.int .i64 t462, .int .i64 t463, .int .i64 t464, .int .i64 t465, .slice Ao154 t466.length co154], .agg #[.int .i64 t408, .int .i64 t409, .int .i64 t410, .int .i64 t411, .slice Ao34 t412.length co34]] ?_; (with_reducible refine (laws_eqFair.calls kj83 t462 t463 t464 t465 _ _ t466 t408 t409 t410 t411 _ _ t412 true _ ?side1 ?side2 ?side3 ?side4 A156.out).mono ?_); (case side1 => refine (Kd.R_reads' (e := 38) (base := w.heap.size) (ok := fun k_ => (some k_ ≠ (v457 : Value).ownBlock ∧ (some k_ ≠ (.slice Ao34 t412.length co34 : Value).ownBlock ∧ (some k_ ≠ (.slice Ao44 t447.length co44 : Value).ownBlock ∧ some k_ ≠ (.slice Ao55 t432.length co55 : Value).ownBlock)))) (n := t466.length) (c := co154) ?_).2.2; exact (by (with_reducible repeat (first | apply Kd.R_alloc | apply Kd.R_drewN | apply Kd.R_drew)); exact (rf5_ HO468 BK470 (.int .i64 t462) (.int .i64 t463) (.int .i64 t464) (.int .i64 t465) (.slice Ao154 t466.length co154)))); (case side2 => exact (Kd.R_reads' HO468.out).2.1); (case side3 => refine (Kd.R_reads' (e := 38) (base := w.heap.size) (ok := fun k_ => (some k_ ≠ (v457 : Value).ownBlock ∧ (some k_ ≠ (.slice Ao154 t466.length co154 : Value).ownBlock ∧ (some k_ ≠ (.slice Ao44 t447.length co44 : Value).ownBlock ∧ some k_ ≠ (.slice Ao55 t432.length co55 : Value).ownBlock)))) (n := t412.length) (c := co34) ?_).2.2; exact (by (with_reducible repeat (first | apply Kd.R_alloc | apply Kd.R_drewN | apply Kd.R_drew)); exact (rf5_ HO_417004 BK470 (.int .i64 t462) (.int .i64 t463) (.int .i64 t464) (.int .i64 t465) (.slice Ao154 t466.length co154)))); (case side4 => exact (Kd.R_reads' HO_417004.out).2.1); rintro e w169 ⟨rfl, hb⟩; refine ⟨_, rfl, ?_⟩; replace HO_417004 := Aside0.mk (Kd.R_below (by (with_reducible repeat (first | apply Kd.R_alloc | apply Kd.R_drewN | apply Kd.R_drew)); exact (rf5_ HO_417004 BK470 (.int .i64 t462) (.int .i64 t463) (.int .i64 t464) (.int .i64 t465) (.slice Ao154 t466.length co154))) hb); replace HO_425004 := Aside0.mk (Kd.R_below (by (with_reducible repeat (first | apply Kd.R_alloc | apply Kd.R_drewN | apply Kd.R_drew)); exact (rf5_ HO_425004 BK470 (.int .i64 t462) (.int .i64 t463) (.int .i64 t464) (.int .i64 t465) (.slice Ao154 t466.length co154))) hb); replace HO_437004 := Aside0.mk (Kd.R_below (by (with_reducible repeat (first | apply Kd.R_alloc | apply Kd.R_drewN | apply Kd.R_drew)); exact (rf5_ HO_437004 BK470 (.int .i64 t462) (.int .i64 t463) (.int .i64 t464) (.int .i64 t465) (.slice Ao154 t466.length co154))) hb); replace HO458 := Aside0.mk (Kd.R_below (by (with_reducible repeat (first | apply Kd.R_alloc | apply Kd.R_drewN | apply Kd.R_drew)); exact (rf5_ HO458 BK470 (.int .i64 t462) (.int .i64 t463) (.int .i64 t464) (.int .i64 t465) (.slice Ao154 t466.length co154))) hb); replace HO468 := Aside0.mk (Kd.R_below (by (with_reducible repeat (first | apply Kd.R_alloc | apply Kd.R_drewN | apply Kd.R_drew)); exact (rf5_ HO468 BK470 (.int .i64 t462) (.int .i64 t463) (.int .i64 t464) (.int .i64 t465) (.slice Ao154 t466.length co154))) hb); replace BK395 := bm_ BK395 hb; replace BK396 := bm_ BK396 hb; replace BK416 := bm_ BK416 hb; replace BK424 := bm_ BK424 hb; replace BK436 := bm_ BK436 hb; replace BK470 := Aside0.mk (blk_below (g := gb470) (o := .cells #[.int .i64 t462, .int .i64 t463, .int .i64 t464, .int .i64 t465, .slice Ao154 t466.length co154] 32 (0, 0)) (by (with_reducible repeat (first | refine blk_drewN ?_ _ | refine blk_drew ?_ | refine blk_alloc ?_ _)); refine blk_put (cs := #[.int .i64 t462, .int .i64 t463, .int .i64 t464, .int .i64 t465, .slice none 0 0]) ?_ 4 _ rfl; (with_reducible repeat (first | refine blk_drewN ?_ _ | refine blk_drew ?_ | refine blk_alloc ?_ _)); refine blk_put (cs := #[.int .i64 t462, .int .i64 t463, .int .i64 t464, .int .i64 0, .slice none 0 0]) ?_ 3 _ rfl; (with_reducible repeat (first | refine blk_drewN ?_ _ | refine blk_drew ?_ | refine blk_alloc ?_ _)); refine blk_put (cs := #[.int .i64 t462, .int .i64 t463, .int .i64 0, .int .i64 0, .slice none 0 0]) ?_ 2 _ rfl; (with_reducible repeat (first | refine blk_drewN ?_ _ | refine blk_drew ?_ | refine blk_alloc ?_ _)); refine blk_put (cs := #[.int .i64 t462, .int .i64 0, .int .i64 0, .int .i64 0, .slice none 0 0]) ?_ 1 _ rfl; (with_reducible repeat (first | refine blk_drewN ?_ _ | refine blk_drew ?_ | refine blk_alloc ?_ _)); refine blk_put (cs := #[.int .i64 0, .int .i64 0, .int .i64 0, .int .i64 0, .slice none 0 0]) ?_ 0 _ rfl; exact bk_ BK470) hb); replace HB := Aside0.mk (below_step (bf_ HB) hb); (try clear hb); (try clear hb2); (try clear hk); (try clear hi)))
             go_meet
             case rel => exact ⟨_, ((t469 != t415)), (by first | rfl | (simp; done) | (simp [*]; done)), H', ⟨by have := HJ16.out; have := HJ83.out; first | omega | exact Nat.le_refl _⟩, ⟨by (try simp only [hl425004_83]); (with_reducible repeat (first | apply Kd.R_alloc | apply Kd.R_drewN | apply Kd.R_drew)); exact Kd.R_mono HO_417004.out (fun _ hk => by first | exact ⟨hk.2.2.1, ⟨hk.2.2.2, hk.2.1⟩⟩ | grind)⟩, ⟨by (try simp only [hl425004_83]); (with_reducible repeat (first | apply Kd.R_alloc | apply Kd.R_drewN | apply Kd.R_drew)); exact Kd.R_mono HO_425004.out (fun _ hk => by first | exact ⟨hk.2.2.1, ⟨hk.2.2.2, hk.2.1⟩⟩ | grind)⟩, ⟨by (try simp only [hl425004_83]); (with_reducible repeat (first | apply Kd.R_alloc | apply Kd.R_drewN | apply Kd.R_drew)); exact Kd.R_mono HO_437004.out (fun _ hk => by first | exact ⟨hk.2.2.1, ⟨hk.2.2.2, hk.2.1⟩⟩ | grind)⟩, ⟨by (try simp only [hl425004_83]); (with_reducible repeat (first | apply Kd.R_alloc | apply Kd.R_drewN | apply Kd.R_drew)); exact Kd.R_mono HO468.out (fun _ hk => by first | exact ⟨hk.2.1, ⟨hk.2.2.1, hk.2.2.2⟩⟩ | grind)⟩, ⟨by (try simp only [hl425004_83]); exact bk_ BK395⟩, ⟨by (try simp only [hl425004_83]); exact bk_ BK396⟩, ⟨by (try simp only [hl425004_83]); exact bk_ BK416⟩, ⟨by (try simp only [hl425004_83]); exact bk_ BK424⟩, ⟨by (try simp only [hl425004_83]); exact bk_ BK436⟩, ⟨by (try simp only [hl425004_83]); exact bk_ BK470⟩, ⟨bf_ HB⟩⟩
            ·replace c157 := Bool.eq_false_iff.mpr c157
             subst c157
             have H1 : (laws_FnExactFairServe.j2 kj83 t449 true t428 t429 t430 t431 t450) = some r := by rw [if_neg (show ¬ (false = true) by decide)] at H; exact H
             clear H
             have H := H1
             clear H1
             have H' := Aside0.mk H
             clear H; have hnb170 := NB470_395.out; have hnc170 := NB395_470.out; have hnb171 := NB470_396.out; have hnc171 := NB396_470.out; have hnb172 := NB470_416.out; have hnc172 := NB416_470.out; have hnb173 := NB470_424.out; have hnc173 := NB424_470.out; have hnb174 := NB470_436.out; have hnc174 := NB436_470.out; obtain ⟨hcz175_0, hcz175_1, hcz175_2, hcz175_3, hcz175_4, hfz175_0, hfz175_1, hfz175_2, hfz175_3, hfz175_4⟩ := bz5_ BK470; have hnb176 := NB416_395.out; have hnc176 := NB395_416.out; have hnb177 := NB416_396.out; have hnc177 := NB396_416.out; have hnb178 := NB416_424.out; have hnc178 := NB424_416.out; have hnb179 := NB416_436.out; have hnc179 := NB436_416.out; obtain ⟨hcz180_0, hcz180_1, hcz180_2, hcz180_3, hcz180_4, hfz180_0, hfz180_1, hfz180_2, hfz180_3, hfz180_4⟩ := bz5_ BK416
             go_wp2_with (first | ((with_reducible refine gc_ 19 rfl ?_); refine gl_ 94 Try.func19 #[.agg #[.int .i64 t462, .int .i64 t463, .int .i64 t464, .int .i64 t465, .slice Ao154 t466.length co154], .agg #[.int .i64 t408, .int .i64 t409, .int .i64 t410, .int .i64 t411, .slice Ao34 t412.length co34]] ?_; (with_reducible refine (laws_eqFair.calls kj83 t462 t463 t464 t465 _ _ t466 t408 t409 t410 t411 _ _ t412 false _ ?side1 ?side2 ?side3 ?side4 A156.out).mono ?_); (case side1 => refine (Kd.R_reads' (e := 38) (base := w.heap.size) (ok := fun k_ => (some k_ ≠ (v457 : Value).ownBlock ∧ (some k_ ≠ (.slice Ao34 t412.length co34 : Value).ownBlock ∧ (some k_ ≠ (.slice Ao44 t447.length co44 : Value).ownBlock ∧ some k_ ≠ (.slice Ao55 t432.length co55 : Value).ownBlock)))) (n := t466.length) (c := co154) ?_).2.2; exact (by (with_reducible repeat (first | apply Kd.R_alloc | apply Kd.R_drewN | apply Kd.R_drew)); exact (rf5_ HO468 BK470 (.int .i64 t462) (.int .i64 t463) (.int .i64 t464) (.int .i64 t465) (.slice Ao154 t466.length co154)))); (case side2 => exact (Kd.R_reads' HO468.out).2.1); (case side3 => refine (Kd.R_reads' (e := 38) (base := w.heap.size) (ok := fun k_ => (some k_ ≠ (v457 : Value).ownBlock ∧ (some k_ ≠ (.slice Ao154 t466.length co154 : Value).ownBlock ∧ (some k_ ≠ (.slice Ao44 t447.length co44 : Value).ownBlock ∧ some k_ ≠ (.slice Ao55 t432.length co55 : Value).ownBlock)))) (n := t412.length) (c := co34) ?_).2.2; exact (by (with_reducible repeat (first | apply Kd.R_alloc | apply Kd.R_drewN | apply Kd.R_drew)); exact (rf5_ HO_417004 BK470 (.int .i64 t462) (.int .i64 t463) (.int .i64 t464) (.int .i64 t465) (.slice Ao154 t466.length co154)))); (case side4 => exact (Kd.R_reads' HO_417004.out).2.1); rintro e w181 ⟨rfl, hb⟩; refine ⟨_, rfl, ?_⟩; replace HO_417004 := Aside0.mk (Kd.R_below (by (with_reducible repeat (first | apply Kd.R_alloc | apply Kd.R_drewN | apply Kd.R_drew)); exact (rf5_ HO_417004 BK470 (.int .i64 t462) (.int .i64 t463) (.int .i64 t464) (.int .i64 t465) (.slice Ao154 t466.length co154))) hb); replace HO_425004 := Aside0.mk (Kd.R_below (by (with_reducible repeat (first | apply Kd.R_alloc | apply Kd.R_drewN | apply Kd.R_drew)); exact (rf5_ HO_425004 BK470 (.int .i64 t462) (.int .i64 t463) (.int .i64 t464) (.int .i64 t465) (.slice Ao154 t466.length co154))) hb); replace HO_437004 := Aside0.mk (Kd.R_below (by (with_reducible repeat (first | apply Kd.R_alloc | apply Kd.R_drewN | apply Kd.R_drew)); exact (rf5_ HO_437004 BK470 (.int .i64 t462) (.int .i64 t463) (.int .i64 t464) (.int .i64 t465) (.slice Ao154 t466.length co154))) hb); replace HO458 := Aside0.mk (Kd.R_below (by (with_reducible repeat (first | apply Kd.R_alloc | apply Kd.R_drewN | apply Kd.R_drew)); exact (rf5_ HO458 BK470 (.int .i64 t462) (.int .i64 t463) (.int .i64 t464) (.int .i64 t465) (.slice Ao154 t466.length co154))) hb); replace HO468 := Aside0.mk (Kd.R_below (by (with_reducible repeat (first | apply Kd.R_alloc | apply Kd.R_drewN | apply Kd.R_drew)); exact (rf5_ HO468 BK470 (.int .i64 t462) (.int .i64 t463) (.int .i64 t464) (.int .i64 t465) (.slice Ao154 t466.length co154))) hb); replace BK395 := bm_ BK395 hb; replace BK396 := bm_ BK396 hb; replace BK416 := bm_ BK416 hb; replace BK424 := bm_ BK424 hb; replace BK436 := bm_ BK436 hb; replace BK470 := Aside0.mk (blk_below (g := gb470) (o := .cells #[.int .i64 t462, .int .i64 t463, .int .i64 t464, .int .i64 t465, .slice Ao154 t466.length co154] 32 (0, 0)) (by (with_reducible repeat (first | refine blk_drewN ?_ _ | refine blk_drew ?_ | refine blk_alloc ?_ _)); refine blk_put (cs := #[.int .i64 t462, .int .i64 t463, .int .i64 t464, .int .i64 t465, .slice none 0 0]) ?_ 4 _ rfl; (with_reducible repeat (first | refine blk_drewN ?_ _ | refine blk_drew ?_ | refine blk_alloc ?_ _)); refine blk_put (cs := #[.int .i64 t462, .int .i64 t463, .int .i64 t464, .int .i64 0, .slice none 0 0]) ?_ 3 _ rfl; (with_reducible repeat (first | refine blk_drewN ?_ _ | refine blk_drew ?_ | refine blk_alloc ?_ _)); refine blk_put (cs := #[.int .i64 t462, .int .i64 t463, .int .i64 0, .int .i64 0, .slice none 0 0]) ?_ 2 _ rfl; (with_reducible repeat (first | refine blk_drewN ?_ _ | refine blk_drew ?_ | refine blk_alloc ?_ _)); refine blk_put (cs := #[.int .i64 t462, .int .i64 0, .int .i64 0, .int .i64 0, .slice none 0 0]) ?_ 1 _ rfl; (with_reducible repeat (first | refine blk_drewN ?_ _ | refine blk_drew ?_ | refine blk_alloc ?_ _)); refine blk_put (cs := #[.int .i64 0, .int .i64 0, .int .i64 0, .int .i64 0, .slice none 0 0]) ?_ 0 _ rfl; exact bk_ BK470) hb); replace HB := Aside0.mk (below_step (bf_ HB) hb); (try clear hb); (try clear hb2); (try clear hk); (try clear hi)))
             go_meet
             case rel => exact ⟨_, (true), (by first | rfl | (simp; done) | (simp [*]; done)), H', ⟨by have := HJ16.out; have := HJ83.out; first | omega | exact Nat.le_refl _⟩, ⟨by (try simp only [hl425004_83]); (with_reducible repeat (first | apply Kd.R_alloc | apply Kd.R_drewN | apply Kd.R_drew)); exact Kd.R_mono HO_417004.out (fun _ hk => by first | exact ⟨hk.2.2.1, ⟨hk.2.2.2, hk.2.1⟩⟩ | grind)⟩, ⟨by (try simp only [hl425004_83]); (with_reducible repeat (first | apply Kd.R_alloc | apply Kd.R_drewN | apply Kd.R_drew)); exact Kd.R_mono HO_425004.out (fun _ hk => by first | exact ⟨hk.2.2.1, ⟨hk.2.2.2, hk.2.1⟩⟩ | grind)⟩, ⟨by (try simp only [hl425004_83]); (with_reducible repeat (first | apply Kd.R_alloc | apply Kd.R_drewN | apply Kd.R_drew)); exact Kd.R_mono HO_437004.out (fun _ hk => by first | exact ⟨hk.2.2.1, ⟨hk.2.2.2, hk.2.1⟩⟩ | grind)⟩, ⟨by (try simp only [hl425004_83]); (with_reducible repeat (first | apply Kd.R_alloc | apply Kd.R_drewN | apply Kd.R_drew)); exact Kd.R_mono HO468.out (fun _ hk => by first | exact ⟨hk.2.1, ⟨hk.2.2.1, hk.2.2.2⟩⟩ | grind)⟩, ⟨by (try simp only [hl425004_83]); exact bk_ BK395⟩, ⟨by (try simp only [hl425004_83]); exact bk_ BK396⟩, ⟨by (try simp only [hl425004_83]); exact bk_ BK416⟩, ⟨by (try simp only [hl425004_83]); exact bk_ BK424⟩, ⟨by (try simp only [hl425004_83]); exact bk_ BK436⟩, ⟨by (try simp only [hl425004_83]); exact bk_ BK470⟩, ⟨bf_ HB⟩⟩
           case rest =>
            clear HC134; (try clear c1); (try clear p2); (try clear c4); (try clear c15); (try clear c16); (try clear c17); (try clear c19); (try clear c42); (try clear c45); (try clear c157); (try clear c158); (try clear c159); (try clear c160); (try clear c161); (try clear c162); (try clear c164); (try clear c165); (try clear c166); (try clear c167); (try clear c170); (try clear c171); (try clear c172); (try clear c173); (try clear c174); (try clear c176); (try clear c177); (try clear c178); (try clear c179); (try clear hcz163_0 hcz163_1 hcz163_2 hcz163_3 hcz163_4 hfz163_0 hfz163_1 hfz163_2 hfz163_3 hfz163_4); (try clear hcz168_0 hcz168_1 hcz168_2 hcz168_3 hcz168_4 hfz168_0 hfz168_1 hfz168_2 hfz168_3 hfz168_4); (try clear hcz175_0 hcz175_1 hcz175_2 hcz175_3 hcz175_4 hfz175_0 hfz175_1 hfz175_2 hfz175_3 hfz175_4); (try clear hcz180_0 hcz180_1 hcz180_2 hcz180_3 hcz180_4 hfz180_0 hfz180_1 hfz180_2 hfz180_3 hfz180_4)
            obtain ⟨kq, x100_133, rfl, HA, HJ133, HO_417004, HO_425004, HO_437004, HO_471004, BK395, BK396, BK416, BK424, BK436, BK470, HB⟩ := hcut
            have hl437004_133 := (Kd.R_reads' HO_437004.out).1
            rw [hl437004_133] at HO_437004
            (try simp only [hl437004_133])
            (try simp only [hl437004_133] at BK395)
            (try simp only [hl437004_133] at BK396)
            (try simp only [hl437004_133] at BK416)
            (try simp only [hl437004_133] at BK424)
            (try simp only [hl437004_133] at BK436)
            (try simp only [hl437004_133] at BK470)
            (try simp only [hl437004_133] at HO_417004)
            (try simp only [hl437004_133] at HO_425004)
            (try simp only [hl437004_133] at HO_471004)
            cases kq with
            | zero => exact absurd HA.out (by simp [laws_FnExactFairServe.j2])
            | succ kj133 =>
             have H := HA.out
             clear HA
             simp only [laws_FnExactFairServe.j2] at H
             by_cases c182 : x100_133 = true
             ·subst c182
              have H1 : (some false) = some r := by rw [if_pos rfl] at H; exact H
              clear H
              have H := H1
              clear H1
              obtain rfl := Option.some.inj H
              go_wp2
              go_ret
              exact ⟨by first | rfl | (simp [errW_none, errW_some] <;> rfl) | (simp [*, errW_none, errW_some] <;> rfl), bf_ HB⟩
             ·replace c182 := Bool.eq_false_iff.mpr c182
              subst c182
              have H1 : ((laws_heldFair.f kj133 t428 t429 t430 t431 t450 1).bind fun t472 => (if t472 < 0 then (some false) else (if t472 = t449 then (some true) else (some false)))) = some r := by rw [if_neg (show ¬ (false = true) by decide)] at H; exact H
              clear H
              have H := H1
              clear H1
              replace H := Option.bind_eq_some_iff.mp H
              obtain ⟨t472, A1830, H⟩ := H
              replace H : (if t472 < 0 then (some false) else (if t472 = t449 then (some true) else (some false))) = some r := H
              have A183 := Aside0.mk A1830
              clear A1830
              by_cases c184 : t472 < 0
              ·rw [if_pos c184] at H
               have c184b0 : decide (t472 < 0) = true := decide_eq_true c184
               have c184b0l := c184b0
               (try simp only [hl425004_83, hl437004_133] at c184b0l)
               clear c184
               obtain rfl := Option.some.inj H
               have hnb185 := NB436_395.out; have hnc185 := NB395_436.out; have hnb186 := NB436_396.out; have hnc186 := NB396_436.out; have hnb187 := NB436_416.out; have hnc187 := NB416_436.out; have hnb188 := NB436_424.out; have hnc188 := NB424_436.out; have hnb189 := NB436_470.out; have hnc189 := NB470_436.out; obtain ⟨hcz190_0, hcz190_1, hcz190_2, hcz190_3, hcz190_4, hfz190_0, hfz190_1, hfz190_2, hfz190_3, hfz190_4⟩ := bz5_ BK436
               go_wp2_with (first | ((with_reducible refine gc_ 30 rfl ?_); refine gl_ 103 Try.func30 #[.agg #[.int .i64 t428, .int .i64 t429, .int .i64 t430, .int .i64 t431, .slice Ao55 t450.length co55], .int .i64 1] ?_; (with_reducible refine (laws_heldFair.calls kj133 t428 t429 t430 t431 _ _ t450 1 t472 _ ?side1 ?side2 A183.out).mono ?_); (case side1 => exact cr_ HO_437004); (case side2 => exact (Kd.R_reads' HO_437004.out).2.1); rintro e w191 ⟨rfl, hb⟩; refine ⟨_, rfl, ?_⟩; replace HO_417004 := Aside0.mk (Kd.R_below (kr_ HO_417004) hb); replace HO_425004 := Aside0.mk (Kd.R_below (kr_ HO_425004) hb); replace HO_437004 := Aside0.mk (Kd.R_below (kr_ HO_437004) hb); replace HO_471004 := Aside0.mk (Kd.R_below (kr_ HO_471004) hb); replace BK395 := bb_ BK395 hb; replace BK396 := bb_ BK396 hb; replace BK416 := bb_ BK416 hb; replace BK424 := bb_ BK424 hb; replace BK436 := bb_ BK436 hb; replace BK470 := bb_ BK470 hb; replace HB := Aside0.mk (below_step (bf_ HB) hb); (try clear hb); (try clear hb2); (try clear hk); (try clear hi)))
               go_ret
               exact ⟨by first | rfl | (simp [errW_none, errW_some] <;> rfl) | (simp [*, errW_none, errW_some] <;> rfl), bf_ HB⟩
              ·rw [if_neg c184] at H
               have c184b0 : decide (t472 < 0) = false := decide_eq_false c184
               have c184b0l := c184b0
               (try simp only [hl425004_83, hl437004_133] at c184b0l)
               clear c184
               by_cases c192 : t472 = t449
               ·rw [if_pos c192] at H
                have c192b0 : (t472 == t449) = true := beq_iff_eq.mpr c192
                have c192b0l := c192b0
                (try simp only [hl425004_83, hl437004_133] at c192b0l)
                have c192b1 : (t472 != t449) = false := bne_eq_false_iff_eq.mpr c192
                have c192b1l := c192b1
                (try simp only [hl425004_83, hl437004_133] at c192b1l)
                clear c192
                obtain rfl := Option.some.inj H
                have hnb193 := NB436_395.out; have hnc193 := NB395_436.out; have hnb194 := NB436_396.out; have hnc194 := NB396_436.out; have hnb195 := NB436_416.out; have hnc195 := NB416_436.out; have hnb196 := NB436_424.out; have hnc196 := NB424_436.out; have hnb197 := NB436_470.out; have hnc197 := NB470_436.out; obtain ⟨hcz198_0, hcz198_1, hcz198_2, hcz198_3, hcz198_4, hfz198_0, hfz198_1, hfz198_2, hfz198_3, hfz198_4⟩ := bz5_ BK436
                go_wp2_with (first | ((with_reducible refine gc_ 30 rfl ?_); refine gl_ 103 Try.func30 #[.agg #[.int .i64 t428, .int .i64 t429, .int .i64 t430, .int .i64 t431, .slice Ao55 t450.length co55], .int .i64 1] ?_; (with_reducible refine (laws_heldFair.calls kj133 t428 t429 t430 t431 _ _ t450 1 t472 _ ?side1 ?side2 A183.out).mono ?_); (case side1 => exact cr_ HO_437004); (case side2 => exact (Kd.R_reads' HO_437004.out).2.1); rintro e w199 ⟨rfl, hb⟩; refine ⟨_, rfl, ?_⟩; replace HO_417004 := Aside0.mk (Kd.R_below (kr_ HO_417004) hb); replace HO_425004 := Aside0.mk (Kd.R_below (kr_ HO_425004) hb); replace HO_437004 := Aside0.mk (Kd.R_below (kr_ HO_437004) hb); replace HO_471004 := Aside0.mk (Kd.R_below (kr_ HO_471004) hb); replace BK395 := bb_ BK395 hb; replace BK396 := bb_ BK396 hb; replace BK416 := bb_ BK416 hb; replace BK424 := bb_ BK424 hb; replace BK436 := bb_ BK436 hb; replace BK470 := bb_ BK470 hb; replace HB := Aside0.mk (below_step (bf_ HB) hb); (try clear hb); (try clear hb2); (try clear hk); (try clear hi)))
                go_ret
                exact ⟨by first | rfl | (simp [errW_none, errW_some] <;> rfl) | (simp [*, errW_none, errW_some] <;> rfl), bf_ HB⟩
               ·rw [if_neg c192] at H
                have c192b0 : (t472 == t449) = false := beq_eq_false_iff_ne.mpr c192
                have c192b0l := c192b0
                (try simp only [hl425004_83, hl437004_133] at c192b0l)
                have c192b1 : (t472 != t449) = true := bne_iff_ne.mpr c192
                have c192b1l := c192b1
                (try simp only [hl425004_83, hl437004_133] at c192b1l)
                obtain rfl := Option.some.inj H
                have hnb200 := NB436_395.out; have hnc200 := NB395_436.out; have hnb201 := NB436_396.out; have hnc201 := NB396_436.out; have hnb202 := NB436_416.out; have hnc202 := NB416_436.out; have hnb203 := NB436_424.out; have hnc203 := NB424_436.out; have hnb204 := NB436_470.out; have hnc204 := NB470_436.out; obtain ⟨hcz205_0, hcz205_1, hcz205_2, hcz205_3, hcz205_4, hfz205_0, hfz205_1, hfz205_2, hfz205_3, hfz205_4⟩ := bz5_ BK436
                go_wp2_with (first | ((with_reducible refine gc_ 30 rfl ?_); refine gl_ 103 Try.func30 #[.agg #[.int .i64 t428, .int .i64 t429, .int .i64 t430, .int .i64 t431, .slice Ao55 t450.length co55], .int .i64 1] ?_; (with_reducible refine (laws_heldFair.calls kj133 t428 t429 t430 t431 _ _ t450 1 t472 _ ?side1 ?side2 A183.out).mono ?_); (case side1 => exact cr_ HO_437004); (case side2 => exact (Kd.R_reads' HO_437004.out).2.1); rintro e w206 ⟨rfl, hb⟩; refine ⟨_, rfl, ?_⟩; replace HO_417004 := Aside0.mk (Kd.R_below (kr_ HO_417004) hb); replace HO_425004 := Aside0.mk (Kd.R_below (kr_ HO_425004) hb); replace HO_437004 := Aside0.mk (Kd.R_below (kr_ HO_437004) hb); replace HO_471004 := Aside0.mk (Kd.R_below (kr_ HO_471004) hb); replace BK395 := bb_ BK395 hb; replace BK396 := bb_ BK396 hb; replace BK416 := bb_ BK416 hb; replace BK424 := bb_ BK424 hb; replace BK436 := bb_ BK436 hb; replace BK470 := bb_ BK470 hb; replace HB := Aside0.mk (below_step (bf_ HB) hb); (try clear hb); (try clear hb2); (try clear hk); (try clear hi)))
                go_ret
                exact ⟨by first | rfl | (simp [errW_none, errW_some] <;> rfl) | (simp [*, errW_none, errW_some] <;> rfl), bf_ HB⟩
          ·rw [if_neg c130] at H
           have c130b0 : (t451 == t449) = false := beq_eq_false_iff_ne.mpr c130
           have c130b0l := c130b0
           (try simp only [hl425004_83] at c130b0l)
           have c130b1 : (t451 != t449) = true := bne_iff_ne.mpr c130
           have c130b1l := c130b1
           (try simp only [hl425004_83] at c130b1l)
           obtain rfl := Option.some.inj H
           have hnb207 := NB436_395.out; have hnc207 := NB395_436.out; have hnb208 := NB436_396.out; have hnc208 := NB396_436.out; have hnb209 := NB436_416.out; have hnc209 := NB416_436.out; have hnb210 := NB436_424.out; have hnc210 := NB424_436.out; obtain ⟨hcz211_0, hcz211_1, hcz211_2, hcz211_3, hcz211_4, hfz211_0, hfz211_1, hfz211_2, hfz211_3, hfz211_4⟩ := bz5_ BK436
           go_wp2_with (first | ((with_reducible refine gc_ 29 rfl ?_); refine gl_ 74 Try.func29 #[.agg #[.int .i64 t428, .int .i64 t429, .int .i64 t430, .int .i64 t431, .slice Ao55 t432.length co55], .int .i64 1] ?_; (with_reducible refine (laws_markFair.calls kj83 t428 t429 t430 t431 (fun k_ => some k_ = (.slice Ao55 t432.length co55 : Value).ownBlock) (.slice Ao55 t432.length co55) t432 1 t449 t450 w _ ?side1 ?side2 A119.out).mono ?_); (case side1 => repeat (first | (with_reducible first | exact HB.out | apply below_alloc | apply pw_below_drewN | apply below_drew1 | refine below_set ?_ GE395.out | refine below_set ?_ GE396.out | refine below_set ?_ GE416.out | refine below_set ?_ GE424.out | refine below_set ?_ GE436.out) | exact HB.out)); (case side2 => exact Kd.R_tight rfl HO_437004.out); rintro e w212 ⟨rfl, hy0, hb, hkp⟩; refine ⟨_, rfl, ?_⟩; replace HO_417004 := Aside0.mk (Kd.R_mono (ok' := fun k_ => some k_ ≠ (.slice Ao44 t447.length co44 : Value).ownBlock ∧ some k_ ≠ (.slice Ao55 t432.length co55 : Value).ownBlock) (Kd.R_keptB (HO_417004.out) hkp (fun k_ hk_ hs_ => by first | exact (hk_.2) hs_ | grind)) (fun k_ hk_ => by first | exact ⟨hk_.1.1, hk_.1.2⟩ | grind)); replace HO_425004 := Aside0.mk (Kd.R_mono (ok' := fun k_ => some k_ ≠ (.slice Ao34 t412.length co34 : Value).ownBlock ∧ some k_ ≠ (.slice Ao55 t432.length co55 : Value).ownBlock) (Kd.R_keptB (HO_425004.out) hkp (fun k_ hk_ hs_ => by first | exact (hk_.2) hs_ | grind)) (fun k_ hk_ => by first | exact ⟨hk_.1.1, hk_.1.2⟩ | grind)); replace BK395 := Aside0.mk (blk_kept (bk_ BK395) hkp (fun hs_ => (fun e_ => (Kd.R_ne HO_437004.out BK395.out (by decide)) e_) hs_)); replace BK396 := Aside0.mk (blk_kept (bk_ BK396) hkp (fun hs_ => (fun e_ => (Kd.R_ne HO_437004.out BK396.out (by decide)) e_) hs_)); replace BK416 := Aside0.mk (blk_kept (bk_ BK416) hkp (fun hs_ => (fun e_ => (Kd.R_ne HO_437004.out BK416.out (by decide)) e_) hs_)); replace BK424 := Aside0.mk (blk_kept (bk_ BK424) hkp (fun hs_ => (fun e_ => (Kd.R_ne HO_437004.out BK424.out (by decide)) e_) hs_)); replace BK436 := Aside0.mk (blk_kept (bk_ BK436) hkp (fun hs_ => (fun e_ => (Kd.R_ne HO_437004.out BK436.out (by decide)) e_) hs_)); replace HO_437004 := Aside0.mk (Kd.R_reok rfl hy0 (fun k_ e_ => HO_437004.out.1 k_ e_)); replace HB := Aside0.mk (hb); (try clear hb); (try clear hkp); (try clear hy0); obtain ⟨hcz213_0, hcz213_1, hcz213_2, hcz213_3, hcz213_4, hfz213_0, hfz213_1, hfz213_2, hfz213_3, hfz213_4⟩ := bz5_ BK436) | ((with_reducible refine gc_ 30 rfl ?_); refine goesL_ (some 77) rfl rfl Try.func30 (by kernel_rfl) rfl #[.agg #[.int .i64 t428, .int .i64 t429, .int .i64 t430, .int .i64 t431, .slice Ao55 t450.length co55], .int .i64 1] rfl (by (try simp only [List.map_toArray, List.map_cons, List.map_nil]); first | done | (rw [show t450.length = t432.length from (Kd.R_reads' HO_437004.out).1.symm] <;> rfl) | rfl | (simp only [List.length_drop, List.length_take]; rfl)) ?_; (with_reducible refine (laws_heldFair.calls kj83 t428 t429 t430 t431 _ _ t450 1 t451 _ ?side1 ?side2 A120.out).mono ?_); (case side1 => exact cr_ HO_437004); (case side2 => rw [show t450.length = t432.length from (Kd.R_reads' HO_437004.out).1.symm]; exact (Kd.R_reads' HO_437004.out).2.1); rintro e w214 ⟨rfl, hb⟩; refine ⟨_, rfl, ?_⟩; replace HO_417004 := Aside0.mk (Kd.R_below (kr_ HO_417004) hb); replace HO_425004 := Aside0.mk (Kd.R_below (kr_ HO_425004) hb); replace HO_437004 := Aside0.mk (Kd.R_below (kr_ HO_437004) hb); replace BK395 := bb_ BK395 hb; replace BK396 := bb_ BK396 hb; replace BK416 := bb_ BK416 hb; replace BK424 := bb_ BK424 hb; replace BK436 := bb_ BK436 hb; replace HB := Aside0.mk (below_step (bf_ HB) hb); (try clear hb); (try clear hb2); (try clear hk); (try clear hi)))
           go_ret
           exact ⟨by first | rfl | (simp [errW_none, errW_some] <;> rfl) | (simp [*, errW_none, errW_some] <;> rfl), bf_ HB⟩
     ·replace c82 := Bool.eq_false_iff.mpr c82
      subst c82
      have H1 : (some false) = some r := by rw [if_neg (show ¬ (false = true) by decide)] at H; exact H
      clear H
      have H := H1
      clear H1
      obtain rfl := Option.some.inj H
      try go_wp2
      replace HO_417004 := Aside0.mk (Kd.R_drew HO_417004.out); replace HO_425004 := Aside0.mk (Kd.R_drew HO_425004.out); replace HO_437004 := Aside0.mk (Kd.R_drew HO_437004.out); replace BK395 := Aside0.mk (blk_drew BK395.out); replace BK396 := Aside0.mk (blk_drew BK396.out); replace BK416 := Aside0.mk (blk_drew BK416.out); replace BK424 := Aside0.mk (blk_drew BK424.out); replace BK436 := Aside0.mk (blk_drew BK436.out); replace HB := Aside0.mk (below_drew1 HB.out)
      refine start_ (n := 5) (S := fun w' => cw_ w' gb424 0 (.int .i64 t417) ∧ cw_ w' gb424 1 (.int .i64 t418) ∧ cw_ w' gb424 2 (.int .i64 t419) ∧ cw_ w' gb424 3 (.int .i64 t420) ∧ cw_ w' gb424 4 (.slice Ao44 t421.length co44) ∧ cw_ w' gb395 0 (.int .i64 a0_0) ∧ cw_ w' gb395 1 (.int .i64 a0_1) ∧ cw_ w' gb395 2 (.int .i64 a0_2) ∧ cw_ w' gb395 3 (.int .i64 a0_3) ∧ cw_ w' gb395 4 (.slice A0_4 l0_4.length c0_4)) (ds := []) (bs 5 0) (by kernel_rfl) rfl rfl ⟨bt_ BK424 0, bt_ BK424 1, bt_ BK424 2, bt_ BK424 3, bt_ BK424 4, bt_ BK395 0, bt_ BK395 1, bt_ BK395 2, bt_ BK395 3, bt_ BK395 4⟩ (fun hHeld => ?_)
      generalize wc.drew = w215 at HO_417004 HO_425004 HO_437004 BK395 BK396 BK416 BK424 BK436 HB hHeld ⊢
      refine tk0_ 0 51 (bs 5 1) hHeld ?_
      refine tk0_ 1 52 (bs 5 2) hHeld ?_
      refine on0_ 2 (some 53) (bs 5 3) (fun K hK => ?_)
      refine gs_ Try.func17 #[.agg #[.int .i64 a0_0, .int .i64 a0_1, .int .i64 a0_2, .int .i64 a0_3, .slice A0_4 l0_4.length c0_4]] ?_
      with_reducible refine (laws_toFair.calls kj16 a0_0 a0_1 a0_2 a0_3 _ _ l0_4 t438 t439 t440 t441 t442 _ ?side1 ?side2 A80.out).mono ?_
      (case side1 => repeat (first | exact (Kd.C_below HR0_4.out HB.out) | (with_reducible refine Kd.C_alloc ?_ _) | (with_reducible refine Kd.C_drewN ?_ _) | (with_reducible refine Kd.C_drew ?_)))
      (case side2 => exact HC0_4.out)
      rintro e w216 ⟨v443, rfl, ho0, hb⟩
      refine ⟨_, rfl, ?_⟩
      have HO444 := Aside0.mk (Kd.R_lower (Kd.R_new' (Kd.R_new' (Kd.R_new' ho0 (Kd.R_lt (kr_ HO_417004))) (Kd.R_lt (kr_ HO_425004))) (Kd.R_lt (kr_ HO_437004))) (below_size (bf_ HB))); replace HO_417004 := Aside0.mk (Kd.R_elder' (kr_ HO_417004) (Kd.R_base ho0) hb); replace HO_425004 := Aside0.mk (Kd.R_elder' (kr_ HO_425004) (Kd.R_base ho0) hb); replace HO_437004 := Aside0.mk (Kd.R_elder' (kr_ HO_437004) (Kd.R_base ho0) hb); replace BK395 := bb_ BK395 hb; replace BK396 := bb_ BK396 hb; replace BK416 := bb_ BK416 hb; replace BK424 := bb_ BK424 hb; replace BK436 := bb_ BK436 hb; replace HB := Aside0.mk (below_step (bf_ HB) hb); (try clear hb); (try clear hb2); (try clear hk); (try clear hi); (try clear ho0)
      obtain ⟨Ao217, co217, eo217⟩ := Kd.R_slice HO444.out
      (first | subst eo217 | (injection eo217 with f1_ f2_ f3_; have f4_ := f1_.symm; have f5_ := f3_.symm; clear f1_ f2_ f3_; subst f4_; subst f5_))
      refine hK.out _ _ ⟨bt_ BK424 0, bt_ BK424 1, bt_ BK424 2, bt_ BK424 3, bt_ BK424 4, bt_ BK395 0, bt_ BK395 1, bt_ BK395 2, bt_ BK395 3, bt_ BK395 4⟩ (fun hHeld => ?_)
      clear hK K
      refine norm_ (a' := ?_) ?_ ?_
      rotate_left
      ·show Act.put _ (some 53) _ = _
       simp only [Act.put, ls0_, ls1_, ls2_, i64_w, i32_w]
       rfl
      refine on0_ 3 (some 54) (bs 5 4) (fun K hK => ?_)
      refine gs_ Try.func19 #[.agg #[.int .i64 t417, .int .i64 t418, .int .i64 t419, .int .i64 t420, .slice Ao44 t421.length co44], .agg #[.int .i64 t438, .int .i64 t439, .int .i64 t440, .int .i64 t441, .slice Ao217 t442.length co217]] ?_
      with_reducible refine (laws_eqFair.calls kj16 t417 t418 t419 t420 _ _ t421 t438 t439 t440 t441 _ _ t442 false _ ?side1 ?side2 ?side3 ?side4 A81.out).mono ?_
      (case side1 => exact cr_ HO_425004)
      (case side2 => exact (Kd.R_reads' HO_425004.out).2.1)
      (case side3 => exact cr_ HO444)
      (case side4 => exact (Kd.R_reads' HO444.out).2.1)
      rintro e w218 ⟨rfl, hb⟩
      refine ⟨_, rfl, ?_⟩
      replace HO_417004 := Aside0.mk (Kd.R_below (kr_ HO_417004) hb); replace HO_425004 := Aside0.mk (Kd.R_below (kr_ HO_425004) hb); replace HO_437004 := Aside0.mk (Kd.R_below (kr_ HO_437004) hb); replace HO444 := Aside0.mk (Kd.R_below (kr_ HO444) hb); replace BK395 := bb_ BK395 hb; replace BK396 := bb_ BK396 hb; replace BK416 := bb_ BK416 hb; replace BK424 := bb_ BK424 hb; replace BK436 := bb_ BK436 hb; replace HB := Aside0.mk (below_step (bf_ HB) hb); (try clear hb); (try clear hb2); (try clear hk); (try clear hi)
      refine hK.out _ _ ⟨bt_ BK424 0, bt_ BK424 1, bt_ BK424 2, bt_ BK424 3, bt_ BK424 4, bt_ BK395 0, bt_ BK395 1, bt_ BK395 2, bt_ BK395 3, bt_ BK395 4⟩ (fun hHeld => ?_)
      clear hK K
      refine norm_ (a' := ?_) ?_ ?_
      rotate_left
      ·show Act.put _ (some 54) _ = _
       simp only [Act.put, ls0_, ls1_, ls2_, i64_w, i32_w]
       rfl
      refine ps0_ 4 55 (bs 5 5) ?_
      refine done_ (by kernel_rfl) ?_
      try go_wp2
      go_ret
      exact ⟨by first | rfl | (simp [errW_none, errW_some] <;> rfl) | (simp [*, errW_none, errW_some] <;> rfl), bf_ HB⟩

/-! What is told of arguments that came in -/
def W23 (x : S23) : Prop := ((Lit.int .i64 x.f0).wf = true) ∧ ((Lit.int .i64 x.f1).wf = true) ∧ ((Lit.int .i64 x.f2).wf = true)
def W85 (x : S85) : Prop := ((Lit.int .i64 x.f0).wf = true) ∧ ((Lit.int .i64 x.f1).wf = true) ∧ (True) ∧ (W23 x.f3)
def W26 (x : S26) : Prop := ((Lit.int .i64 x.f0).wf = true) ∧ (W23 x.f1) ∧ ((x.f2.length ≤ maxLen ∧ ∀ y_ ∈ x.f2, W85 y_))
/-- THE ONE PURE STATEMENT of laws_FnExactFairServe: yours. -/
def laws_FnExactFairServe.Pure : Prop := ∀ (a0_0 : Int) (a0_1 : Int) (a0_2 : Int) (a0_3 : Int) (l0_4 : List (S85)) (a1_0 : Int) (a1_1 : Int) (a1_2 : Int) (a2 : Bool), W26 (⟨a0_0, (⟨a0_1, a0_2, a0_3⟩ : S23), l0_4⟩ : S26) → W23 (⟨a1_0, a1_1, a1_2⟩ : S23) → ∃ k, laws_FnExactFairServe.f k a0_0 a0_1 a0_2 a0_3 l0_4 a1_0 a1_1 a1_2 a2 = some true
theorem laws_FnExactFairServe.walk (P : laws_FnExactFairServe.Pure) (w : World) (x0 : S26) (A0_4 : Option Addr) (c0_4 : Nat) (hc0_4 : x0.f2.length ≤ c0_4) (hr0_4 : Kd.C k85 w A0_4 x0.f2.length x0.f2) (hw0 : W26 x0) (x1 : S23) (hw1 : W23 x1) (a2 : Bool) :
  Calls Try.prog 13 #[.agg #[.int .i64 x0.f0, .int .i64 x0.f1.f0, .int .i64 x0.f1.f1, .int .i64 x0.f1.f2, .slice A0_4 x0.f2.length c0_4], .agg #[.int .i64 x1.f0, .int .i64 x1.f1, .int .i64 x1.f2], .bool a2] w fun e w' => e = .returned (.bool true) ∧ Below w.heap.size w w' := by
 obtain ⟨k, h⟩ := P (x0.f0) (x0.f1.f0) (x0.f1.f1) (x0.f1.f2) (x0.f2) (x1.f0) (x1.f1) (x1.f2) a2 hw0 hw1
 refine (laws_FnExactFairServe.calls k (x0.f0) (x0.f1.f0) (x0.f1.f1) (x0.f1.f2) A0_4 c0_4 x0.f2 (x1.f0) (x1.f1) (x1.f2) a2 true w hr0_4 hc0_4 h).mono ?_
 rintro e w' ⟨rfl, hd⟩
 exact ⟨rfl, hd⟩

end Go.Proofs.Ytljhaoiopokmfaa.PFnExactFairServe
