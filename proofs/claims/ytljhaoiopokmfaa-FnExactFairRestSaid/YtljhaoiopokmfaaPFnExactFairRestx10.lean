-- printed by a program of this session (wip/printx) out of the translation; Lean checks it
import Derived.Test.YtljhaoiopokmfaaPFnExactFairRestx0
import Derived.Test.YtljhaoiopokmfaaPFnExactFairRestx1
import Derived.Test.YtljhaoiopokmfaaPFnExactFairRestx4
import Derived.Test.YtljhaoiopokmfaaPFnExactFairRestx8
import Derived.Test.YtljhaoiopokmfaaPFnExactFairRestx9
namespace Go.Proofs.Ytljhaoiopokmfaa.PFnExactFairRest
open Go.RowKit Go.Proofs.YtljhaoiopokmfaaW.PrintWords Go.Proofs.YtljhaoiopokmfaaW.PrintLast Go.Proofs.YtljhaoiopokmfaaW.PrintMore
attribute [local go_sem] max2_int min2_int max_two min_two max_three min_three max_four min_four   -- for this text's walks alone
set_option linter.unusedVariables false
set_option linter.unusedSimpArgs false

/-! ### laws_FnExactFairRest: function 7 -/
mutual
def laws_FnExactFairRest.j0 : Nat → Int → Int → Int → Bool → Int → Int → Int → Int → List (S85) → Int → Int → Int → Int → List (S38) → Int → Int → Int → Int → List (S38) → Int → Int → Int → Int → List (S38) → Option (Bool)
  | 0, _, _, _, _, _, _, _, _, _, _, _, _, _, _, _, _, _, _, _, _, _, _, _, _ => none
  | k + 1, x1, x7, x10, x44, x267000, x267001, x267002, x267003, x267004, x284000, x284001, x284002, x284003, x284004, x292000, x292001, x292002, x292003, x292004, x301000, x301001, x301002, x301003, x301004 => if x44 = true then (some false) else ((laws_toFair.f k x267000 x267001 x267002 x267003 x267004).bind fun bt302 => ((laws_eqFair.f k x292000 x292001 x292002 x292003 x292004 bt302.1 bt302.2.1 bt302.2.2.1 bt302.2.2.2.1 bt302.2.2.2.2).bind fun t309 => (if t309 = true then ((laws_markFair.f k x292000 x292001 x292002 x292003 x292004 1).bind fun bt310 => (if bt310.1 < 0 then (laws_FnExactFairRest.j1 k x1 x7 true x267000 x267001 x267002 x267003 x267004 x284000 x284001 x284002 x284003 x284004 x301000 x301001 x301002 x301003 x301004) else ((laws_eqFair.f k x301000 x301001 x301002 x301003 x301004 x284000 x284001 x284002 x284003 x284004).bind fun t312 => (if t312 = true then (laws_FnExactFairRest.j1 k x1 x7 (x10 != x7) x267000 x267001 x267002 x267003 x267004 x284000 x284001 x284002 x284003 x284004 x301000 x301001 x301002 x301003 x301004) else (laws_FnExactFairRest.j1 k x1 x7 true x267000 x267001 x267002 x267003 x267004 x284000 x284001 x284002 x284003 x284004 x301000 x301001 x301002 x301003 x301004))))) else (some false))))
def laws_FnExactFairRest.j1 : Nat → Int → Int → Bool → Int → Int → Int → Int → List (S85) → Int → Int → Int → Int → List (S38) → Int → Int → Int → Int → List (S38) → Option (Bool)
  | 0, _, _, _, _, _, _, _, _, _, _, _, _, _, _, _, _, _, _ => none
  | k + 1, x1, x7, x65, x267000, x267001, x267002, x267003, x267004, x284000, x284001, x284002, x284003, x284004, x301000, x301001, x301002, x301003, x301004 => if x65 = true then (some false) else ((laws_markFair.f k x301000 x301001 x301002 x301003 x301004 1).bind fun bt313 => ((laws_heldFair.f k x301000 x301001 x301002 x301003 bt313.2 1).bind fun t315 => (if t315 < 0 then (some false) else (if t315 = bt313.1 then ((laws_toFair.f k x267000 x267001 x267002 x267003 x267004).bind fun bt316 => ((impl_FairRest.f k bt316.1 bt316.2.1 bt316.2.2.1 bt316.2.2.2.1 bt316.2.2.2.2 x1).bind fun bt323 => ((laws_eqFair.f k bt323.1 bt323.2.1 bt323.2.2.1 bt323.2.2.2.1 bt323.2.2.2.2.1 x284000 x284001 x284002 x284003 x284004).bind fun t332 => (if t332 = true then (laws_FnExactFairRest.j2 k bt313.1 (bt323.2.2.2.2.2 != x7) x301000 x301001 x301002 x301003 bt313.2) else (laws_FnExactFairRest.j2 k bt313.1 true x301000 x301001 x301002 x301003 bt313.2))))) else (some false)))))
def laws_FnExactFairRest.j2 : Nat → Int → Bool → Int → Int → Int → Int → List (S38) → Option (Bool)
  | 0, _, _, _, _, _, _, _ => none
  | k + 1, x12, x92, x301000, x301001, x301002, x301003, x301004 => if x92 = true then (some false) else ((laws_heldFair.f k x301000 x301001 x301002 x301003 x301004 1).bind fun t333 => (if t333 < 0 then (some false) else (if t333 = x12 then (some true) else (some false))))
end
def laws_FnExactFairRest.f (k : Nat) (a0_0 : Int) (a0_1 : Int) (a0_2 : Int) (a0_3 : Int) (l0_4 : List (S85)) (a1 : Int) : Option (Bool) := (laws_szFair.f a0_0 a0_1 a0_2 a0_3 l0_4 1048576).bind fun t267 => (if t267 < 0 then (some true) else ((laws_toFair.f k a0_0 a0_1 a0_2 a0_3 l0_4).bind fun bt268 => ((spec_FairRest.f k bt268.1 bt268.2.1 bt268.2.2.1 bt268.2.2.2.1 bt268.2.2.2.2 a1).bind fun bt275 => ((laws_toFair.f k a0_0 a0_1 a0_2 a0_3 l0_4).bind fun bt284 => ((impl_FairRest.f k bt284.1 bt284.2.1 bt284.2.2.1 bt284.2.2.2.1 bt284.2.2.2.2 a1).bind fun bt292 => ((laws_eqFair.f k bt292.1 bt292.2.1 bt292.2.2.1 bt292.2.2.2.1 bt292.2.2.2.2.1 bt275.1 bt275.2.1 bt275.2.2.1 bt275.2.2.2.1 bt275.2.2.2.2.1).bind fun t301 => (if t301 = true then (laws_FnExactFairRest.j0 k a1 bt275.2.2.2.2.2 bt292.2.2.2.2.2 (bt292.2.2.2.2.2 != bt275.2.2.2.2.2) a0_0 a0_1 a0_2 a0_3 l0_4 bt275.1 bt275.2.1 bt275.2.2.1 bt275.2.2.2.1 bt275.2.2.2.2.1 bt284.1 bt284.2.1 bt284.2.2.1 bt284.2.2.2.1 bt284.2.2.2.2 bt292.1 bt292.2.1 bt292.2.2.1 bt292.2.2.2.1 bt292.2.2.2.2.1) else (laws_FnExactFairRest.j0 k a1 bt275.2.2.2.2.2 bt292.2.2.2.2.2 true a0_0 a0_1 a0_2 a0_3 l0_4 bt275.1 bt275.2.1 bt275.2.2.1 bt275.2.2.2.1 bt275.2.2.2.2.1 bt284.1 bt284.2.1 bt284.2.2.1 bt284.2.2.2.1 bt284.2.2.2.2 bt292.1 bt292.2.1 bt292.2.2.1 bt292.2.2.2.1 bt292.2.2.2.2.1))))))))
theorem laws_FnExactFairRest.mono_l : ∀ k, (∀ y0 y1 y2 y3 y4 y5 y6 y7 y8 y9 y10 y11 y12 y13 y14 y15 y16 y17 y18 y19 y20 y21 y22 y23, LeO (laws_FnExactFairRest.j0 k y0 y1 y2 y3 y4 y5 y6 y7 y8 y9 y10 y11 y12 y13 y14 y15 y16 y17 y18 y19 y20 y21 y22 y23) (laws_FnExactFairRest.j0 (k + 1) y0 y1 y2 y3 y4 y5 y6 y7 y8 y9 y10 y11 y12 y13 y14 y15 y16 y17 y18 y19 y20 y21 y22 y23)) ∧ (∀ y0 y1 y2 y3 y4 y5 y6 y7 y8 y9 y10 y11 y12 y13 y14 y15 y16 y17, LeO (laws_FnExactFairRest.j1 k y0 y1 y2 y3 y4 y5 y6 y7 y8 y9 y10 y11 y12 y13 y14 y15 y16 y17) (laws_FnExactFairRest.j1 (k + 1) y0 y1 y2 y3 y4 y5 y6 y7 y8 y9 y10 y11 y12 y13 y14 y15 y16 y17)) ∧ (∀ y0 y1 y2 y3 y4 y5 y6, LeO (laws_FnExactFairRest.j2 k y0 y1 y2 y3 y4 y5 y6) (laws_FnExactFairRest.j2 (k + 1) y0 y1 y2 y3 y4 y5 y6))
 | 0 => ⟨fun _ _ _ _ _ _ _ _ _ _ _ _ _ _ _ _ _ _ _ _ _ _ _ _ r h => by simp [laws_FnExactFairRest.j0] at h, fun _ _ _ _ _ _ _ _ _ _ _ _ _ _ _ _ _ _ r h => by simp [laws_FnExactFairRest.j1] at h, fun _ _ _ _ _ _ _ r h => by simp [laws_FnExactFairRest.j2] at h⟩
 | k + 1 => by
  obtain ⟨ih0, ih1, ih2⟩ := laws_FnExactFairRest.mono_l k
  refine ⟨?_, ?_, ?_⟩
  ·intro y0 y1 y2 y3 y4 y5 y6 y7 y8 y9 y10 y11 y12 y13 y14 y15 y16 y17 y18 y19 y20 y21 y22 y23
   unfold laws_FnExactFairRest.j0
   repeat' first
   | (with_reducible exact ih0 _ _ _ _ _ _ _ _ _ _ _ _ _ _ _ _ _ _ _ _ _ _ _ _)
   | (with_reducible exact ih1 _ _ _ _ _ _ _ _ _ _ _ _ _ _ _ _ _ _)
   | (with_reducible exact ih2 _ _ _ _ _ _ _)
   | (with_reducible exact impl_FairRest.mono _ _ _ _ _ _ _)
   | (with_reducible exact laws_eqFair.mono _ _ _ _ _ _ _ _ _ _ _)
   | (with_reducible exact laws_heldFair.mono _ _ _ _ _ _ _)
   | (with_reducible exact laws_markFair.mono _ _ _ _ _ _ _)
   | (with_reducible exact laws_toFair.mono _ _ _ _ _ _)
   | (with_reducible exact spec_FairRest.mono _ _ _ _ _ _ _)
   | (with_reducible exact LeO.refl _)
   | (with_reducible exact LeO.none _)
   | (with_reducible refine LeO.ite ?_ ?_)
   | (with_reducible refine LeO.bind ?_ (fun _ => ?_))
   | exact ih0 _ _ _ _ _ _ _ _ _ _ _ _ _ _ _ _ _ _ _ _ _ _ _ _
   | exact ih1 _ _ _ _ _ _ _ _ _ _ _ _ _ _ _ _ _ _
   | exact ih2 _ _ _ _ _ _ _
   | exact impl_FairRest.mono _ _ _ _ _ _ _
   | exact laws_eqFair.mono _ _ _ _ _ _ _ _ _ _ _
   | exact laws_heldFair.mono _ _ _ _ _ _ _
   | exact laws_markFair.mono _ _ _ _ _ _ _
   | exact laws_toFair.mono _ _ _ _ _ _
   | exact spec_FairRest.mono _ _ _ _ _ _ _
   | exact LeO.none _
   | refine LeO.ite ?_ ?_
   | refine LeO.bind ?_ (fun _ => ?_)
  ·intro y0 y1 y2 y3 y4 y5 y6 y7 y8 y9 y10 y11 y12 y13 y14 y15 y16 y17
   unfold laws_FnExactFairRest.j1
   repeat' first
   | (with_reducible exact ih0 _ _ _ _ _ _ _ _ _ _ _ _ _ _ _ _ _ _ _ _ _ _ _ _)
   | (with_reducible exact ih1 _ _ _ _ _ _ _ _ _ _ _ _ _ _ _ _ _ _)
   | (with_reducible exact ih2 _ _ _ _ _ _ _)
   | (with_reducible exact impl_FairRest.mono _ _ _ _ _ _ _)
   | (with_reducible exact laws_eqFair.mono _ _ _ _ _ _ _ _ _ _ _)
   | (with_reducible exact laws_heldFair.mono _ _ _ _ _ _ _)
   | (with_reducible exact laws_markFair.mono _ _ _ _ _ _ _)
   | (with_reducible exact laws_toFair.mono _ _ _ _ _ _)
   | (with_reducible exact spec_FairRest.mono _ _ _ _ _ _ _)
   | (with_reducible exact LeO.refl _)
   | (with_reducible exact LeO.none _)
   | (with_reducible refine LeO.ite ?_ ?_)
   | (with_reducible refine LeO.bind ?_ (fun _ => ?_))
   | exact ih0 _ _ _ _ _ _ _ _ _ _ _ _ _ _ _ _ _ _ _ _ _ _ _ _
   | exact ih1 _ _ _ _ _ _ _ _ _ _ _ _ _ _ _ _ _ _
   | exact ih2 _ _ _ _ _ _ _
   | exact impl_FairRest.mono _ _ _ _ _ _ _
   | exact laws_eqFair.mono _ _ _ _ _ _ _ _ _ _ _
   | exact laws_heldFair.mono _ _ _ _ _ _ _
   | exact laws_markFair.mono _ _ _ _ _ _ _
   | exact laws_toFair.mono _ _ _ _ _ _
   | exact spec_FairRest.mono _ _ _ _ _ _ _
   | exact LeO.none _
   | refine LeO.ite ?_ ?_
   | refine LeO.bind ?_ (fun _ => ?_)
  ·intro y0 y1 y2 y3 y4 y5 y6
   unfold laws_FnExactFairRest.j2
   repeat' first
   | (with_reducible exact ih0 _ _ _ _ _ _ _ _ _ _ _ _ _ _ _ _ _ _ _ _ _ _ _ _)
   | (with_reducible exact ih1 _ _ _ _ _ _ _ _ _ _ _ _ _ _ _ _ _ _)
   | (with_reducible exact ih2 _ _ _ _ _ _ _)
   | (with_reducible exact impl_FairRest.mono _ _ _ _ _ _ _)
   | (with_reducible exact laws_eqFair.mono _ _ _ _ _ _ _ _ _ _ _)
   | (with_reducible exact laws_heldFair.mono _ _ _ _ _ _ _)
   | (with_reducible exact laws_markFair.mono _ _ _ _ _ _ _)
   | (with_reducible exact laws_toFair.mono _ _ _ _ _ _)
   | (with_reducible exact spec_FairRest.mono _ _ _ _ _ _ _)
   | (with_reducible exact LeO.refl _)
   | (with_reducible exact LeO.none _)
   | (with_reducible refine LeO.ite ?_ ?_)
   | (with_reducible refine LeO.bind ?_ (fun _ => ?_))
   | exact ih0 _ _ _ _ _ _ _ _ _ _ _ _ _ _ _ _ _ _ _ _ _ _ _ _
   | exact ih1 _ _ _ _ _ _ _ _ _ _ _ _ _ _ _ _ _ _
   | exact ih2 _ _ _ _ _ _ _
   | exact impl_FairRest.mono _ _ _ _ _ _ _
   | exact laws_eqFair.mono _ _ _ _ _ _ _ _ _ _ _
   | exact laws_heldFair.mono _ _ _ _ _ _ _
   | exact laws_markFair.mono _ _ _ _ _ _ _
   | exact laws_toFair.mono _ _ _ _ _ _
   | exact spec_FairRest.mono _ _ _ _ _ _ _
   | exact LeO.none _
   | refine LeO.ite ?_ ?_
   | refine LeO.bind ?_ (fun _ => ?_)
theorem laws_FnExactFairRest.mono : ∀ a0 a1 a2 a3 a4 a5 k, LeO (laws_FnExactFairRest.f k a0 a1 a2 a3 a4 a5) (laws_FnExactFairRest.f (k + 1) a0 a1 a2 a3 a4 a5) := by
 intro a0 a1 a2 a3 a4 a5 k
 obtain ⟨ih0, ih1, ih2⟩ := laws_FnExactFairRest.mono_l k
 unfold laws_FnExactFairRest.f
 repeat' first
   | (with_reducible exact ih0 _ _ _ _ _ _ _ _ _ _ _ _ _ _ _ _ _ _ _ _ _ _ _ _)
   | (with_reducible exact ih1 _ _ _ _ _ _ _ _ _ _ _ _ _ _ _ _ _ _)
   | (with_reducible exact ih2 _ _ _ _ _ _ _)
   | (with_reducible exact impl_FairRest.mono _ _ _ _ _ _ _)
   | (with_reducible exact laws_eqFair.mono _ _ _ _ _ _ _ _ _ _ _)
   | (with_reducible exact laws_heldFair.mono _ _ _ _ _ _ _)
   | (with_reducible exact laws_markFair.mono _ _ _ _ _ _ _)
   | (with_reducible exact laws_toFair.mono _ _ _ _ _ _)
   | (with_reducible exact spec_FairRest.mono _ _ _ _ _ _ _)
   | (with_reducible exact LeO.refl _)
   | (with_reducible exact LeO.none _)
   | (with_reducible refine LeO.ite ?_ ?_)
   | (with_reducible refine LeO.bind ?_ (fun _ => ?_))
   | exact ih0 _ _ _ _ _ _ _ _ _ _ _ _ _ _ _ _ _ _ _ _ _ _ _ _
   | exact ih1 _ _ _ _ _ _ _ _ _ _ _ _ _ _ _ _ _ _
   | exact ih2 _ _ _ _ _ _ _
   | exact impl_FairRest.mono _ _ _ _ _ _ _
   | exact laws_eqFair.mono _ _ _ _ _ _ _ _ _ _ _
   | exact laws_heldFair.mono _ _ _ _ _ _ _
   | exact laws_markFair.mono _ _ _ _ _ _ _
   | exact laws_toFair.mono _ _ _ _ _ _
   | exact spec_FairRest.mono _ _ _ _ _ _ _
   | exact LeO.none _
   | refine LeO.ite ?_ ?_
   | refine LeO.bind ?_ (fun _ => ?_)
set_option maxHeartbeats 8000000 in
set_option maxRecDepth 100000 in
theorem laws_FnExactFairRest.calls (k : Nat) (a0_0 : Int) (a0_1 : Int) (a0_2 : Int) (a0_3 : Int) (A0_4 : Option Addr) (c0_4 : Nat) (l0_4 : List (S85)) (a1 : Int) (r : Bool) (w : World) (hr0_4 : Kd.C k85 w A0_4 l0_4.length l0_4) (hc0_4 : l0_4.length ≤ c0_4) (h : laws_FnExactFairRest.f k a0_0 a0_1 a0_2 a0_3 l0_4 a1 = some r) :
  Calls Try.prog 7 #[.agg #[.int .i64 a0_0, .int .i64 a0_1, .int .i64 a0_2, .int .i64 a0_3, .slice A0_4 l0_4.length c0_4], .int .i64 a1] w fun e w' => e = .returned (.bool r) ∧ Below w.heap.size w w' := by
 have hu26 := Try.underlying26
 have hu32 := Try.underlying32
 have HR0_4 := Aside0.mk hr0_4
 have HC0_4 := Aside0.mk hc0_4
 clear hr0_4 hc0_4
 have HB := Aside0.mk (Below.refl w.heap.size w)
 have H : ((laws_szFair.f a0_0 a0_1 a0_2 a0_3 l0_4 1048576).bind fun t267 => (if t267 < 0 then (some true) else ((laws_toFair.f k a0_0 a0_1 a0_2 a0_3 l0_4).bind fun bt268 => ((spec_FairRest.f k bt268.1 bt268.2.1 bt268.2.2.1 bt268.2.2.2.1 bt268.2.2.2.2 a1).bind fun bt275 => ((laws_toFair.f k a0_0 a0_1 a0_2 a0_3 l0_4).bind fun bt284 => ((impl_FairRest.f k bt284.1 bt284.2.1 bt284.2.2.1 bt284.2.2.2.1 bt284.2.2.2.2 a1).bind fun bt292 => ((laws_eqFair.f k bt292.1 bt292.2.1 bt292.2.2.1 bt292.2.2.2.1 bt292.2.2.2.2.1 bt275.1 bt275.2.1 bt275.2.2.1 bt275.2.2.2.1 bt275.2.2.2.2.1).bind fun t301 => (if t301 = true then (laws_FnExactFairRest.j0 k a1 bt275.2.2.2.2.2 bt292.2.2.2.2.2 (bt292.2.2.2.2.2 != bt275.2.2.2.2.2) a0_0 a0_1 a0_2 a0_3 l0_4 bt275.1 bt275.2.1 bt275.2.2.1 bt275.2.2.2.1 bt275.2.2.2.2.1 bt284.1 bt284.2.1 bt284.2.2.1 bt284.2.2.2.1 bt284.2.2.2.2 bt292.1 bt292.2.1 bt292.2.2.1 bt292.2.2.2.1 bt292.2.2.2.2.1) else (laws_FnExactFairRest.j0 k a1 bt275.2.2.2.2.2 bt292.2.2.2.2.2 true a0_0 a0_1 a0_2 a0_3 l0_4 bt275.1 bt275.2.1 bt275.2.2.1 bt275.2.2.2.1 bt275.2.2.2.2.1 bt284.1 bt284.2.1 bt284.2.2.1 bt284.2.2.2.1 bt284.2.2.2.2 bt292.1 bt292.2.1 bt292.2.2.1 bt292.2.2.2.1 bt292.2.2.2.2.1))))))))) = some r := h
 clear h
 replace H := Option.bind_eq_some_iff.mp H
 obtain ⟨t267, A30, H⟩ := H
 replace H : (if t267 < 0 then (some true) else ((laws_toFair.f k a0_0 a0_1 a0_2 a0_3 l0_4).bind fun bt268 => ((spec_FairRest.f k bt268.1 bt268.2.1 bt268.2.2.1 bt268.2.2.2.1 bt268.2.2.2.2 a1).bind fun bt275 => ((laws_toFair.f k a0_0 a0_1 a0_2 a0_3 l0_4).bind fun bt284 => ((impl_FairRest.f k bt284.1 bt284.2.1 bt284.2.2.1 bt284.2.2.2.1 bt284.2.2.2.2 a1).bind fun bt292 => ((laws_eqFair.f k bt292.1 bt292.2.1 bt292.2.2.1 bt292.2.2.2.1 bt292.2.2.2.2.1 bt275.1 bt275.2.1 bt275.2.2.1 bt275.2.2.2.1 bt275.2.2.2.2.1).bind fun t301 => (if t301 = true then (laws_FnExactFairRest.j0 k a1 bt275.2.2.2.2.2 bt292.2.2.2.2.2 (bt292.2.2.2.2.2 != bt275.2.2.2.2.2) a0_0 a0_1 a0_2 a0_3 l0_4 bt275.1 bt275.2.1 bt275.2.2.1 bt275.2.2.2.1 bt275.2.2.2.2.1 bt284.1 bt284.2.1 bt284.2.2.1 bt284.2.2.2.1 bt284.2.2.2.2 bt292.1 bt292.2.1 bt292.2.2.1 bt292.2.2.2.1 bt292.2.2.2.2.1) else (laws_FnExactFairRest.j0 k a1 bt275.2.2.2.2.2 bt292.2.2.2.2.2 true a0_0 a0_1 a0_2 a0_3 l0_4 bt275.1 bt275.2.1 bt275.2.2.1 bt275.2.2.2.1 bt275.2.2.2.2.1 bt284.1 bt284.2.1 bt284.2.2.1 bt284.2.2.2.1 bt284.2.2.2.2 bt292.1 bt292.2.1 bt292.2.2.1 bt292.2.2.2.1 bt292.2.2.2.2.1)))))))) = some r := H
 have A3 := Aside0.mk A30
 clear A30
 by_cases c4 : t267 < 0
 ·rw [if_pos c4] at H
  have c4b0 : decide (t267 < 0) = true := decide_eq_true c4
  clear c4
  obtain rfl := Option.some.inj H
  go_enter Try.func7, Try.ntmps7
  go_wp2_with (first | ((with_reducible refine gate_dst (N := 2) rfl ?_); refine box_event ?hg (N := 2) ?hd (cs := #[.int .i64 a0_0, .int .i64 a0_1, .int .i64 a0_2, .int .i64 a0_3, .slice A0_4 l0_4.length c0_4]) (t := 26) ?hr ?_; (case hd => rfl); (case hg => rfl); (case hr => first | (go_simp; done) | (go_simp; rfl)); intro gb266 hg w5 hbox hb; have n0_ := Aside0.mk (below_step (be_ HB) hb); have n1_ := Aside0.mk (hbox); have n2_ := Aside0.mk ((by rw [hg]; exact (below_size (be_ HB)) : w.heap.size ≤ gb266)); have n3_ := Aside0.mk ((by rw [hg]; exact (below_size (be_ HB)) : w.heap.size ≤ gb266)); clear HB; have HB := n0_; have BK266 := n1_; have GW266 := n2_; have GE266 := n3_; clear n0_ n1_ n2_ n3_; clear hb hbox hg; have hcz6_0 : w5.cell? ⟨gb266, 0, none⟩ = some (.int .i64 a0_0) := (blk_cell BK266.out 0).trans rfl; have hcz6_1 : w5.cell? ⟨gb266, 1, none⟩ = some (.int .i64 a0_1) := (blk_cell BK266.out 1).trans rfl; have hcz6_2 : w5.cell? ⟨gb266, 2, none⟩ = some (.int .i64 a0_2) := (blk_cell BK266.out 2).trans rfl; have hcz6_3 : w5.cell? ⟨gb266, 3, none⟩ = some (.int .i64 a0_3) := (blk_cell BK266.out 3).trans rfl; have hcz6_4 : w5.cell? ⟨gb266, 4, none⟩ = some (.slice A0_4 l0_4.length c0_4) := (blk_cell BK266.out 4).trans rfl; have hfz6_0 := blk_frozen BK266.out 0; have hfz6_1 := blk_frozen BK266.out 1; have hfz6_2 := blk_frozen BK266.out 2; have hfz6_3 := blk_frozen BK266.out 3; have hfz6_4 := blk_frozen BK266.out 4) | ((with_reducible refine gate_callee (f := 15) rfl ?_); refine goesL_ (some 18) rfl rfl Try.func15 (by kernel_rfl) rfl #[.agg #[.int .i64 a0_0, .int .i64 a0_1, .int .i64 a0_2, .int .i64 a0_3, .slice A0_4 l0_4.length c0_4], .int .i64 1048576] rfl mt_ ?_; (with_reducible refine (laws_szFair.calls a0_0 a0_1 a0_2 a0_3 _ _ l0_4 1048576 t267 _ ?side1 ?side2 A3.out).mono ?_); (case side1 => repeat (first | exact (Kd.C_below HR0_4.out HB.out) | (with_reducible refine Kd.C_alloc ?_ _) | (with_reducible refine Kd.C_drewN ?_ _) | (with_reducible refine Kd.C_drew ?_))); (case side2 => exact HC0_4.out); rintro e w7 ⟨rfl, hb⟩; refine ⟨_, rfl, ?_⟩; have n0_ := Aside0.mk (blk_below (g := gb266) (o := .cells #[.int .i64 a0_0, .int .i64 a0_1, .int .i64 a0_2, .int .i64 a0_3, .slice A0_4 l0_4.length c0_4] 26 (0, 0)) (bk_ BK266) hb); have n1_ := Aside0.mk (below_step (by repeat (first | (with_reducible first | exact HB.out | apply below_alloc | apply pw_below_drewN | apply below_drew1 | refine below_set ?_ GE266.out) | exact HB.out)) hb); clear BK266; clear HB; have BK266 := n0_; have HB := n1_; clear n0_ n1_; (try clear hb); (try clear hb2); (try clear hk); (try clear hi)))
  go_ret
  exact ⟨by first | rfl | (simp [errW_none, errW_some] <;> rfl) | (simp [*, errW_none, errW_some] <;> rfl), by repeat (first | (with_reducible first | exact HB.out | apply below_alloc | apply pw_below_drewN | apply below_drew1 | refine below_set ?_ GE266.out) | exact HB.out)⟩
 ·rw [if_neg c4] at H
  have c4b0 : decide (t267 < 0) = false := decide_eq_false c4
  clear c4
  replace H := Option.bind_eq_some_iff.mp H
  obtain ⟨⟨t268, t269, t270, t271, t272⟩, A80, H⟩ := H
  replace H : ((spec_FairRest.f k t268 t269 t270 t271 t272 a1).bind fun bt275 => ((laws_toFair.f k a0_0 a0_1 a0_2 a0_3 l0_4).bind fun bt284 => ((impl_FairRest.f k bt284.1 bt284.2.1 bt284.2.2.1 bt284.2.2.2.1 bt284.2.2.2.2 a1).bind fun bt292 => ((laws_eqFair.f k bt292.1 bt292.2.1 bt292.2.2.1 bt292.2.2.2.1 bt292.2.2.2.2.1 bt275.1 bt275.2.1 bt275.2.2.1 bt275.2.2.2.1 bt275.2.2.2.2.1).bind fun t301 => (if t301 = true then (laws_FnExactFairRest.j0 k a1 bt275.2.2.2.2.2 bt292.2.2.2.2.2 (bt292.2.2.2.2.2 != bt275.2.2.2.2.2) a0_0 a0_1 a0_2 a0_3 l0_4 bt275.1 bt275.2.1 bt275.2.2.1 bt275.2.2.2.1 bt275.2.2.2.2.1 bt284.1 bt284.2.1 bt284.2.2.1 bt284.2.2.2.1 bt284.2.2.2.2 bt292.1 bt292.2.1 bt292.2.2.1 bt292.2.2.2.1 bt292.2.2.2.2.1) else (laws_FnExactFairRest.j0 k a1 bt275.2.2.2.2.2 bt292.2.2.2.2.2 true a0_0 a0_1 a0_2 a0_3 l0_4 bt275.1 bt275.2.1 bt275.2.2.1 bt275.2.2.2.1 bt275.2.2.2.2.1 bt284.1 bt284.2.1 bt284.2.2.1 bt284.2.2.2.1 bt284.2.2.2.2 bt292.1 bt292.2.1 bt292.2.2.1 bt292.2.2.2.1 bt292.2.2.2.2.1)))))) = some r := H
  have A8 := Aside0.mk A80
  clear A80
  replace H := Option.bind_eq_some_iff.mp H
  obtain ⟨⟨t275, t276, t277, t278, t279, t282⟩, A90, H⟩ := H
  replace H : ((laws_toFair.f k a0_0 a0_1 a0_2 a0_3 l0_4).bind fun bt284 => ((impl_FairRest.f k bt284.1 bt284.2.1 bt284.2.2.1 bt284.2.2.2.1 bt284.2.2.2.2 a1).bind fun bt292 => ((laws_eqFair.f k bt292.1 bt292.2.1 bt292.2.2.1 bt292.2.2.2.1 bt292.2.2.2.2.1 t275 t276 t277 t278 t279).bind fun t301 => (if t301 = true then (laws_FnExactFairRest.j0 k a1 t282 bt292.2.2.2.2.2 (bt292.2.2.2.2.2 != t282) a0_0 a0_1 a0_2 a0_3 l0_4 t275 t276 t277 t278 t279 bt284.1 bt284.2.1 bt284.2.2.1 bt284.2.2.2.1 bt284.2.2.2.2 bt292.1 bt292.2.1 bt292.2.2.1 bt292.2.2.2.1 bt292.2.2.2.2.1) else (laws_FnExactFairRest.j0 k a1 t282 bt292.2.2.2.2.2 true a0_0 a0_1 a0_2 a0_3 l0_4 t275 t276 t277 t278 t279 bt284.1 bt284.2.1 bt284.2.2.1 bt284.2.2.2.1 bt284.2.2.2.2 bt292.1 bt292.2.1 bt292.2.2.1 bt292.2.2.2.1 bt292.2.2.2.2.1))))) = some r := H
  have A9 := Aside0.mk A90
  clear A90
  replace H := Option.bind_eq_some_iff.mp H
  obtain ⟨⟨t284, t285, t286, t287, t288⟩, A100, H⟩ := H
  replace H : ((impl_FairRest.f k t284 t285 t286 t287 t288 a1).bind fun bt292 => ((laws_eqFair.f k bt292.1 bt292.2.1 bt292.2.2.1 bt292.2.2.2.1 bt292.2.2.2.2.1 t275 t276 t277 t278 t279).bind fun t301 => (if t301 = true then (laws_FnExactFairRest.j0 k a1 t282 bt292.2.2.2.2.2 (bt292.2.2.2.2.2 != t282) a0_0 a0_1 a0_2 a0_3 l0_4 t275 t276 t277 t278 t279 t284 t285 t286 t287 t288 bt292.1 bt292.2.1 bt292.2.2.1 bt292.2.2.2.1 bt292.2.2.2.2.1) else (laws_FnExactFairRest.j0 k a1 t282 bt292.2.2.2.2.2 true a0_0 a0_1 a0_2 a0_3 l0_4 t275 t276 t277 t278 t279 t284 t285 t286 t287 t288 bt292.1 bt292.2.1 bt292.2.2.1 bt292.2.2.2.1 bt292.2.2.2.2.1)))) = some r := H
  have A10 := Aside0.mk A100
  clear A100
  replace H := Option.bind_eq_some_iff.mp H
  obtain ⟨⟨t292, t293, t294, t295, t296, t299⟩, A110, H⟩ := H
  replace H : ((laws_eqFair.f k t292 t293 t294 t295 t296 t275 t276 t277 t278 t279).bind fun t301 => (if t301 = true then (laws_FnExactFairRest.j0 k a1 t282 t299 (t299 != t282) a0_0 a0_1 a0_2 a0_3 l0_4 t275 t276 t277 t278 t279 t284 t285 t286 t287 t288 t292 t293 t294 t295 t296) else (laws_FnExactFairRest.j0 k a1 t282 t299 true a0_0 a0_1 a0_2 a0_3 l0_4 t275 t276 t277 t278 t279 t284 t285 t286 t287 t288 t292 t293 t294 t295 t296))) = some r := H
  have A11 := Aside0.mk A110
  clear A110
  have HC12 := Aside0.mk H
  clear H
  go_enter Try.func7, Try.ntmps7
  go_upto_region 8 with (first | ((with_reducible refine gate_dst (N := 2) rfl ?_); refine box_event ?hg (N := 2) ?hd (cs := #[.int .i64 a0_0, .int .i64 a0_1, .int .i64 a0_2, .int .i64 a0_3, .slice A0_4 l0_4.length c0_4]) (t := 26) ?hr ?_; (case hd => rfl); (case hg => rfl); (case hr => first | (go_simp; done) | (go_simp; rfl)); intro gb266 hg w13 hbox hb; have n0_ := Aside0.mk (below_step (be_ HB) hb); have n1_ := Aside0.mk (hbox); have n2_ := Aside0.mk ((by rw [hg]; exact (below_size (be_ HB)) : w.heap.size ≤ gb266)); have n3_ := Aside0.mk ((by rw [hg]; exact (below_size (be_ HB)) : w.heap.size ≤ gb266)); clear HB; have HB := n0_; have BK266 := n1_; have GW266 := n2_; have GE266 := n3_; clear n0_ n1_ n2_ n3_; clear hb hbox hg; have hcz14_0 : w13.cell? ⟨gb266, 0, none⟩ = some (.int .i64 a0_0) := (blk_cell BK266.out 0).trans rfl; have hcz14_1 : w13.cell? ⟨gb266, 1, none⟩ = some (.int .i64 a0_1) := (blk_cell BK266.out 1).trans rfl; have hcz14_2 : w13.cell? ⟨gb266, 2, none⟩ = some (.int .i64 a0_2) := (blk_cell BK266.out 2).trans rfl; have hcz14_3 : w13.cell? ⟨gb266, 3, none⟩ = some (.int .i64 a0_3) := (blk_cell BK266.out 3).trans rfl; have hcz14_4 : w13.cell? ⟨gb266, 4, none⟩ = some (.slice A0_4 l0_4.length c0_4) := (blk_cell BK266.out 4).trans rfl; have hfz14_0 := blk_frozen BK266.out 0; have hfz14_1 := blk_frozen BK266.out 1; have hfz14_2 := blk_frozen BK266.out 2; have hfz14_3 := blk_frozen BK266.out 3; have hfz14_4 := blk_frozen BK266.out 4) | ((with_reducible refine gate_callee (f := 15) rfl ?_); refine goesL_ (some 18) rfl rfl Try.func15 (by kernel_rfl) rfl #[.agg #[.int .i64 a0_0, .int .i64 a0_1, .int .i64 a0_2, .int .i64 a0_3, .slice A0_4 l0_4.length c0_4], .int .i64 1048576] rfl mt_ ?_; (with_reducible refine (laws_szFair.calls a0_0 a0_1 a0_2 a0_3 _ _ l0_4 1048576 t267 _ ?side1 ?side2 A3.out).mono ?_); (case side1 => repeat (first | exact (Kd.C_below HR0_4.out HB.out) | (with_reducible refine Kd.C_alloc ?_ _) | (with_reducible refine Kd.C_drewN ?_ _) | (with_reducible refine Kd.C_drew ?_))); (case side2 => exact HC0_4.out); rintro e w15 ⟨rfl, hb⟩; refine ⟨_, rfl, ?_⟩; have n0_ := Aside0.mk (blk_below (g := gb266) (o := .cells #[.int .i64 a0_0, .int .i64 a0_1, .int .i64 a0_2, .int .i64 a0_3, .slice A0_4 l0_4.length c0_4] 26 (0, 0)) (bk_ BK266) hb); have n1_ := Aside0.mk (below_step (by repeat (first | (with_reducible first | exact HB.out | apply below_alloc | apply pw_below_drewN | apply below_drew1 | refine below_set ?_ GE266.out) | exact HB.out)) hb); clear BK266; clear HB; have BK266 := n0_; have HB := n1_; clear n0_ n1_; (try clear hb); (try clear hb2); (try clear hk); (try clear hi); have hcz16_0 : w15.cell? ⟨gb266, 0, none⟩ = some (.int .i64 a0_0) := (blk_cell BK266.out 0).trans rfl; have hcz16_1 : w15.cell? ⟨gb266, 1, none⟩ = some (.int .i64 a0_1) := (blk_cell BK266.out 1).trans rfl; have hcz16_2 : w15.cell? ⟨gb266, 2, none⟩ = some (.int .i64 a0_2) := (blk_cell BK266.out 2).trans rfl; have hcz16_3 : w15.cell? ⟨gb266, 3, none⟩ = some (.int .i64 a0_3) := (blk_cell BK266.out 3).trans rfl; have hcz16_4 : w15.cell? ⟨gb266, 4, none⟩ = some (.slice A0_4 l0_4.length c0_4) := (blk_cell BK266.out 4).trans rfl; have hfz16_0 := blk_frozen BK266.out 0; have hfz16_1 := blk_frozen BK266.out 1; have hfz16_2 := blk_frozen BK266.out 2; have hfz16_3 := blk_frozen BK266.out 3; have hfz16_4 := blk_frozen BK266.out 4) | ((with_reducible refine gate_callee (f := 17) rfl ?_); refine goesL_ (some 23) rfl rfl Try.func17 (by kernel_rfl) rfl #[.agg #[.int .i64 a0_0, .int .i64 a0_1, .int .i64 a0_2, .int .i64 a0_3, .slice A0_4 l0_4.length c0_4]] rfl mt_ ?_; (with_reducible refine (laws_toFair.calls k a0_0 a0_1 a0_2 a0_3 _ _ l0_4 t268 t269 t270 t271 t272 _ ?side1 ?side2 A8.out).mono ?_); (case side1 => repeat (first | exact (Kd.C_below HR0_4.out HB.out) | (with_reducible refine Kd.C_alloc ?_ _) | (with_reducible refine Kd.C_drewN ?_ _) | (with_reducible refine Kd.C_drew ?_))); (case side2 => exact HC0_4.out); rintro e w17 ⟨v273, rfl, ho0, hb⟩; refine ⟨_, rfl, ?_⟩; have n0_ := Aside0.mk (Kd.R_lower ho0 (below_size (by repeat (first | (with_reducible first | exact HB.out | apply below_alloc | apply pw_below_drewN | apply below_drew1 | refine below_set ?_ GE266.out) | exact HB.out)))); have n1_ := Aside0.mk (blk_below (g := gb266) (o := .cells #[.int .i64 a0_0, .int .i64 a0_1, .int .i64 a0_2, .int .i64 a0_3, .slice A0_4 l0_4.length c0_4] 26 (0, 0)) (bk_ BK266) hb); have n2_ := Aside0.mk (below_step (by repeat (first | (with_reducible first | exact HB.out | apply below_alloc | apply pw_below_drewN | apply below_drew1 | refine below_set ?_ GE266.out) | exact HB.out)) hb); clear BK266; clear HB; have HO274 := n0_; have BK266 := n1_; have HB := n2_; clear n0_ n1_ n2_; (try clear hb); (try clear hb2); (try clear hk); (try clear hi); (try clear ho0); obtain ⟨Ao18, co18, eo18⟩ := Kd.R_slice HO274.out; subst eo18) | ((with_reducible refine gate_callee (f := 27) rfl ?_); refine goesL_ (some 25) rfl rfl Try.func27 (by kernel_rfl) rfl #[.agg #[.int .i64 t268, .int .i64 t269, .int .i64 t270, .int .i64 t271, .slice Ao18 t272.length co18], .int .i64 a1] rfl mt_ ?_; (with_reducible refine (spec_FairRest.calls k t268 t269 t270 t271 _ _ t272 a1 t275 t276 t277 t278 t279 t282 _ ?side1 ?side2 A9.out).mono ?_); (case side1 => repeat (first | exact (Kd.R_reads' HO274.out).2.2 | (with_reducible refine Kd.C_alloc ?_ _) | (with_reducible refine Kd.C_drewN ?_ _) | (with_reducible refine Kd.C_drew ?_))); (case side2 => exact (Kd.R_reads' HO274.out).2.1); rintro e w19 ⟨v280, rfl, ho0, hb⟩; refine ⟨_, rfl, ?_⟩; have n0_ := Aside0.mk (Kd.R_elder' (kr_ HO274) (Kd.R_base ho0) hb); have n1_ := Aside0.mk (Kd.R_lower (Kd.R_new' ho0 (Kd.R_lt (kr_ HO274))) (below_size (by repeat (first | (with_reducible first | exact HB.out | apply below_alloc | apply pw_below_drewN | apply below_drew1 | refine below_set ?_ GE266.out) | exact HB.out)))); have n2_ := Aside0.mk (blk_below (g := gb266) (o := .cells #[.int .i64 a0_0, .int .i64 a0_1, .int .i64 a0_2, .int .i64 a0_3, .slice A0_4 l0_4.length c0_4] 26 (0, 0)) (bk_ BK266) hb); have n3_ := Aside0.mk (below_step (by repeat (first | (with_reducible first | exact HB.out | apply below_alloc | apply pw_below_drewN | apply below_drew1 | refine below_set ?_ GE266.out) | exact HB.out)) hb); clear HO274; clear BK266; clear HB; have HO274 := n0_; have HO281 := n1_; have BK266 := n2_; have HB := n3_; clear n0_ n1_ n2_ n3_; (try clear hb); (try clear hb2); (try clear hk); (try clear hi); (try clear ho0)) | ((with_reducible refine gate_dst (N := 6) rfl ?_); refine box_event ?hg (N := 6) ?hd (cs := #[.int .i64 0, .int .i64 0, .int .i64 0, .int .i64 0, .slice none 0 0]) (t := 32) ?hr ?_; (case hd => rfl); (case hg => rfl); (case hr => first | (go_simp; done) | (go_simp; rfl)); intro gb283 hg w20 hbox hb; have n0_ := Aside0.mk (Kd.R_below (kr_ HO274) hb); have n1_ := Aside0.mk (Kd.R_below (kr_ HO281) hb); have n2_ := Aside0.mk (blk_below (g := gb266) (o := .cells #[.int .i64 a0_0, .int .i64 a0_1, .int .i64 a0_2, .int .i64 a0_3, .slice A0_4 l0_4.length c0_4] 26 (0, 0)) (bk_ BK266) hb); have n3_ := Aside0.mk (below_step (by repeat (first | (with_reducible first | exact HB.out | apply below_alloc | apply pw_below_drewN | apply below_drew1 | refine below_set ?_ GE266.out) | exact HB.out)) hb); have n4_ := Aside0.mk (hbox); have n5_ := Aside0.mk ((by rw [hg]; exact (below_size (by repeat (first | (with_reducible first | exact HB.out | apply below_alloc | apply pw_below_drewN | apply below_drew1 | refine below_set ?_ GE266.out) | exact HB.out))) : w.heap.size ≤ gb283)); have n6_ := Aside0.mk ((by rw [hg]; exact (below_size (by repeat (first | (with_reducible first | exact HB.out | apply below_alloc | apply pw_below_drewN | apply below_drew1 | refine below_set ?_ GE266.out) | exact HB.out))) : w.heap.size ≤ gb283)); have n7_ := Aside0.mk ((by rw [hg]; exact Nat.ne_of_lt (blk_lt (g := gb266) (o := .cells #[.int .i64 a0_0, .int .i64 a0_1, .int .i64 a0_2, .int .i64 a0_3, .slice A0_4 l0_4.length c0_4] 26 (0, 0)) (bk_ BK266)) : gb266 ≠ gb283)); have n8_ := Aside0.mk ((by rw [hg]; exact Nat.ne_of_gt (blk_lt (g := gb266) (o := .cells #[.int .i64 a0_0, .int .i64 a0_1, .int .i64 a0_2, .int .i64 a0_3, .slice A0_4 l0_4.length c0_4] 26 (0, 0)) (bk_ BK266)) : gb283 ≠ gb266)); clear HO274; clear HO281; clear BK266; clear HB; have HO274 := n0_; have HO281 := n1_; have BK266 := n2_; have HB := n3_; have BK283 := n4_; have GW283 := n5_; have GE283 := n6_; have NB266_283 := n7_; have NB283_266 := n8_; clear n0_ n1_ n2_ n3_ n4_ n5_ n6_ n7_ n8_; clear hb hbox hg; have hnb21 := NB283_266.out; have hnc21 := NB266_283.out; have hcz22_0 : w20.cell? ⟨gb283, 0, none⟩ = some (.int .i64 0) := (blk_cell BK283.out 0).trans rfl; have hcz22_1 : w20.cell? ⟨gb283, 1, none⟩ = some (.int .i64 0) := (blk_cell BK283.out 1).trans rfl; have hcz22_2 : w20.cell? ⟨gb283, 2, none⟩ = some (.int .i64 0) := (blk_cell BK283.out 2).trans rfl; have hcz22_3 : w20.cell? ⟨gb283, 3, none⟩ = some (.int .i64 0) := (blk_cell BK283.out 3).trans rfl; have hcz22_4 : w20.cell? ⟨gb283, 4, none⟩ = some (.slice none 0 0) := (blk_cell BK283.out 4).trans rfl; have hfz22_0 := blk_frozen BK283.out 0; have hfz22_1 := blk_frozen BK283.out 1; have hfz22_2 := blk_frozen BK283.out 2; have hfz22_3 := blk_frozen BK283.out 3; have hfz22_4 := blk_frozen BK283.out 4; obtain ⟨Ao23, co23, eo23⟩ := Kd.R_slice HO281.out; subst eo23; have hcz24_0 : w20.cell? ⟨gb266, 0, none⟩ = some (.int .i64 a0_0) := (blk_cell BK266.out 0).trans rfl; have hcz24_1 : w20.cell? ⟨gb266, 1, none⟩ = some (.int .i64 a0_1) := (blk_cell BK266.out 1).trans rfl; have hcz24_2 : w20.cell? ⟨gb266, 2, none⟩ = some (.int .i64 a0_2) := (blk_cell BK266.out 2).trans rfl; have hcz24_3 : w20.cell? ⟨gb266, 3, none⟩ = some (.int .i64 a0_3) := (blk_cell BK266.out 3).trans rfl; have hcz24_4 : w20.cell? ⟨gb266, 4, none⟩ = some (.slice A0_4 l0_4.length c0_4) := (blk_cell BK266.out 4).trans rfl; have hfz24_0 := blk_frozen BK266.out 0; have hfz24_1 := blk_frozen BK266.out 1; have hfz24_2 := blk_frozen BK266.out 2; have hfz24_3 := blk_frozen BK266.out 3; have hfz24_4 := blk_frozen BK266.out 4) | ((with_reducible refine gate_callee (f := 17) rfl ?_); refine goesL_ (some 29) rfl rfl Try.func17 (by kernel_rfl) rfl #[.agg #[.int .i64 a0_0, .int .i64 a0_1, .int .i64 a0_2, .int .i64 a0_3, .slice A0_4 l0_4.length c0_4]] rfl mt_ ?_; (with_reducible refine (laws_toFair.calls k a0_0 a0_1 a0_2 a0_3 _ _ l0_4 t284 t285 t286 t287 t288 _ ?side1 ?side2 A10.out).mono ?_); (case side1 => exact Kd.C_below HR0_4.out (by repeat (first | (with_reducible first | exact HB.out | apply below_alloc | apply pw_below_drewN | apply below_drew1 | refine below_set ?_ GE266.out | refine below_set ?_ GE283.out) | exact HB.out))); (case side2 => exact HC0_4.out); rintro e w25 ⟨v289, rfl, ho0, hb⟩; refine ⟨_, rfl, ?_⟩; have n0_ := Aside0.mk (Kd.R_elder' (by (with_reducible repeat (first | apply Kd.R_alloc | apply Kd.R_drewN | apply Kd.R_drew)); exact (Kd.R_mono (Kd.R_far (p := ⟨gb283, 4, none⟩) (Kd.R_far (p := ⟨gb283, 3, none⟩) (Kd.R_far (p := ⟨gb283, 2, none⟩) (Kd.R_far (p := ⟨gb283, 1, none⟩) (Kd.R_far (p := ⟨gb283, 0, none⟩) (Kd.R_types HO274.out BK283.out (by decide)) (fun _ hk => by first | exact hk.2 | grind) (.int .i64 t275)) (fun _ hk => by first | exact hk.2 | grind) (.int .i64 t276)) (fun _ hk => by first | exact hk.2 | grind) (.int .i64 t277)) (fun _ hk => by first | exact hk.2 | grind) (.int .i64 t278)) (fun _ hk => by first | exact hk.2 | grind) (.slice Ao23 t279.length co23)) (fun _ h_ => h_.1))) (Kd.R_base ho0) hb); have n1_ := Aside0.mk (Kd.R_elder' (by (with_reducible repeat (first | apply Kd.R_alloc | apply Kd.R_drewN | apply Kd.R_drew)); exact (Kd.R_mono (Kd.R_far (p := ⟨gb283, 4, none⟩) (Kd.R_far (p := ⟨gb283, 3, none⟩) (Kd.R_far (p := ⟨gb283, 2, none⟩) (Kd.R_far (p := ⟨gb283, 1, none⟩) (Kd.R_far (p := ⟨gb283, 0, none⟩) (Kd.R_types HO281.out BK283.out (by decide)) (fun _ hk => by first | exact hk.2 | grind) (.int .i64 t275)) (fun _ hk => by first | exact hk.2 | grind) (.int .i64 t276)) (fun _ hk => by first | exact hk.2 | grind) (.int .i64 t277)) (fun _ hk => by first | exact hk.2 | grind) (.int .i64 t278)) (fun _ hk => by first | exact hk.2 | grind) (.slice Ao23 t279.length co23)) (fun _ h_ => h_.1))) (Kd.R_base ho0) hb); have n2_ := Aside0.mk (Kd.R_lower (Kd.R_new' (Kd.R_new' ho0 (Kd.R_lt (by (with_reducible repeat (first | apply Kd.R_alloc | apply Kd.R_drewN | apply Kd.R_drew)); exact (Kd.R_mono (Kd.R_far (p := ⟨gb283, 4, none⟩) (Kd.R_far (p := ⟨gb283, 3, none⟩) (Kd.R_far (p := ⟨gb283, 2, none⟩) (Kd.R_far (p := ⟨gb283, 1, none⟩) (Kd.R_far (p := ⟨gb283, 0, none⟩) (Kd.R_types HO274.out BK283.out (by decide)) (fun _ hk => by first | exact hk.2 | grind) (.int .i64 t275)) (fun _ hk => by first | exact hk.2 | grind) (.int .i64 t276)) (fun _ hk => by first | exact hk.2 | grind) (.int .i64 t277)) (fun _ hk => by first | exact hk.2 | grind) (.int .i64 t278)) (fun _ hk => by first | exact hk.2 | grind) (.slice Ao23 t279.length co23)) (fun _ h_ => h_.1))))) (Kd.R_lt (by (with_reducible repeat (first | apply Kd.R_alloc | apply Kd.R_drewN | apply Kd.R_drew)); exact (Kd.R_mono (Kd.R_far (p := ⟨gb283, 4, none⟩) (Kd.R_far (p := ⟨gb283, 3, none⟩) (Kd.R_far (p := ⟨gb283, 2, none⟩) (Kd.R_far (p := ⟨gb283, 1, none⟩) (Kd.R_far (p := ⟨gb283, 0, none⟩) (Kd.R_types HO281.out BK283.out (by decide)) (fun _ hk => by first | exact hk.2 | grind) (.int .i64 t275)) (fun _ hk => by first | exact hk.2 | grind) (.int .i64 t276)) (fun _ hk => by first | exact hk.2 | grind) (.int .i64 t277)) (fun _ hk => by first | exact hk.2 | grind) (.int .i64 t278)) (fun _ hk => by first | exact hk.2 | grind) (.slice Ao23 t279.length co23)) (fun _ h_ => h_.1))))) (below_size (by repeat (first | (with_reducible first | exact HB.out | apply below_alloc | apply pw_below_drewN | apply below_drew1 | refine below_set ?_ GE266.out | refine below_set ?_ GE283.out) | exact HB.out)))); have n3_ := Aside0.mk (blk_below (g := gb266) (o := .cells #[.int .i64 a0_0, .int .i64 a0_1, .int .i64 a0_2, .int .i64 a0_3, .slice A0_4 l0_4.length c0_4] 26 (0, 0)) (by (with_reducible repeat (first | refine blk_drewN ?_ _ | refine blk_drew ?_ | refine blk_alloc ?_ _)); refine blk_far ?_ NB266_283.out _; (with_reducible repeat (first | refine blk_drewN ?_ _ | refine blk_drew ?_ | refine blk_alloc ?_ _)); refine blk_far ?_ NB266_283.out _; (with_reducible repeat (first | refine blk_drewN ?_ _ | refine blk_drew ?_ | refine blk_alloc ?_ _)); refine blk_far ?_ NB266_283.out _; (with_reducible repeat (first | refine blk_drewN ?_ _ | refine blk_drew ?_ | refine blk_alloc ?_ _)); refine blk_far ?_ NB266_283.out _; (with_reducible repeat (first | refine blk_drewN ?_ _ | refine blk_drew ?_ | refine blk_alloc ?_ _)); refine blk_far ?_ NB266_283.out _; exact bk_ BK266) hb); have n4_ := Aside0.mk (blk_below (g := gb283) (o := .cells #[.int .i64 t275, .int .i64 t276, .int .i64 t277, .int .i64 t278, .slice Ao23 t279.length co23] 32 (0, 0)) (by (with_reducible repeat (first | refine blk_drewN ?_ _ | refine blk_drew ?_ | refine blk_alloc ?_ _)); refine blk_put (cs := #[.int .i64 t275, .int .i64 t276, .int .i64 t277, .int .i64 t278, .slice none 0 0]) ?_ 4 _ rfl; (with_reducible repeat (first | refine blk_drewN ?_ _ | refine blk_drew ?_ | refine blk_alloc ?_ _)); refine blk_put (cs := #[.int .i64 t275, .int .i64 t276, .int .i64 t277, .int .i64 0, .slice none 0 0]) ?_ 3 _ rfl; (with_reducible repeat (first | refine blk_drewN ?_ _ | refine blk_drew ?_ | refine blk_alloc ?_ _)); refine blk_put (cs := #[.int .i64 t275, .int .i64 t276, .int .i64 0, .int .i64 0, .slice none 0 0]) ?_ 2 _ rfl; (with_reducible repeat (first | refine blk_drewN ?_ _ | refine blk_drew ?_ | refine blk_alloc ?_ _)); refine blk_put (cs := #[.int .i64 t275, .int .i64 0, .int .i64 0, .int .i64 0, .slice none 0 0]) ?_ 1 _ rfl; (with_reducible repeat (first | refine blk_drewN ?_ _ | refine blk_drew ?_ | refine blk_alloc ?_ _)); refine blk_put (cs := #[.int .i64 0, .int .i64 0, .int .i64 0, .int .i64 0, .slice none 0 0]) ?_ 0 _ rfl; exact bk_ BK283) hb); have n5_ := Aside0.mk (below_step (by repeat (first | (with_reducible first | exact HB.out | apply below_alloc | apply pw_below_drewN | apply below_drew1 | refine below_set ?_ GE266.out | refine below_set ?_ GE283.out) | exact HB.out)) hb); clear HO274; clear HO281; clear BK266; clear BK283; clear HB; have HO274 := n0_; have HO281 := n1_; have HO290 := n2_; have BK266 := n3_; have BK283 := n4_; have HB := n5_; clear n0_ n1_ n2_ n3_ n4_ n5_; (try clear hb); (try clear hb2); (try clear hk); (try clear hi); (try clear ho0)) | ((with_reducible refine gate_dst (N := 8) rfl ?_); refine box_event ?hg (N := 8) ?hd (cs := #[.int .i64 0, .int .i64 0, .int .i64 0, .int .i64 0, .slice none 0 0]) (t := 32) ?hr ?_; (case hd => rfl); (case hg => rfl); (case hr => first | (go_simp; done) | (go_simp; rfl)); intro gb291 hg w26 hbox hb; have n0_ := Aside0.mk (Kd.R_below (kr_ HO274) hb); have n1_ := Aside0.mk (Kd.R_below (kr_ HO281) hb); have n2_ := Aside0.mk (Kd.R_below (kr_ HO290) hb); have n3_ := Aside0.mk (blk_below (g := gb266) (o := .cells #[.int .i64 a0_0, .int .i64 a0_1, .int .i64 a0_2, .int .i64 a0_3, .slice A0_4 l0_4.length c0_4] 26 (0, 0)) (bk_ BK266) hb); have n4_ := Aside0.mk (blk_below (g := gb283) (o := .cells #[.int .i64 t275, .int .i64 t276, .int .i64 t277, .int .i64 t278, .slice Ao23 t279.length co23] 32 (0, 0)) (bk_ BK283) hb); have n5_ := Aside0.mk (below_step (by repeat (first | (with_reducible first | exact HB.out | apply below_alloc | apply pw_below_drewN | apply below_drew1 | refine below_set ?_ GE266.out | refine below_set ?_ GE283.out) | exact HB.out)) hb); have n6_ := Aside0.mk (hbox); have n7_ := Aside0.mk ((by rw [hg]; exact (below_size (by repeat (first | (with_reducible first | exact HB.out | apply below_alloc | apply pw_below_drewN | apply below_drew1 | refine below_set ?_ GE266.out | refine below_set ?_ GE283.out) | exact HB.out))) : w.heap.size ≤ gb291)); have n8_ := Aside0.mk ((by rw [hg]; exact (below_size (by repeat (first | (with_reducible first | exact HB.out | apply below_alloc | apply pw_below_drewN | apply below_drew1 | refine below_set ?_ GE266.out | refine below_set ?_ GE283.out) | exact HB.out))) : w.heap.size ≤ gb291)); have n9_ := Aside0.mk ((by rw [hg]; exact Nat.ne_of_lt (blk_lt (g := gb266) (o := .cells #[.int .i64 a0_0, .int .i64 a0_1, .int .i64 a0_2, .int .i64 a0_3, .slice A0_4 l0_4.length c0_4] 26 (0, 0)) (bk_ BK266)) : gb266 ≠ gb291)); have n10_ := Aside0.mk ((by rw [hg]; exact Nat.ne_of_gt (blk_lt (g := gb266) (o := .cells #[.int .i64 a0_0, .int .i64 a0_1, .int .i64 a0_2, .int .i64 a0_3, .slice A0_4 l0_4.length c0_4] 26 (0, 0)) (bk_ BK266)) : gb291 ≠ gb266)); have n11_ := Aside0.mk ((by rw [hg]; exact Nat.ne_of_lt (blk_lt (g := gb283) (o := .cells #[.int .i64 t275, .int .i64 t276, .int .i64 t277, .int .i64 t278, .slice Ao23 t279.length co23] 32 (0, 0)) (bk_ BK283)) : gb283 ≠ gb291)); have n12_ := Aside0.mk ((by rw [hg]; exact Nat.ne_of_gt (blk_lt (g := gb283) (o := .cells #[.int .i64 t275, .int .i64 t276, .int .i64 t277, .int .i64 t278, .slice Ao23 t279.length co23] 32 (0, 0)) (bk_ BK283)) : gb291 ≠ gb283)); clear HO274; clear HO281; clear HO290; clear BK266; clear BK283; clear HB; have HO274 := n0_; have HO281 := n1_; have HO290 := n2_; have BK266 := n3_; have BK283 := n4_; have HB := n5_; have BK291 := n6_; have GW291 := n7_; have GE291 := n8_; have NB266_291 := n9_; have NB291_266 := n10_; have NB283_291 := n11_; have NB291_283 := n12_; clear n0_ n1_ n2_ n3_ n4_ n5_ n6_ n7_ n8_ n9_ n10_ n11_ n12_; clear hb hbox hg; have hnb27 := NB291_266.out; have hnc27 := NB266_291.out; have hnb28 := NB291_283.out; have hnc28 := NB283_291.out; have hcz29_0 : w26.cell? ⟨gb291, 0, none⟩ = some (.int .i64 0) := (blk_cell BK291.out 0).trans rfl; have hcz29_1 : w26.cell? ⟨gb291, 1, none⟩ = some (.int .i64 0) := (blk_cell BK291.out 1).trans rfl; have hcz29_2 : w26.cell? ⟨gb291, 2, none⟩ = some (.int .i64 0) := (blk_cell BK291.out 2).trans rfl; have hcz29_3 : w26.cell? ⟨gb291, 3, none⟩ = some (.int .i64 0) := (blk_cell BK291.out 3).trans rfl; have hcz29_4 : w26.cell? ⟨gb291, 4, none⟩ = some (.slice none 0 0) := (blk_cell BK291.out 4).trans rfl; have hfz29_0 := blk_frozen BK291.out 0; have hfz29_1 := blk_frozen BK291.out 1; have hfz29_2 := blk_frozen BK291.out 2; have hfz29_3 := blk_frozen BK291.out 3; have hfz29_4 := blk_frozen BK291.out 4; obtain ⟨Ao30, co30, eo30⟩ := Kd.R_slice HO290.out; subst eo30) | ((with_reducible refine gate_callee (f := 28) rfl ?_); refine goesL_ (some 33) rfl rfl Try.func28 (by kernel_rfl) rfl #[.agg #[.int .i64 t284, .int .i64 t285, .int .i64 t286, .int .i64 t287, .slice Ao30 t288.length co30], .int .i64 a1] rfl mt_ ?_; (with_reducible refine (impl_FairRest.calls k t284 t285 t286 t287 _ _ t288 a1 t292 t293 t294 t295 t296 t299 _ ?side1 ?side2 A11.out).mono ?_); (case side1 => refine (Kd.R_reads' (e := 38) (base := w.heap.size) (ok := fun k_ => ((True ∧ some k_ ≠ (.slice Ao18 t272.length co18 : Value).ownBlock) ∧ some k_ ≠ (.slice Ao23 t279.length co23 : Value).ownBlock)) (n := t288.length) (c := co30) ?_).2.2; exact (by (with_reducible repeat (first | apply Kd.R_alloc | apply Kd.R_drewN | apply Kd.R_drew)); exact (Kd.R_mono (Kd.R_far (p := ⟨gb291, 4, none⟩) (Kd.R_far (p := ⟨gb291, 3, none⟩) (Kd.R_far (p := ⟨gb291, 2, none⟩) (Kd.R_far (p := ⟨gb291, 1, none⟩) (Kd.R_far (p := ⟨gb291, 0, none⟩) (Kd.R_types HO290.out BK291.out (by decide)) (fun _ hk => by first | exact hk.2 | grind) (.int .i64 t284)) (fun _ hk => by first | exact hk.2 | grind) (.int .i64 t285)) (fun _ hk => by first | exact hk.2 | grind) (.int .i64 t286)) (fun _ hk => by first | exact hk.2 | grind) (.int .i64 t287)) (fun _ hk => by first | exact hk.2 | grind) (.slice Ao30 t288.length co30)) (fun _ h_ => h_.1)))); (case side2 => exact (Kd.R_reads' HO290.out).2.1); rintro e w31 ⟨v297, rfl, ho0, hb⟩; refine ⟨_, rfl, ?_⟩; have n0_ := Aside0.mk (Kd.R_elder' (by (with_reducible repeat (first | apply Kd.R_alloc | apply Kd.R_drewN | apply Kd.R_drew)); exact (Kd.R_mono (Kd.R_far (p := ⟨gb291, 4, none⟩) (Kd.R_far (p := ⟨gb291, 3, none⟩) (Kd.R_far (p := ⟨gb291, 2, none⟩) (Kd.R_far (p := ⟨gb291, 1, none⟩) (Kd.R_far (p := ⟨gb291, 0, none⟩) (Kd.R_types HO274.out BK291.out (by decide)) (fun _ hk => by first | exact hk.2 | grind) (.int .i64 t284)) (fun _ hk => by first | exact hk.2 | grind) (.int .i64 t285)) (fun _ hk => by first | exact hk.2 | grind) (.int .i64 t286)) (fun _ hk => by first | exact hk.2 | grind) (.int .i64 t287)) (fun _ hk => by first | exact hk.2 | grind) (.slice Ao30 t288.length co30)) (fun _ h_ => h_.1))) (Kd.R_base ho0) hb); have n1_ := Aside0.mk (Kd.R_elder' (by (with_reducible repeat (first | apply Kd.R_alloc | apply Kd.R_drewN | apply Kd.R_drew)); exact (Kd.R_mono (Kd.R_far (p := ⟨gb291, 4, none⟩) (Kd.R_far (p := ⟨gb291, 3, none⟩) (Kd.R_far (p := ⟨gb291, 2, none⟩) (Kd.R_far (p := ⟨gb291, 1, none⟩) (Kd.R_far (p := ⟨gb291, 0, none⟩) (Kd.R_types HO281.out BK291.out (by decide)) (fun _ hk => by first | exact hk.2 | grind) (.int .i64 t284)) (fun _ hk => by first | exact hk.2 | grind) (.int .i64 t285)) (fun _ hk => by first | exact hk.2 | grind) (.int .i64 t286)) (fun _ hk => by first | exact hk.2 | grind) (.int .i64 t287)) (fun _ hk => by first | exact hk.2 | grind) (.slice Ao30 t288.length co30)) (fun _ h_ => h_.1))) (Kd.R_base ho0) hb); have n2_ := Aside0.mk (Kd.R_elder' (by (with_reducible repeat (first | apply Kd.R_alloc | apply Kd.R_drewN | apply Kd.R_drew)); exact (Kd.R_mono (Kd.R_far (p := ⟨gb291, 4, none⟩) (Kd.R_far (p := ⟨gb291, 3, none⟩) (Kd.R_far (p := ⟨gb291, 2, none⟩) (Kd.R_far (p := ⟨gb291, 1, none⟩) (Kd.R_far (p := ⟨gb291, 0, none⟩) (Kd.R_types HO290.out BK291.out (by decide)) (fun _ hk => by first | exact hk.2 | grind) (.int .i64 t284)) (fun _ hk => by first | exact hk.2 | grind) (.int .i64 t285)) (fun _ hk => by first | exact hk.2 | grind) (.int .i64 t286)) (fun _ hk => by first | exact hk.2 | grind) (.int .i64 t287)) (fun _ hk => by first | exact hk.2 | grind) (.slice Ao30 t288.length co30)) (fun _ h_ => h_.1))) (Kd.R_base ho0) hb); have n3_ := Aside0.mk (Kd.R_lower (Kd.R_new' (Kd.R_new' (Kd.R_new' ho0 (Kd.R_lt (by (with_reducible repeat (first | apply Kd.R_alloc | apply Kd.R_drewN | apply Kd.R_drew)); exact (Kd.R_mono (Kd.R_far (p := ⟨gb291, 4, none⟩) (Kd.R_far (p := ⟨gb291, 3, none⟩) (Kd.R_far (p := ⟨gb291, 2, none⟩) (Kd.R_far (p := ⟨gb291, 1, none⟩) (Kd.R_far (p := ⟨gb291, 0, none⟩) (Kd.R_types HO274.out BK291.out (by decide)) (fun _ hk => by first | exact hk.2 | grind) (.int .i64 t284)) (fun _ hk => by first | exact hk.2 | grind) (.int .i64 t285)) (fun _ hk => by first | exact hk.2 | grind) (.int .i64 t286)) (fun _ hk => by first | exact hk.2 | grind) (.int .i64 t287)) (fun _ hk => by first | exact hk.2 | grind) (.slice Ao30 t288.length co30)) (fun _ h_ => h_.1))))) (Kd.R_lt (by (with_reducible repeat (first | apply Kd.R_alloc | apply Kd.R_drewN | apply Kd.R_drew)); exact (Kd.R_mono (Kd.R_far (p := ⟨gb291, 4, none⟩) (Kd.R_far (p := ⟨gb291, 3, none⟩) (Kd.R_far (p := ⟨gb291, 2, none⟩) (Kd.R_far (p := ⟨gb291, 1, none⟩) (Kd.R_far (p := ⟨gb291, 0, none⟩) (Kd.R_types HO281.out BK291.out (by decide)) (fun _ hk => by first | exact hk.2 | grind) (.int .i64 t284)) (fun _ hk => by first | exact hk.2 | grind) (.int .i64 t285)) (fun _ hk => by first | exact hk.2 | grind) (.int .i64 t286)) (fun _ hk => by first | exact hk.2 | grind) (.int .i64 t287)) (fun _ hk => by first | exact hk.2 | grind) (.slice Ao30 t288.length co30)) (fun _ h_ => h_.1))))) (Kd.R_lt (by (with_reducible repeat (first | apply Kd.R_alloc | apply Kd.R_drewN | apply Kd.R_drew)); exact (Kd.R_mono (Kd.R_far (p := ⟨gb291, 4, none⟩) (Kd.R_far (p := ⟨gb291, 3, none⟩) (Kd.R_far (p := ⟨gb291, 2, none⟩) (Kd.R_far (p := ⟨gb291, 1, none⟩) (Kd.R_far (p := ⟨gb291, 0, none⟩) (Kd.R_types HO290.out BK291.out (by decide)) (fun _ hk => by first | exact hk.2 | grind) (.int .i64 t284)) (fun _ hk => by first | exact hk.2 | grind) (.int .i64 t285)) (fun _ hk => by first | exact hk.2 | grind) (.int .i64 t286)) (fun _ hk => by first | exact hk.2 | grind) (.int .i64 t287)) (fun _ hk => by first | exact hk.2 | grind) (.slice Ao30 t288.length co30)) (fun _ h_ => h_.1))))) (below_size (by repeat (first | (with_reducible first | exact HB.out | apply below_alloc | apply pw_below_drewN | apply below_drew1 | refine below_set ?_ GE266.out | refine below_set ?_ GE283.out | refine below_set ?_ GE291.out) | exact HB.out)))); have n4_ := Aside0.mk (blk_below (g := gb266) (o := .cells #[.int .i64 a0_0, .int .i64 a0_1, .int .i64 a0_2, .int .i64 a0_3, .slice A0_4 l0_4.length c0_4] 26 (0, 0)) (by (with_reducible repeat (first | refine blk_drewN ?_ _ | refine blk_drew ?_ | refine blk_alloc ?_ _)); refine blk_far ?_ NB266_291.out _; (with_reducible repeat (first | refine blk_drewN ?_ _ | refine blk_drew ?_ | refine blk_alloc ?_ _)); refine blk_far ?_ NB266_291.out _; (with_reducible repeat (first | refine blk_drewN ?_ _ | refine blk_drew ?_ | refine blk_alloc ?_ _)); refine blk_far ?_ NB266_291.out _; (with_reducible repeat (first | refine blk_drewN ?_ _ | refine blk_drew ?_ | refine blk_alloc ?_ _)); refine blk_far ?_ NB266_291.out _; (with_reducible repeat (first | refine blk_drewN ?_ _ | refine blk_drew ?_ | refine blk_alloc ?_ _)); refine blk_far ?_ NB266_291.out _; exact bk_ BK266) hb); have n5_ := Aside0.mk (blk_below (g := gb283) (o := .cells #[.int .i64 t275, .int .i64 t276, .int .i64 t277, .int .i64 t278, .slice Ao23 t279.length co23] 32 (0, 0)) (by (with_reducible repeat (first | refine blk_drewN ?_ _ | refine blk_drew ?_ | refine blk_alloc ?_ _)); refine blk_far ?_ NB283_291.out _; (with_reducible repeat (first | refine blk_drewN ?_ _ | refine blk_drew ?_ | refine blk_alloc ?_ _)); refine blk_far ?_ NB283_291.out _; (with_reducible repeat (first | refine blk_drewN ?_ _ | refine blk_drew ?_ | refine blk_alloc ?_ _)); refine blk_far ?_ NB283_291.out _; (with_reducible repeat (first | refine blk_drewN ?_ _ | refine blk_drew ?_ | refine blk_alloc ?_ _)); refine blk_far ?_ NB283_291.out _; (with_reducible repeat (first | refine blk_drewN ?_ _ | refine blk_drew ?_ | refine blk_alloc ?_ _)); refine blk_far ?_ NB283_291.out _; exact bk_ BK283) hb); have n6_ := Aside0.mk (blk_below (g := gb291) (o := .cells #[.int .i64 t284, .int .i64 t285, .int .i64 t286, .int .i64 t287, .slice Ao30 t288.length co30] 32 (0, 0)) (by (with_reducible repeat (first | refine blk_drewN ?_ _ | refine blk_drew ?_ | refine blk_alloc ?_ _)); refine blk_put (cs := #[.int .i64 t284, .int .i64 t285, .int .i64 t286, .int .i64 t287, .slice none 0 0]) ?_ 4 _ rfl; (with_reducible repeat (first | refine blk_drewN ?_ _ | refine blk_drew ?_ | refine blk_alloc ?_ _)); refine blk_put (cs := #[.int .i64 t284, .int .i64 t285, .int .i64 t286, .int .i64 0, .slice none 0 0]) ?_ 3 _ rfl; (with_reducible repeat (first | refine blk_drewN ?_ _ | refine blk_drew ?_ | refine blk_alloc ?_ _)); refine blk_put (cs := #[.int .i64 t284, .int .i64 t285, .int .i64 0, .int .i64 0, .slice none 0 0]) ?_ 2 _ rfl; (with_reducible repeat (first | refine blk_drewN ?_ _ | refine blk_drew ?_ | refine blk_alloc ?_ _)); refine blk_put (cs := #[.int .i64 t284, .int .i64 0, .int .i64 0, .int .i64 0, .slice none 0 0]) ?_ 1 _ rfl; (with_reducible repeat (first | refine blk_drewN ?_ _ | refine blk_drew ?_ | refine blk_alloc ?_ _)); refine blk_put (cs := #[.int .i64 0, .int .i64 0, .int .i64 0, .int .i64 0, .slice none 0 0]) ?_ 0 _ rfl; exact bk_ BK291) hb); have n7_ := Aside0.mk (below_step (by repeat (first | (with_reducible first | exact HB.out | apply below_alloc | apply pw_below_drewN | apply below_drew1 | refine below_set ?_ GE266.out | refine below_set ?_ GE283.out | refine below_set ?_ GE291.out) | exact HB.out)) hb); clear HO274; clear HO281; clear HO290; clear BK266; clear BK283; clear BK291; clear HB; have HO274 := n0_; have HO281 := n1_; have HO290 := n2_; have HO298 := n3_; have BK266 := n4_; have BK283 := n5_; have BK291 := n6_; have HB := n7_; clear n0_ n1_ n2_ n3_ n4_ n5_ n6_ n7_; (try clear hb); (try clear hb2); (try clear hk); (try clear hi); (try clear ho0)) | ((with_reducible refine gate_dst (N := 9) rfl ?_); refine box_event ?hg (N := 9) ?hd (cs := #[.int .i64 0, .int .i64 0, .int .i64 0, .int .i64 0, .slice none 0 0]) (t := 32) ?hr ?_; (case hd => rfl); (case hg => rfl); (case hr => first | (go_simp; done) | (go_simp; rfl)); intro gb300 hg w32 hbox hb; have n0_ := Aside0.mk (Kd.R_below (kr_ HO274) hb); have n1_ := Aside0.mk (Kd.R_below (kr_ HO281) hb); have n2_ := Aside0.mk (Kd.R_below (kr_ HO290) hb); have n3_ := Aside0.mk (Kd.R_below (kr_ HO298) hb); have n4_ := Aside0.mk (blk_below (g := gb266) (o := .cells #[.int .i64 a0_0, .int .i64 a0_1, .int .i64 a0_2, .int .i64 a0_3, .slice A0_4 l0_4.length c0_4] 26 (0, 0)) (bk_ BK266) hb); have n5_ := Aside0.mk (blk_below (g := gb283) (o := .cells #[.int .i64 t275, .int .i64 t276, .int .i64 t277, .int .i64 t278, .slice Ao23 t279.length co23] 32 (0, 0)) (bk_ BK283) hb); have n6_ := Aside0.mk (blk_below (g := gb291) (o := .cells #[.int .i64 t284, .int .i64 t285, .int .i64 t286, .int .i64 t287, .slice Ao30 t288.length co30] 32 (0, 0)) (bk_ BK291) hb); have n7_ := Aside0.mk (below_step (by repeat (first | (with_reducible first | exact HB.out | apply below_alloc | apply pw_below_drewN | apply below_drew1 | refine below_set ?_ GE266.out | refine below_set ?_ GE283.out | refine below_set ?_ GE291.out) | exact HB.out)) hb); have n8_ := Aside0.mk (hbox); have n9_ := Aside0.mk ((by rw [hg]; exact (below_size (by repeat (first | (with_reducible first | exact HB.out | apply below_alloc | apply pw_below_drewN | apply below_drew1 | refine below_set ?_ GE266.out | refine below_set ?_ GE283.out | refine below_set ?_ GE291.out) | exact HB.out))) : w.heap.size ≤ gb300)); have n10_ := Aside0.mk ((by rw [hg]; exact (below_size (by repeat (first | (with_reducible first | exact HB.out | apply below_alloc | apply pw_below_drewN | apply below_drew1 | refine below_set ?_ GE266.out | refine below_set ?_ GE283.out | refine below_set ?_ GE291.out) | exact HB.out))) : w.heap.size ≤ gb300)); have n11_ := Aside0.mk ((by rw [hg]; exact Nat.ne_of_lt (blk_lt (g := gb266) (o := .cells #[.int .i64 a0_0, .int .i64 a0_1, .int .i64 a0_2, .int .i64 a0_3, .slice A0_4 l0_4.length c0_4] 26 (0, 0)) (bk_ BK266)) : gb266 ≠ gb300)); have n12_ := Aside0.mk ((by rw [hg]; exact Nat.ne_of_gt (blk_lt (g := gb266) (o := .cells #[.int .i64 a0_0, .int .i64 a0_1, .int .i64 a0_2, .int .i64 a0_3, .slice A0_4 l0_4.length c0_4] 26 (0, 0)) (bk_ BK266)) : gb300 ≠ gb266)); have n13_ := Aside0.mk ((by rw [hg]; exact Nat.ne_of_lt (blk_lt (g := gb283) (o := .cells #[.int .i64 t275, .int .i64 t276, .int .i64 t277, .int .i64 t278, .slice Ao23 t279.length co23] 32 (0, 0)) (bk_ BK283)) : gb283 ≠ gb300)); have n14_ := Aside0.mk ((by rw [hg]; exact Nat.ne_of_gt (blk_lt (g := gb283) (o := .cells #[.int .i64 t275, .int .i64 t276, .int .i64 t277, .int .i64 t278, .slice Ao23 t279.length co23] 32 (0, 0)) (bk_ BK283)) : gb300 ≠ gb283)); have n15_ := Aside0.mk ((by rw [hg]; exact Nat.ne_of_lt (blk_lt (g := gb291) (o := .cells #[.int .i64 t284, .int .i64 t285, .int .i64 t286, .int .i64 t287, .slice Ao30 t288.length co30] 32 (0, 0)) (bk_ BK291)) : gb291 ≠ gb300)); have n16_ := Aside0.mk ((by rw [hg]; exact Nat.ne_of_gt (blk_lt (g := gb291) (o := .cells #[.int .i64 t284, .int .i64 t285, .int .i64 t286, .int .i64 t287, .slice Ao30 t288.length co30] 32 (0, 0)) (bk_ BK291)) : gb300 ≠ gb291)); clear HO274; clear HO281; clear HO290; clear HO298; clear BK266; clear BK283; clear BK291; clear HB; have HO274 := n0_; have HO281 := n1_; have HO290 := n2_; have HO298 := n3_; have BK266 := n4_; have BK283 := n5_; have BK291 := n6_; have HB := n7_; have BK300 := n8_; have GW300 := n9_; have GE300 := n10_; have NB266_300 := n11_; have NB300_266 := n12_; have NB283_300 := n13_; have NB300_283 := n14_; have NB291_300 := n15_; have NB300_291 := n16_; clear n0_ n1_ n2_ n3_ n4_ n5_ n6_ n7_ n8_ n9_ n10_ n11_ n12_ n13_ n14_ n15_ n16_; clear hb hbox hg; have hnb33 := NB300_266.out; have hnc33 := NB266_300.out; have hnb34 := NB300_283.out; have hnc34 := NB283_300.out; have hnb35 := NB300_291.out; have hnc35 := NB291_300.out; have hcz36_0 : w32.cell? ⟨gb300, 0, none⟩ = some (.int .i64 0) := (blk_cell BK300.out 0).trans rfl; have hcz36_1 : w32.cell? ⟨gb300, 1, none⟩ = some (.int .i64 0) := (blk_cell BK300.out 1).trans rfl; have hcz36_2 : w32.cell? ⟨gb300, 2, none⟩ = some (.int .i64 0) := (blk_cell BK300.out 2).trans rfl; have hcz36_3 : w32.cell? ⟨gb300, 3, none⟩ = some (.int .i64 0) := (blk_cell BK300.out 3).trans rfl; have hcz36_4 : w32.cell? ⟨gb300, 4, none⟩ = some (.slice none 0 0) := (blk_cell BK300.out 4).trans rfl; have hfz36_0 := blk_frozen BK300.out 0; have hfz36_1 := blk_frozen BK300.out 1; have hfz36_2 := blk_frozen BK300.out 2; have hfz36_3 := blk_frozen BK300.out 3; have hfz36_4 := blk_frozen BK300.out 4; obtain ⟨Ao37, co37, eo37⟩ := Kd.R_slice HO298.out; subst eo37))
  (try simp only [Act.put, List.setIfInBounds_toArray, List.set_cons_zero, List.set_cons_succ])
  go_cut [44] (fun v44 wc => ∃ (kq : Nat) (x44_11 : Bool), v44 = .bool x44_11 ∧ Aside0 (laws_FnExactFairRest.j0 kq a1 t282 t299 x44_11 a0_0 a0_1 a0_2 a0_3 l0_4 t275 t276 t277 t278 t279 t284 t285 t286 t287 t288 t292 t293 t294 t295 t296 = some r) ∧ Aside0 (kq ≤ k) ∧ Aside0 (Kd.R k38 38 wc w.heap.size (fun k_ => some k_ ≠ ((.slice Ao30 t288.length co30) : Value).ownBlock ∧ some k_ ≠ ((.slice Ao37 t296.length co37) : Value).ownBlock) (.slice Ao23 t279.length co23) t279) ∧ Aside0 (Kd.R k38 38 wc w.heap.size (fun k_ => some k_ ≠ ((.slice Ao23 t279.length co23) : Value).ownBlock ∧ some k_ ≠ ((.slice Ao37 t296.length co37) : Value).ownBlock) (.slice Ao30 t288.length co30) t288) ∧ Aside0 (Kd.R k38 38 wc w.heap.size (fun k_ => some k_ ≠ ((.slice Ao23 t279.length co23) : Value).ownBlock ∧ some k_ ≠ ((.slice Ao30 t288.length co30) : Value).ownBlock) (.slice Ao37 t296.length co37) t296) ∧ Aside0 (wc.heap[gb266]? = some (.cells #[.int .i64 a0_0, .int .i64 a0_1, .int .i64 a0_2, .int .i64 a0_3, (.slice A0_4 l0_4.length c0_4)] 26 (0, 0))) ∧ Aside0 (wc.heap[gb283]? = some (.cells #[.int .i64 t275, .int .i64 t276, .int .i64 t277, .int .i64 t278, (.slice Ao23 t279.length co23)] 32 (0, 0))) ∧ Aside0 (wc.heap[gb291]? = some (.cells #[.int .i64 t284, .int .i64 t285, .int .i64 t286, .int .i64 t287, (.slice Ao30 t288.length co30)] 32 (0, 0))) ∧ Aside0 (wc.heap[gb300]? = some (.cells #[.int .i64 t292, .int .i64 t293, .int .i64 t294, .int .i64 t295, (.slice Ao37 t296.length co37)] 32 (0, 0))) ∧ Aside0 (Below w.heap.size w wc))
  case first =>
   have H := HC12.out
   clear HC12
   replace H := Option.bind_eq_some_iff.mp H
   obtain ⟨t301, A380, H⟩ := H
   replace H : (if t301 = true then (laws_FnExactFairRest.j0 k a1 t282 t299 (t299 != t282) a0_0 a0_1 a0_2 a0_3 l0_4 t275 t276 t277 t278 t279 t284 t285 t286 t287 t288 t292 t293 t294 t295 t296) else (laws_FnExactFairRest.j0 k a1 t282 t299 true a0_0 a0_1 a0_2 a0_3 l0_4 t275 t276 t277 t278 t279 t284 t285 t286 t287 t288 t292 t293 t294 t295 t296)) = some r := H
   have A38 := Aside0.mk A380
   clear A380
   by_cases c39 : t301 = true
   ·subst c39
    have H1 : (laws_FnExactFairRest.j0 k a1 t282 t299 (t299 != t282) a0_0 a0_1 a0_2 a0_3 l0_4 t275 t276 t277 t278 t279 t284 t285 t286 t287 t288 t292 t293 t294 t295 t296) = some r := by rw [if_pos rfl] at H; exact H
    clear H
    have H := H1
    clear H1
    have H' := Aside0.mk H
    clear H
    have hnb40 := NB300_266.out
    have hnc40 := NB266_300.out
    have hnb41 := NB300_283.out
    have hnc41 := NB283_300.out
    have hnb42 := NB300_291.out
    have hnc42 := NB291_300.out
    have hcz43_0 : w32.cell? ⟨gb300, 0, none⟩ = some (.int .i64 0) := (blk_cell BK300.out 0).trans rfl
    have hcz43_1 : w32.cell? ⟨gb300, 1, none⟩ = some (.int .i64 0) := (blk_cell BK300.out 1).trans rfl
    have hcz43_2 : w32.cell? ⟨gb300, 2, none⟩ = some (.int .i64 0) := (blk_cell BK300.out 2).trans rfl
    have hcz43_3 : w32.cell? ⟨gb300, 3, none⟩ = some (.int .i64 0) := (blk_cell BK300.out 3).trans rfl
    have hcz43_4 : w32.cell? ⟨gb300, 4, none⟩ = some (.slice none 0 0) := (blk_cell BK300.out 4).trans rfl
    have hfz43_0 := blk_frozen BK300.out 0
    have hfz43_1 := blk_frozen BK300.out 1
    have hfz43_2 := blk_frozen BK300.out 2
    have hfz43_3 := blk_frozen BK300.out 3
    have hfz43_4 := blk_frozen BK300.out 4
    have hnb44 := NB283_266.out
    have hnc44 := NB266_283.out
    have hnb45 := NB283_291.out
    have hnc45 := NB291_283.out
    have hcz46_0 : w32.cell? ⟨gb283, 0, none⟩ = some (.int .i64 t275) := (blk_cell BK283.out 0).trans rfl
    have hcz46_1 : w32.cell? ⟨gb283, 1, none⟩ = some (.int .i64 t276) := (blk_cell BK283.out 1).trans rfl
    have hcz46_2 : w32.cell? ⟨gb283, 2, none⟩ = some (.int .i64 t277) := (blk_cell BK283.out 2).trans rfl
    have hcz46_3 : w32.cell? ⟨gb283, 3, none⟩ = some (.int .i64 t278) := (blk_cell BK283.out 3).trans rfl
    have hcz46_4 : w32.cell? ⟨gb283, 4, none⟩ = some (.slice Ao23 t279.length co23) := (blk_cell BK283.out 4).trans rfl
    have hfz46_0 := blk_frozen BK283.out 0
    have hfz46_1 := blk_frozen BK283.out 1
    have hfz46_2 := blk_frozen BK283.out 2
    have hfz46_3 := blk_frozen BK283.out 3
    have hfz46_4 := blk_frozen BK283.out 4
    go_wp2_with (first | ((with_reducible refine gate_callee (f := 19) rfl ?_); refine goesL_ (some 38) rfl rfl Try.func19 (by kernel_rfl) rfl #[.agg #[.int .i64 t292, .int .i64 t293, .int .i64 t294, .int .i64 t295, .slice Ao37 t296.length co37], .agg #[.int .i64 t275, .int .i64 t276, .int .i64 t277, .int .i64 t278, .slice Ao23 t279.length co23]] rfl mt_ ?_; (with_reducible refine (laws_eqFair.calls k t292 t293 t294 t295 _ _ t296 t275 t276 t277 t278 _ _ t279 true _ ?side1 ?side2 ?side3 ?side4 A38.out).mono ?_); (case side1 => refine (Kd.R_reads' (e := 38) (base := w.heap.size) (ok := fun k_ => (((True ∧ some k_ ≠ (.slice Ao18 t272.length co18 : Value).ownBlock) ∧ some k_ ≠ (.slice Ao23 t279.length co23 : Value).ownBlock) ∧ some k_ ≠ (.slice Ao30 t288.length co30 : Value).ownBlock)) (n := t296.length) (c := co37) ?_).2.2; exact (by (with_reducible repeat (first | apply Kd.R_alloc | apply Kd.R_drewN | apply Kd.R_drew)); exact (Kd.R_mono (Kd.R_far (p := ⟨gb300, 4, none⟩) (Kd.R_far (p := ⟨gb300, 3, none⟩) (Kd.R_far (p := ⟨gb300, 2, none⟩) (Kd.R_far (p := ⟨gb300, 1, none⟩) (Kd.R_far (p := ⟨gb300, 0, none⟩) (Kd.R_types HO298.out BK300.out (by decide)) (fun _ hk => by first | exact hk.2 | grind) (.int .i64 t292)) (fun _ hk => by first | exact hk.2 | grind) (.int .i64 t293)) (fun _ hk => by first | exact hk.2 | grind) (.int .i64 t294)) (fun _ hk => by first | exact hk.2 | grind) (.int .i64 t295)) (fun _ hk => by first | exact hk.2 | grind) (.slice Ao37 t296.length co37)) (fun _ h_ => h_.1)))); (case side2 => exact (Kd.R_reads' HO298.out).2.1); (case side3 => refine (Kd.R_reads' (e := 38) (base := w.heap.size) (ok := fun k_ => (((True ∧ some k_ ≠ (.slice Ao18 t272.length co18 : Value).ownBlock) ∧ some k_ ≠ (.slice Ao30 t288.length co30 : Value).ownBlock) ∧ some k_ ≠ (.slice Ao37 t296.length co37 : Value).ownBlock)) (n := t279.length) (c := co23) ?_).2.2; exact (by (with_reducible repeat (first | apply Kd.R_alloc | apply Kd.R_drewN | apply Kd.R_drew)); exact (Kd.R_mono (Kd.R_far (p := ⟨gb300, 4, none⟩) (Kd.R_far (p := ⟨gb300, 3, none⟩) (Kd.R_far (p := ⟨gb300, 2, none⟩) (Kd.R_far (p := ⟨gb300, 1, none⟩) (Kd.R_far (p := ⟨gb300, 0, none⟩) (Kd.R_types HO281.out BK300.out (by decide)) (fun _ hk => by first | exact hk.2 | grind) (.int .i64 t292)) (fun _ hk => by first | exact hk.2 | grind) (.int .i64 t293)) (fun _ hk => by first | exact hk.2 | grind) (.int .i64 t294)) (fun _ hk => by first | exact hk.2 | grind) (.int .i64 t295)) (fun _ hk => by first | exact hk.2 | grind) (.slice Ao37 t296.length co37)) (fun _ h_ => h_.1)))); (case side4 => exact (Kd.R_reads' HO281.out).2.1); rintro e w47 ⟨rfl, hb⟩; refine ⟨_, rfl, ?_⟩; have n0_ := Aside0.mk (Kd.R_below (by (with_reducible repeat (first | apply Kd.R_alloc | apply Kd.R_drewN | apply Kd.R_drew)); exact (Kd.R_mono (Kd.R_far (p := ⟨gb300, 4, none⟩) (Kd.R_far (p := ⟨gb300, 3, none⟩) (Kd.R_far (p := ⟨gb300, 2, none⟩) (Kd.R_far (p := ⟨gb300, 1, none⟩) (Kd.R_far (p := ⟨gb300, 0, none⟩) (Kd.R_types HO274.out BK300.out (by decide)) (fun _ hk => by first | exact hk.2 | grind) (.int .i64 t292)) (fun _ hk => by first | exact hk.2 | grind) (.int .i64 t293)) (fun _ hk => by first | exact hk.2 | grind) (.int .i64 t294)) (fun _ hk => by first | exact hk.2 | grind) (.int .i64 t295)) (fun _ hk => by first | exact hk.2 | grind) (.slice Ao37 t296.length co37)) (fun _ h_ => h_.1))) hb); have n1_ := Aside0.mk (Kd.R_below (by (with_reducible repeat (first | apply Kd.R_alloc | apply Kd.R_drewN | apply Kd.R_drew)); exact (Kd.R_mono (Kd.R_far (p := ⟨gb300, 4, none⟩) (Kd.R_far (p := ⟨gb300, 3, none⟩) (Kd.R_far (p := ⟨gb300, 2, none⟩) (Kd.R_far (p := ⟨gb300, 1, none⟩) (Kd.R_far (p := ⟨gb300, 0, none⟩) (Kd.R_types HO281.out BK300.out (by decide)) (fun _ hk => by first | exact hk.2 | grind) (.int .i64 t292)) (fun _ hk => by first | exact hk.2 | grind) (.int .i64 t293)) (fun _ hk => by first | exact hk.2 | grind) (.int .i64 t294)) (fun _ hk => by first | exact hk.2 | grind) (.int .i64 t295)) (fun _ hk => by first | exact hk.2 | grind) (.slice Ao37 t296.length co37)) (fun _ h_ => h_.1))) hb); have n2_ := Aside0.mk (Kd.R_below (by (with_reducible repeat (first | apply Kd.R_alloc | apply Kd.R_drewN | apply Kd.R_drew)); exact (Kd.R_mono (Kd.R_far (p := ⟨gb300, 4, none⟩) (Kd.R_far (p := ⟨gb300, 3, none⟩) (Kd.R_far (p := ⟨gb300, 2, none⟩) (Kd.R_far (p := ⟨gb300, 1, none⟩) (Kd.R_far (p := ⟨gb300, 0, none⟩) (Kd.R_types HO290.out BK300.out (by decide)) (fun _ hk => by first | exact hk.2 | grind) (.int .i64 t292)) (fun _ hk => by first | exact hk.2 | grind) (.int .i64 t293)) (fun _ hk => by first | exact hk.2 | grind) (.int .i64 t294)) (fun _ hk => by first | exact hk.2 | grind) (.int .i64 t295)) (fun _ hk => by first | exact hk.2 | grind) (.slice Ao37 t296.length co37)) (fun _ h_ => h_.1))) hb); have n3_ := Aside0.mk (Kd.R_below (by (with_reducible repeat (first | apply Kd.R_alloc | apply Kd.R_drewN | apply Kd.R_drew)); exact (Kd.R_mono (Kd.R_far (p := ⟨gb300, 4, none⟩) (Kd.R_far (p := ⟨gb300, 3, none⟩) (Kd.R_far (p := ⟨gb300, 2, none⟩) (Kd.R_far (p := ⟨gb300, 1, none⟩) (Kd.R_far (p := ⟨gb300, 0, none⟩) (Kd.R_types HO298.out BK300.out (by decide)) (fun _ hk => by first | exact hk.2 | grind) (.int .i64 t292)) (fun _ hk => by first | exact hk.2 | grind) (.int .i64 t293)) (fun _ hk => by first | exact hk.2 | grind) (.int .i64 t294)) (fun _ hk => by first | exact hk.2 | grind) (.int .i64 t295)) (fun _ hk => by first | exact hk.2 | grind) (.slice Ao37 t296.length co37)) (fun _ h_ => h_.1))) hb); have n4_ := Aside0.mk (blk_below (g := gb266) (o := .cells #[.int .i64 a0_0, .int .i64 a0_1, .int .i64 a0_2, .int .i64 a0_3, .slice A0_4 l0_4.length c0_4] 26 (0, 0)) (by (with_reducible repeat (first | refine blk_drewN ?_ _ | refine blk_drew ?_ | refine blk_alloc ?_ _)); refine blk_far ?_ NB266_300.out _; (with_reducible repeat (first | refine blk_drewN ?_ _ | refine blk_drew ?_ | refine blk_alloc ?_ _)); refine blk_far ?_ NB266_300.out _; (with_reducible repeat (first | refine blk_drewN ?_ _ | refine blk_drew ?_ | refine blk_alloc ?_ _)); refine blk_far ?_ NB266_300.out _; (with_reducible repeat (first | refine blk_drewN ?_ _ | refine blk_drew ?_ | refine blk_alloc ?_ _)); refine blk_far ?_ NB266_300.out _; (with_reducible repeat (first | refine blk_drewN ?_ _ | refine blk_drew ?_ | refine blk_alloc ?_ _)); refine blk_far ?_ NB266_300.out _; exact bk_ BK266) hb); have n5_ := Aside0.mk (blk_below (g := gb283) (o := .cells #[.int .i64 t275, .int .i64 t276, .int .i64 t277, .int .i64 t278, .slice Ao23 t279.length co23] 32 (0, 0)) (by (with_reducible repeat (first | refine blk_drewN ?_ _ | refine blk_drew ?_ | refine blk_alloc ?_ _)); refine blk_far ?_ NB283_300.out _; (with_reducible repeat (first | refine blk_drewN ?_ _ | refine blk_drew ?_ | refine blk_alloc ?_ _)); refine blk_far ?_ NB283_300.out _; (with_reducible repeat (first | refine blk_drewN ?_ _ | refine blk_drew ?_ | refine blk_alloc ?_ _)); refine blk_far ?_ NB283_300.out _; (with_reducible repeat (first | refine blk_drewN ?_ _ | refine blk_drew ?_ | refine blk_alloc ?_ _)); refine blk_far ?_ NB283_300.out _; (with_reducible repeat (first | refine blk_drewN ?_ _ | refine blk_drew ?_ | refine blk_alloc ?_ _)); refine blk_far ?_ NB283_300.out _; exact bk_ BK283) hb); have n6_ := Aside0.mk (blk_below (g := gb291) (o := .cells #[.int .i64 t284, .int .i64 t285, .int .i64 t286, .int .i64 t287, .slice Ao30 t288.length co30] 32 (0, 0)) (by (with_reducible repeat (first | refine blk_drewN ?_ _ | refine blk_drew ?_ | refine blk_alloc ?_ _)); refine blk_far ?_ NB291_300.out _; (with_reducible repeat (first | refine blk_drewN ?_ _ | refine blk_drew ?_ | refine blk_alloc ?_ _)); refine blk_far ?_ NB291_300.out _; (with_reducible repeat (first | refine blk_drewN ?_ _ | refine blk_drew ?_ | refine blk_alloc ?_ _)); refine blk_far ?_ NB291_300.out _; (with_reducible repeat (first | refine blk_drewN ?_ _ | refine blk_drew ?_ | refine blk_alloc ?_ _)); refine blk_far ?_ NB291_300.out _; (with_reducible repeat (first | refine blk_drewN ?_ _ | refine blk_drew ?_ | refine blk_alloc ?_ _)); refine blk_far ?_ NB291_300.out _; exact bk_ BK291) hb); have n7_ := Aside0.mk (blk_below (g := gb300) (o := .cells #[.int .i64 t292, .int .i64 t293, .int .i64 t294, .int .i64 t295, .slice Ao37 t296.length co37] 32 (0, 0)) (by (with_reducible repeat (first | refine blk_drewN ?_ _ | refine blk_drew ?_ | refine blk_alloc ?_ _)); refine blk_put (cs := #[.int .i64 t292, .int .i64 t293, .int .i64 t294, .int .i64 t295, .slice none 0 0]) ?_ 4 _ rfl; (with_reducible repeat (first | refine blk_drewN ?_ _ | refine blk_drew ?_ | refine blk_alloc ?_ _)); refine blk_put (cs := #[.int .i64 t292, .int .i64 t293, .int .i64 t294, .int .i64 0, .slice none 0 0]) ?_ 3 _ rfl; (with_reducible repeat (first | refine blk_drewN ?_ _ | refine blk_drew ?_ | refine blk_alloc ?_ _)); refine blk_put (cs := #[.int .i64 t292, .int .i64 t293, .int .i64 0, .int .i64 0, .slice none 0 0]) ?_ 2 _ rfl; (with_reducible repeat (first | refine blk_drewN ?_ _ | refine blk_drew ?_ | refine blk_alloc ?_ _)); refine blk_put (cs := #[.int .i64 t292, .int .i64 0, .int .i64 0, .int .i64 0, .slice none 0 0]) ?_ 1 _ rfl; (with_reducible repeat (first | refine blk_drewN ?_ _ | refine blk_drew ?_ | refine blk_alloc ?_ _)); refine blk_put (cs := #[.int .i64 0, .int .i64 0, .int .i64 0, .int .i64 0, .slice none 0 0]) ?_ 0 _ rfl; exact bk_ BK300) hb); have n8_ := Aside0.mk (below_step (by repeat (first | (with_reducible first | exact HB.out | apply below_alloc | apply pw_below_drewN | apply below_drew1 | refine below_set ?_ GE266.out | refine below_set ?_ GE283.out | refine below_set ?_ GE291.out | refine below_set ?_ GE300.out) | exact HB.out)) hb); clear HO274; clear HO281; clear HO290; clear HO298; clear BK266; clear BK283; clear BK291; clear BK300; clear HB; have HO274 := n0_; have HO281 := n1_; have HO290 := n2_; have HO298 := n3_; have BK266 := n4_; have BK283 := n5_; have BK291 := n6_; have BK300 := n7_; have HB := n8_; clear n0_ n1_ n2_ n3_ n4_ n5_ n6_ n7_ n8_; (try clear hb); (try clear hb2); (try clear hk); (try clear hi)))
    go_meet
    case rel => exact ⟨_, ((t299 != t282)), (by first | rfl | (simp; done) | (simp [*]; done)), H', ⟨by first | omega | exact Nat.le_refl _⟩, ⟨by (with_reducible repeat (first | apply Kd.R_alloc | apply Kd.R_drewN | apply Kd.R_drew)); exact Kd.R_mono HO281.out (fun _ hk => by first | exact ⟨hk.1.2, hk.2⟩ | grind)⟩, ⟨by (with_reducible repeat (first | apply Kd.R_alloc | apply Kd.R_drewN | apply Kd.R_drew)); exact Kd.R_mono HO290.out (fun _ hk => by first | exact ⟨hk.1.2, hk.2⟩ | grind)⟩, ⟨by (with_reducible repeat (first | apply Kd.R_alloc | apply Kd.R_drewN | apply Kd.R_drew)); exact Kd.R_mono HO298.out (fun _ hk => by first | exact ⟨hk.1.2, hk.2⟩ | grind)⟩, ⟨bk_ BK266⟩, ⟨bk_ BK283⟩, ⟨bk_ BK291⟩, ⟨bk_ BK300⟩, ⟨by repeat (first | (with_reducible first | exact HB.out | apply below_alloc | apply pw_below_drewN | apply below_drew1 | refine below_set ?_ GE266.out | refine below_set ?_ GE283.out | refine below_set ?_ GE291.out | refine below_set ?_ GE300.out) | exact HB.out)⟩⟩
   ·replace c39 := Bool.eq_false_iff.mpr c39
    subst c39
    have H1 : (laws_FnExactFairRest.j0 k a1 t282 t299 true a0_0 a0_1 a0_2 a0_3 l0_4 t275 t276 t277 t278 t279 t284 t285 t286 t287 t288 t292 t293 t294 t295 t296) = some r := by rw [if_neg (show ¬ (false = true) by decide)] at H; exact H
    clear H
    have H := H1
    clear H1
    have H' := Aside0.mk H
    clear H
    have hnb48 := NB300_266.out
    have hnc48 := NB266_300.out
    have hnb49 := NB300_283.out
    have hnc49 := NB283_300.out
    have hnb50 := NB300_291.out
    have hnc50 := NB291_300.out
    have hcz51_0 : w32.cell? ⟨gb300, 0, none⟩ = some (.int .i64 0) := (blk_cell BK300.out 0).trans rfl
    have hcz51_1 : w32.cell? ⟨gb300, 1, none⟩ = some (.int .i64 0) := (blk_cell BK300.out 1).trans rfl
    have hcz51_2 : w32.cell? ⟨gb300, 2, none⟩ = some (.int .i64 0) := (blk_cell BK300.out 2).trans rfl
    have hcz51_3 : w32.cell? ⟨gb300, 3, none⟩ = some (.int .i64 0) := (blk_cell BK300.out 3).trans rfl
    have hcz51_4 : w32.cell? ⟨gb300, 4, none⟩ = some (.slice none 0 0) := (blk_cell BK300.out 4).trans rfl
    have hfz51_0 := blk_frozen BK300.out 0
    have hfz51_1 := blk_frozen BK300.out 1
    have hfz51_2 := blk_frozen BK300.out 2
    have hfz51_3 := blk_frozen BK300.out 3
    have hfz51_4 := blk_frozen BK300.out 4
    have hnb52 := NB283_266.out
    have hnc52 := NB266_283.out
    have hnb53 := NB283_291.out
    have hnc53 := NB291_283.out
    have hcz54_0 : w32.cell? ⟨gb283, 0, none⟩ = some (.int .i64 t275) := (blk_cell BK283.out 0).trans rfl
    have hcz54_1 : w32.cell? ⟨gb283, 1, none⟩ = some (.int .i64 t276) := (blk_cell BK283.out 1).trans rfl
    have hcz54_2 : w32.cell? ⟨gb283, 2, none⟩ = some (.int .i64 t277) := (blk_cell BK283.out 2).trans rfl
    have hcz54_3 : w32.cell? ⟨gb283, 3, none⟩ = some (.int .i64 t278) := (blk_cell BK283.out 3).trans rfl
    have hcz54_4 : w32.cell? ⟨gb283, 4, none⟩ = some (.slice Ao23 t279.length co23) := (blk_cell BK283.out 4).trans rfl
    have hfz54_0 := blk_frozen BK283.out 0
    have hfz54_1 := blk_frozen BK283.out 1
    have hfz54_2 := blk_frozen BK283.out 2
    have hfz54_3 := blk_frozen BK283.out 3
    have hfz54_4 := blk_frozen BK283.out 4
    go_wp2_with (first | ((with_reducible refine gate_callee (f := 19) rfl ?_); refine goesL_ (some 38) rfl rfl Try.func19 (by kernel_rfl) rfl #[.agg #[.int .i64 t292, .int .i64 t293, .int .i64 t294, .int .i64 t295, .slice Ao37 t296.length co37], .agg #[.int .i64 t275, .int .i64 t276, .int .i64 t277, .int .i64 t278, .slice Ao23 t279.length co23]] rfl mt_ ?_; (with_reducible refine (laws_eqFair.calls k t292 t293 t294 t295 _ _ t296 t275 t276 t277 t278 _ _ t279 false _ ?side1 ?side2 ?side3 ?side4 A38.out).mono ?_); (case side1 => refine (Kd.R_reads' (e := 38) (base := w.heap.size) (ok := fun k_ => (((True ∧ some k_ ≠ (.slice Ao18 t272.length co18 : Value).ownBlock) ∧ some k_ ≠ (.slice Ao23 t279.length co23 : Value).ownBlock) ∧ some k_ ≠ (.slice Ao30 t288.length co30 : Value).ownBlock)) (n := t296.length) (c := co37) ?_).2.2; exact (by (with_reducible repeat (first | apply Kd.R_alloc | apply Kd.R_drewN | apply Kd.R_drew)); exact (Kd.R_mono (Kd.R_far (p := ⟨gb300, 4, none⟩) (Kd.R_far (p := ⟨gb300, 3, none⟩) (Kd.R_far (p := ⟨gb300, 2, none⟩) (Kd.R_far (p := ⟨gb300, 1, none⟩) (Kd.R_far (p := ⟨gb300, 0, none⟩) (Kd.R_types HO298.out BK300.out (by decide)) (fun _ hk => by first | exact hk.2 | grind) (.int .i64 t292)) (fun _ hk => by first | exact hk.2 | grind) (.int .i64 t293)) (fun _ hk => by first | exact hk.2 | grind) (.int .i64 t294)) (fun _ hk => by first | exact hk.2 | grind) (.int .i64 t295)) (fun _ hk => by first | exact hk.2 | grind) (.slice Ao37 t296.length co37)) (fun _ h_ => h_.1)))); (case side2 => exact (Kd.R_reads' HO298.out).2.1); (case side3 => refine (Kd.R_reads' (e := 38) (base := w.heap.size) (ok := fun k_ => (((True ∧ some k_ ≠ (.slice Ao18 t272.length co18 : Value).ownBlock) ∧ some k_ ≠ (.slice Ao30 t288.length co30 : Value).ownBlock) ∧ some k_ ≠ (.slice Ao37 t296.length co37 : Value).ownBlock)) (n := t279.length) (c := co23) ?_).2.2; exact (by (with_reducible repeat (first | apply Kd.R_alloc | apply Kd.R_drewN | apply Kd.R_drew)); exact (Kd.R_mono (Kd.R_far (p := ⟨gb300, 4, none⟩) (Kd.R_far (p := ⟨gb300, 3, none⟩) (Kd.R_far (p := ⟨gb300, 2, none⟩) (Kd.R_far (p := ⟨gb300, 1, none⟩) (Kd.R_far (p := ⟨gb300, 0, none⟩) (Kd.R_types HO281.out BK300.out (by decide)) (fun _ hk => by first | exact hk.2 | grind) (.int .i64 t292)) (fun _ hk => by first | exact hk.2 | grind) (.int .i64 t293)) (fun _ hk => by first | exact hk.2 | grind) (.int .i64 t294)) (fun _ hk => by first | exact hk.2 | grind) (.int .i64 t295)) (fun _ hk => by first | exact hk.2 | grind) (.slice Ao37 t296.length co37)) (fun _ h_ => h_.1)))); (case side4 => exact (Kd.R_reads' HO281.out).2.1); rintro e w55 ⟨rfl, hb⟩; refine ⟨_, rfl, ?_⟩; have n0_ := Aside0.mk (Kd.R_below (by (with_reducible repeat (first | apply Kd.R_alloc | apply Kd.R_drewN | apply Kd.R_drew)); exact (Kd.R_mono (Kd.R_far (p := ⟨gb300, 4, none⟩) (Kd.R_far (p := ⟨gb300, 3, none⟩) (Kd.R_far (p := ⟨gb300, 2, none⟩) (Kd.R_far (p := ⟨gb300, 1, none⟩) (Kd.R_far (p := ⟨gb300, 0, none⟩) (Kd.R_types HO274.out BK300.out (by decide)) (fun _ hk => by first | exact hk.2 | grind) (.int .i64 t292)) (fun _ hk => by first | exact hk.2 | grind) (.int .i64 t293)) (fun _ hk => by first | exact hk.2 | grind) (.int .i64 t294)) (fun _ hk => by first | exact hk.2 | grind) (.int .i64 t295)) (fun _ hk => by first | exact hk.2 | grind) (.slice Ao37 t296.length co37)) (fun _ h_ => h_.1))) hb); have n1_ := Aside0.mk (Kd.R_below (by (with_reducible repeat (first | apply Kd.R_alloc | apply Kd.R_drewN | apply Kd.R_drew)); exact (Kd.R_mono (Kd.R_far (p := ⟨gb300, 4, none⟩) (Kd.R_far (p := ⟨gb300, 3, none⟩) (Kd.R_far (p := ⟨gb300, 2, none⟩) (Kd.R_far (p := ⟨gb300, 1, none⟩) (Kd.R_far (p := ⟨gb300, 0, none⟩) (Kd.R_types HO281.out BK300.out (by decide)) (fun _ hk => by first | exact hk.2 | grind) (.int .i64 t292)) (fun _ hk => by first | exact hk.2 | grind) (.int .i64 t293)) (fun _ hk => by first | exact hk.2 | grind) (.int .i64 t294)) (fun _ hk => by first | exact hk.2 | grind) (.int .i64 t295)) (fun _ hk => by first | exact hk.2 | grind) (.slice Ao37 t296.length co37)) (fun _ h_ => h_.1))) hb); have n2_ := Aside0.mk (Kd.R_below (by (with_reducible repeat (first | apply Kd.R_alloc | apply Kd.R_drewN | apply Kd.R_drew)); exact (Kd.R_mono (Kd.R_far (p := ⟨gb300, 4, none⟩) (Kd.R_far (p := ⟨gb300, 3, none⟩) (Kd.R_far (p := ⟨gb300, 2, none⟩) (Kd.R_far (p := ⟨gb300, 1, none⟩) (Kd.R_far (p := ⟨gb300, 0, none⟩) (Kd.R_types HO290.out BK300.out (by decide)) (fun _ hk => by first | exact hk.2 | grind) (.int .i64 t292)) (fun _ hk => by first | exact hk.2 | grind) (.int .i64 t293)) (fun _ hk => by first | exact hk.2 | grind) (.int .i64 t294)) (fun _ hk => by first | exact hk.2 | grind) (.int .i64 t295)) (fun _ hk => by first | exact hk.2 | grind) (.slice Ao37 t296.length co37)) (fun _ h_ => h_.1))) hb); have n3_ := Aside0.mk (Kd.R_below (by (with_reducible repeat (first | apply Kd.R_alloc | apply Kd.R_drewN | apply Kd.R_drew)); exact (Kd.R_mono (Kd.R_far (p := ⟨gb300, 4, none⟩) (Kd.R_far (p := ⟨gb300, 3, none⟩) (Kd.R_far (p := ⟨gb300, 2, none⟩) (Kd.R_far (p := ⟨gb300, 1, none⟩) (Kd.R_far (p := ⟨gb300, 0, none⟩) (Kd.R_types HO298.out BK300.out (by decide)) (fun _ hk => by first | exact hk.2 | grind) (.int .i64 t292)) (fun _ hk => by first | exact hk.2 | grind) (.int .i64 t293)) (fun _ hk => by first | exact hk.2 | grind) (.int .i64 t294)) (fun _ hk => by first | exact hk.2 | grind) (.int .i64 t295)) (fun _ hk => by first | exact hk.2 | grind) (.slice Ao37 t296.length co37)) (fun _ h_ => h_.1))) hb); have n4_ := Aside0.mk (blk_below (g := gb266) (o := .cells #[.int .i64 a0_0, .int .i64 a0_1, .int .i64 a0_2, .int .i64 a0_3, .slice A0_4 l0_4.length c0_4] 26 (0, 0)) (by (with_reducible repeat (first | refine blk_drewN ?_ _ | refine blk_drew ?_ | refine blk_alloc ?_ _)); refine blk_far ?_ NB266_300.out _; (with_reducible repeat (first | refine blk_drewN ?_ _ | refine blk_drew ?_ | refine blk_alloc ?_ _)); refine blk_far ?_ NB266_300.out _; (with_reducible repeat (first | refine blk_drewN ?_ _ | refine blk_drew ?_ | refine blk_alloc ?_ _)); refine blk_far ?_ NB266_300.out _; (with_reducible repeat (first | refine blk_drewN ?_ _ | refine blk_drew ?_ | refine blk_alloc ?_ _)); refine blk_far ?_ NB266_300.out _; (with_reducible repeat (first | refine blk_drewN ?_ _ | refine blk_drew ?_ | refine blk_alloc ?_ _)); refine blk_far ?_ NB266_300.out _; exact bk_ BK266) hb); have n5_ := Aside0.mk (blk_below (g := gb283) (o := .cells #[.int .i64 t275, .int .i64 t276, .int .i64 t277, .int .i64 t278, .slice Ao23 t279.length co23] 32 (0, 0)) (by (with_reducible repeat (first | refine blk_drewN ?_ _ | refine blk_drew ?_ | refine blk_alloc ?_ _)); refine blk_far ?_ NB283_300.out _; (with_reducible repeat (first | refine blk_drewN ?_ _ | refine blk_drew ?_ | refine blk_alloc ?_ _)); refine blk_far ?_ NB283_300.out _; (with_reducible repeat (first | refine blk_drewN ?_ _ | refine blk_drew ?_ | refine blk_alloc ?_ _)); refine blk_far ?_ NB283_300.out _; (with_reducible repeat (first | refine blk_drewN ?_ _ | refine blk_drew ?_ | refine blk_alloc ?_ _)); refine blk_far ?_ NB283_300.out _; (with_reducible repeat (first | refine blk_drewN ?_ _ | refine blk_drew ?_ | refine blk_alloc ?_ _)); refine blk_far ?_ NB283_300.out _; exact bk_ BK283) hb); have n6_ := Aside0.mk (blk_below (g := gb291) (o := .cells #[.int .i64 t284, .int .i64 t285, .int .i64 t286, .int .i64 t287, .slice Ao30 t288.length co30] 32 (0, 0)) (by (with_reducible repeat (first | refine blk_drewN ?_ _ | refine blk_drew ?_ | refine blk_alloc ?_ _)); refine blk_far ?_ NB291_300.out _; (with_reducible repeat (first | refine blk_drewN ?_ _ | refine blk_drew ?_ | refine blk_alloc ?_ _)); refine blk_far ?_ NB291_300.out _; (with_reducible repeat (first | refine blk_drewN ?_ _ | refine blk_drew ?_ | refine blk_alloc ?_ _)); refine blk_far ?_ NB291_300.out _; (with_reducible repeat (first | refine blk_drewN ?_ _ | refine blk_drew ?_ | refine blk_alloc ?_ _)); refine blk_far ?_ NB291_300.out _; (with_reducible repeat (first | refine blk_drewN ?_ _ | refine blk_drew ?_ | refine blk_alloc ?_ _)); refine blk_far ?_ NB291_300.out _; exact bk_ BK291) hb); have n7_ := Aside0.mk (blk_below (g := gb300) (o := .cells #[.int .i64 t292, .int .i64 t293, .int .i64 t294, .int .i64 t295, .slice Ao37 t296.length co37] 32 (0, 0)) (by (with_reducible repeat (first | refine blk_drewN ?_ _ | refine blk_drew ?_ | refine blk_alloc ?_ _)); refine blk_put (cs := #[.int .i64 t292, .int .i64 t293, .int .i64 t294, .int .i64 t295, .slice none 0 0]) ?_ 4 _ rfl; (with_reducible repeat (first | refine blk_drewN ?_ _ | refine blk_drew ?_ | refine blk_alloc ?_ _)); refine blk_put (cs := #[.int .i64 t292, .int .i64 t293, .int .i64 t294, .int .i64 0, .slice none 0 0]) ?_ 3 _ rfl; (with_reducible repeat (first | refine blk_drewN ?_ _ | refine blk_drew ?_ | refine blk_alloc ?_ _)); refine blk_put (cs := #[.int .i64 t292, .int .i64 t293, .int .i64 0, .int .i64 0, .slice none 0 0]) ?_ 2 _ rfl; (with_reducible repeat (first | refine blk_drewN ?_ _ | refine blk_drew ?_ | refine blk_alloc ?_ _)); refine blk_put (cs := #[.int .i64 t292, .int .i64 0, .int .i64 0, .int .i64 0, .slice none 0 0]) ?_ 1 _ rfl; (with_reducible repeat (first | refine blk_drewN ?_ _ | refine blk_drew ?_ | refine blk_alloc ?_ _)); refine blk_put (cs := #[.int .i64 0, .int .i64 0, .int .i64 0, .int .i64 0, .slice none 0 0]) ?_ 0 _ rfl; exact bk_ BK300) hb); have n8_ := Aside0.mk (below_step (by repeat (first | (with_reducible first | exact HB.out | apply below_alloc | apply pw_below_drewN | apply below_drew1 | refine below_set ?_ GE266.out | refine below_set ?_ GE283.out | refine below_set ?_ GE291.out | refine below_set ?_ GE300.out) | exact HB.out)) hb); clear HO274; clear HO281; clear HO290; clear HO298; clear BK266; clear BK283; clear BK291; clear BK300; clear HB; have HO274 := n0_; have HO281 := n1_; have HO290 := n2_; have HO298 := n3_; have BK266 := n4_; have BK283 := n5_; have BK291 := n6_; have BK300 := n7_; have HB := n8_; clear n0_ n1_ n2_ n3_ n4_ n5_ n6_ n7_ n8_; (try clear hb); (try clear hb2); (try clear hk); (try clear hi)))
    go_meet
    case rel => exact ⟨_, (true), (by first | rfl | (simp; done) | (simp [*]; done)), H', ⟨by first | omega | exact Nat.le_refl _⟩, ⟨by (with_reducible repeat (first | apply Kd.R_alloc | apply Kd.R_drewN | apply Kd.R_drew)); exact Kd.R_mono HO281.out (fun _ hk => by first | exact ⟨hk.1.2, hk.2⟩ | grind)⟩, ⟨by (with_reducible repeat (first | apply Kd.R_alloc | apply Kd.R_drewN | apply Kd.R_drew)); exact Kd.R_mono HO290.out (fun _ hk => by first | exact ⟨hk.1.2, hk.2⟩ | grind)⟩, ⟨by (with_reducible repeat (first | apply Kd.R_alloc | apply Kd.R_drewN | apply Kd.R_drew)); exact Kd.R_mono HO298.out (fun _ hk => by first | exact ⟨hk.1.2, hk.2⟩ | grind)⟩, ⟨bk_ BK266⟩, ⟨bk_ BK283⟩, ⟨bk_ BK291⟩, ⟨bk_ BK300⟩, ⟨by repeat (first | (with_reducible first | exact HB.out | apply below_alloc | apply pw_below_drewN | apply below_drew1 | refine below_set ?_ GE266.out | refine below_set ?_ GE283.out | refine below_set ?_ GE291.out | refine below_set ?_ GE300.out) | exact HB.out)⟩⟩
  case rest =>
   clear HC12
   try clear c1
   try clear c2
   try clear p2
   try clear c3
   try clear c4
   try clear c4b0
   try clear c5
   try clear c7
   try clear c15
   try clear c17
   try clear c19
   try clear c21
   try clear c27
   try clear c28
   try clear c33
   try clear c34
   try clear c35
   try clear c39
   try clear c40
   try clear c41
   try clear c42
   try clear c44
   try clear c45
   try clear c48
   try clear c49
   try clear c50
   try clear c52
   try clear c53
   try clear hcz14_0
   try clear hcz14_1
   try clear hcz14_2
   try clear hcz14_3
   try clear hcz14_4
   try clear hcz16_0
   try clear hcz16_1
   try clear hcz16_2
   try clear hcz16_3
   try clear hcz16_4
   try clear hcz22_0
   try clear hcz22_1
   try clear hcz22_2
   try clear hcz22_3
   try clear hcz22_4
   try clear hcz24_0
   try clear hcz24_1
   try clear hcz24_2
   try clear hcz24_3
   try clear hcz24_4
   try clear hcz29_0
   try clear hcz29_1
   try clear hcz29_2
   try clear hcz29_3
   try clear hcz29_4
   try clear hcz36_0
   try clear hcz36_1
   try clear hcz36_2
   try clear hcz36_3
   try clear hcz36_4
   try clear hcz43_0
   try clear hcz43_1
   try clear hcz43_2
   try clear hcz43_3
   try clear hcz43_4
   try clear hcz46_0
   try clear hcz46_1
   try clear hcz46_2
   try clear hcz46_3
   try clear hcz46_4
   try clear hcz51_0
   try clear hcz51_1
   try clear hcz51_2
   try clear hcz51_3
   try clear hcz51_4
   try clear hcz54_0
   try clear hcz54_1
   try clear hcz54_2
   try clear hcz54_3
   try clear hcz54_4
   try clear hcz6_0
   try clear hcz6_1
   try clear hcz6_2
   try clear hcz6_3
   try clear hcz6_4
   try clear hfz14_0
   try clear hfz14_1
   try clear hfz14_2
   try clear hfz14_3
   try clear hfz14_4
   try clear hfz16_0
   try clear hfz16_1
   try clear hfz16_2
   try clear hfz16_3
   try clear hfz16_4
   try clear hfz22_0
   try clear hfz22_1
   try clear hfz22_2
   try clear hfz22_3
   try clear hfz22_4
   try clear hfz24_0
   try clear hfz24_1
   try clear hfz24_2
   try clear hfz24_3
   try clear hfz24_4
   try clear hfz29_0
   try clear hfz29_1
   try clear hfz29_2
   try clear hfz29_3
   try clear hfz29_4
   try clear hfz36_0
   try clear hfz36_1
   try clear hfz36_2
   try clear hfz36_3
   try clear hfz36_4
   try clear hfz43_0
   try clear hfz43_1
   try clear hfz43_2
   try clear hfz43_3
   try clear hfz43_4
   try clear hfz46_0
   try clear hfz46_1
   try clear hfz46_2
   try clear hfz46_3
   try clear hfz46_4
   try clear hfz51_0
   try clear hfz51_1
   try clear hfz51_2
   try clear hfz51_3
   try clear hfz51_4
   try clear hfz54_0
   try clear hfz54_1
   try clear hfz54_2
   try clear hfz54_3
   try clear hfz54_4
   try clear hfz6_0
   try clear hfz6_1
   try clear hfz6_2
   try clear hfz6_3
   try clear hfz6_4
   obtain ⟨kq, x44_11, rfl, HA, HJ11, HO_284004, HO_292004, HO_301004, BK266, BK283, BK291, BK300, HB⟩ := hcut
   cases kq with
   | zero => exact absurd HA.out (by simp [laws_FnExactFairRest.j0])
   | succ kj11 =>
    have H := HA.out
    clear HA
    simp only [laws_FnExactFairRest.j0] at H
    by_cases c56 : x44_11 = true
    ·subst c56
     have H1 : (some false) = some r := by rw [if_pos rfl] at H; exact H
     clear H
     have H := H1
     clear H1
     obtain rfl := Option.some.inj H
     go_wp2
     go_ret
     exact ⟨by first | rfl | (simp [errW_none, errW_some] <;> rfl) | (simp [*, errW_none, errW_some] <;> rfl), by repeat (first | (with_reducible first | exact HB.out | apply below_alloc | apply pw_below_drewN | apply below_drew1 | refine below_set ?_ GE266.out | refine below_set ?_ GE283.out | refine below_set ?_ GE291.out | refine below_set ?_ GE300.out) | exact HB.out)⟩
    ·replace c56 := Bool.eq_false_iff.mpr c56
     subst c56
     have H1 : ((laws_toFair.f kj11 a0_0 a0_1 a0_2 a0_3 l0_4).bind fun bt302 => ((laws_eqFair.f kj11 t284 t285 t286 t287 t288 bt302.1 bt302.2.1 bt302.2.2.1 bt302.2.2.2.1 bt302.2.2.2.2).bind fun t309 => (if t309 = true then ((laws_markFair.f kj11 t284 t285 t286 t287 t288 1).bind fun bt310 => (if bt310.1 < 0 then (laws_FnExactFairRest.j1 kj11 a1 t282 true a0_0 a0_1 a0_2 a0_3 l0_4 t275 t276 t277 t278 t279 t292 t293 t294 t295 t296) else ((laws_eqFair.f kj11 t292 t293 t294 t295 t296 t275 t276 t277 t278 t279).bind fun t312 => (if t312 = true then (laws_FnExactFairRest.j1 kj11 a1 t282 (t299 != t282) a0_0 a0_1 a0_2 a0_3 l0_4 t275 t276 t277 t278 t279 t292 t293 t294 t295 t296) else (laws_FnExactFairRest.j1 kj11 a1 t282 true a0_0 a0_1 a0_2 a0_3 l0_4 t275 t276 t277 t278 t279 t292 t293 t294 t295 t296))))) else (some false)))) = some r := by rw [if_neg (show ¬ (false = true) by decide)] at H; exact H
     clear H
     have H := H1
     clear H1
     replace H := Option.bind_eq_some_iff.mp H
     obtain ⟨⟨t302, t303, t304, t305, t306⟩, A570, H⟩ := H
     replace H : ((laws_eqFair.f kj11 t284 t285 t286 t287 t288 t302 t303 t304 t305 t306).bind fun t309 => (if t309 = true then ((laws_markFair.f kj11 t284 t285 t286 t287 t288 1).bind fun bt310 => (if bt310.1 < 0 then (laws_FnExactFairRest.j1 kj11 a1 t282 true a0_0 a0_1 a0_2 a0_3 l0_4 t275 t276 t277 t278 t279 t292 t293 t294 t295 t296) else ((laws_eqFair.f kj11 t292 t293 t294 t295 t296 t275 t276 t277 t278 t279).bind fun t312 => (if t312 = true then (laws_FnExactFairRest.j1 kj11 a1 t282 (t299 != t282) a0_0 a0_1 a0_2 a0_3 l0_4 t275 t276 t277 t278 t279 t292 t293 t294 t295 t296) else (laws_FnExactFairRest.j1 kj11 a1 t282 true a0_0 a0_1 a0_2 a0_3 l0_4 t275 t276 t277 t278 t279 t292 t293 t294 t295 t296))))) else (some false))) = some r := H
     have A57 := Aside0.mk A570
     clear A570
     replace H := Option.bind_eq_some_iff.mp H
     obtain ⟨t309, A580, H⟩ := H
     replace H : (if t309 = true then ((laws_markFair.f kj11 t284 t285 t286 t287 t288 1).bind fun bt310 => (if bt310.1 < 0 then (laws_FnExactFairRest.j1 kj11 a1 t282 true a0_0 a0_1 a0_2 a0_3 l0_4 t275 t276 t277 t278 t279 t292 t293 t294 t295 t296) else ((laws_eqFair.f kj11 t292 t293 t294 t295 t296 t275 t276 t277 t278 t279).bind fun t312 => (if t312 = true then (laws_FnExactFairRest.j1 kj11 a1 t282 (t299 != t282) a0_0 a0_1 a0_2 a0_3 l0_4 t275 t276 t277 t278 t279 t292 t293 t294 t295 t296) else (laws_FnExactFairRest.j1 kj11 a1 t282 true a0_0 a0_1 a0_2 a0_3 l0_4 t275 t276 t277 t278 t279 t292 t293 t294 t295 t296))))) else (some false)) = some r := H
     have A58 := Aside0.mk A580
     clear A580
     by_cases c59 : t309 = true
     ·subst c59
      have H1 : ((laws_markFair.f kj11 t284 t285 t286 t287 t288 1).bind fun bt310 => (if bt310.1 < 0 then (laws_FnExactFairRest.j1 kj11 a1 t282 true a0_0 a0_1 a0_2 a0_3 l0_4 t275 t276 t277 t278 t279 t292 t293 t294 t295 t296) else ((laws_eqFair.f kj11 t292 t293 t294 t295 t296 t275 t276 t277 t278 t279).bind fun t312 => (if t312 = true then (laws_FnExactFairRest.j1 kj11 a1 t282 (t299 != t282) a0_0 a0_1 a0_2 a0_3 l0_4 t275 t276 t277 t278 t279 t292 t293 t294 t295 t296) else (laws_FnExactFairRest.j1 kj11 a1 t282 true a0_0 a0_1 a0_2 a0_3 l0_4 t275 t276 t277 t278 t279 t292 t293 t294 t295 t296))))) = some r := by rw [if_pos rfl] at H; exact H
      clear H
      have H := H1
      clear H1
      replace H := Option.bind_eq_some_iff.mp H
      obtain ⟨⟨t310, t311⟩, A600, H⟩ := H
      replace H : (if t310 < 0 then (laws_FnExactFairRest.j1 kj11 a1 t282 true a0_0 a0_1 a0_2 a0_3 l0_4 t275 t276 t277 t278 t279 t292 t293 t294 t295 t296) else ((laws_eqFair.f kj11 t292 t293 t294 t295 t296 t275 t276 t277 t278 t279).bind fun t312 => (if t312 = true then (laws_FnExactFairRest.j1 kj11 a1 t282 (t299 != t282) a0_0 a0_1 a0_2 a0_3 l0_4 t275 t276 t277 t278 t279 t292 t293 t294 t295 t296) else (laws_FnExactFairRest.j1 kj11 a1 t282 true a0_0 a0_1 a0_2 a0_3 l0_4 t275 t276 t277 t278 t279 t292 t293 t294 t295 t296)))) = some r := H
      have A60 := Aside0.mk A600
      clear A600
      have HC61 := Aside0.mk H
      clear H
      try go_wp2
      have n0_ := Aside0.mk (Kd.R_drew HO_284004.out)
      have n1_ := Aside0.mk (Kd.R_drew HO_292004.out)
      have n2_ := Aside0.mk (Kd.R_drew HO_301004.out)
      have n3_ := Aside0.mk (blk_drew BK266.out)
      have n4_ := Aside0.mk (blk_drew BK283.out)
      have n5_ := Aside0.mk (blk_drew BK291.out)
      have n6_ := Aside0.mk (blk_drew BK300.out)
      have n7_ := Aside0.mk (below_drew1 HB.out)
      clear HO_284004
      clear HO_292004
      clear HO_301004
      clear BK266
      clear BK283
      clear BK291
      clear BK300
      clear HB
      have HO_284004 := n0_
      have HO_292004 := n1_
      have HO_301004 := n2_
      have BK266 := n3_
      have BK283 := n4_
      have BK291 := n5_
      have BK300 := n6_
      have HB := n7_
      clear n0_ n1_ n2_ n3_ n4_ n5_ n6_ n7_
      refine start_ (n := 5) (S := fun w' => w'.cell? ⟨gb291, 0, none⟩ = some (.int .i64 t284) ∧ w'.cell? ⟨gb291, 1, none⟩ = some (.int .i64 t285) ∧ w'.cell? ⟨gb291, 2, none⟩ = some (.int .i64 t286) ∧ w'.cell? ⟨gb291, 3, none⟩ = some (.int .i64 t287) ∧ w'.cell? ⟨gb291, 4, none⟩ = some (.slice Ao30 t288.length co30) ∧ w'.cell? ⟨gb266, 0, none⟩ = some (.int .i64 a0_0) ∧ w'.cell? ⟨gb266, 1, none⟩ = some (.int .i64 a0_1) ∧ w'.cell? ⟨gb266, 2, none⟩ = some (.int .i64 a0_2) ∧ w'.cell? ⟨gb266, 3, none⟩ = some (.int .i64 a0_3) ∧ w'.cell? ⟨gb266, 4, none⟩ = some (.slice A0_4 l0_4.length c0_4)) (ds := []) (bs 5 0) (by kernel_rfl) rfl rfl ⟨(blk_cell BK291.out 0).trans rfl, (blk_cell BK291.out 1).trans rfl, (blk_cell BK291.out 2).trans rfl, (blk_cell BK291.out 3).trans rfl, (blk_cell BK291.out 4).trans rfl, (blk_cell BK266.out 0).trans rfl, (blk_cell BK266.out 1).trans rfl, (blk_cell BK266.out 2).trans rfl, (blk_cell BK266.out 3).trans rfl, (blk_cell BK266.out 4).trans rfl⟩ (fun hHeld => ?_)
      generalize wc.drew = w62 at HO_284004 HO_292004 HO_301004 BK266 BK283 BK291 BK300 HB hHeld ⊢
      refine take_ (i := 0) (N := some 45) (v := ?_) (a' := ?_) (bs 5 1) rfl rfl (by kernel_rfl) (fun _ _ _ h => h) (Or.inl ⟨by rfl, ?_⟩) hHeld ?_ ?_
      rotate_left
      ·rintro w' ⟨s0, s1, s2, s3, s4, s5, s6, s7, s8, s9⟩
       go_simp
       with_reducible rfl
      rotate_left
      ·simp only [Act.put, List.setIfInBounds_toArray, List.set_cons_zero, List.set_cons_succ, i64_w, i32_w]
       rfl
      refine take_ (i := 1) (N := some 46) (v := ?_) (a' := ?_) (bs 5 2) rfl rfl (by kernel_rfl) (fun _ _ _ h => h) (Or.inl ⟨by rfl, ?_⟩) hHeld ?_ ?_
      rotate_left
      ·rintro w' ⟨s0, s1, s2, s3, s4, s5, s6, s7, s8, s9⟩
       go_simp
       with_reducible rfl
      rotate_left
      ·simp only [Act.put, List.setIfInBounds_toArray, List.set_cons_zero, List.set_cons_succ, i64_w, i32_w]
       rfl
      refine one_ (i := 2) (N := some 47) (bs 5 3) rfl rfl (by kernel_rfl) (by decide) (fun K hK => ?_)
      refine goes_ Try.func17 (by kernel_rfl) rfl #[.agg #[.int .i64 a0_0, .int .i64 a0_1, .int .i64 a0_2, .int .i64 a0_3, .slice A0_4 l0_4.length c0_4]] (by rfl) rfl rfl mt_ ?_
      with_reducible refine (laws_toFair.calls kj11 a0_0 a0_1 a0_2 a0_3 _ _ l0_4 t302 t303 t304 t305 t306 _ ?side1 ?side2 A57.out).mono ?_
      (case side1 => repeat (first | exact (Kd.C_below HR0_4.out HB.out) | (with_reducible refine Kd.C_alloc ?_ _) | (with_reducible refine Kd.C_drewN ?_ _) | (with_reducible refine Kd.C_drew ?_)))
      (case side2 => exact HC0_4.out)
      rintro e w63 ⟨v307, rfl, ho0, hb⟩
      refine ⟨_, rfl, ?_⟩
      have n0_ := Aside0.mk (Kd.R_elder' (kr_ HO_284004) (Kd.R_base ho0) hb)
      have n1_ := Aside0.mk (Kd.R_elder' (kr_ HO_292004) (Kd.R_base ho0) hb)
      have n2_ := Aside0.mk (Kd.R_elder' (kr_ HO_301004) (Kd.R_base ho0) hb)
      have n3_ := Aside0.mk (Kd.R_lower (Kd.R_new' (Kd.R_new' (Kd.R_new' ho0 (Kd.R_lt (kr_ HO_284004))) (Kd.R_lt (kr_ HO_292004))) (Kd.R_lt (kr_ HO_301004))) (below_size (by repeat (first | (with_reducible first | exact HB.out | apply below_alloc | apply pw_below_drewN | apply below_drew1 | refine below_set ?_ GE266.out | refine below_set ?_ GE283.out | refine below_set ?_ GE291.out | refine below_set ?_ GE300.out) | exact HB.out))))
      have n4_ := Aside0.mk (blk_below (g := gb266) (o := .cells #[.int .i64 a0_0, .int .i64 a0_1, .int .i64 a0_2, .int .i64 a0_3, .slice A0_4 l0_4.length c0_4] 26 (0, 0)) (bk_ BK266) hb)
      have n5_ := Aside0.mk (blk_below (g := gb283) (o := .cells #[.int .i64 t275, .int .i64 t276, .int .i64 t277, .int .i64 t278, .slice Ao23 t279.length co23] 32 (0, 0)) (bk_ BK283) hb)
      have n6_ := Aside0.mk (blk_below (g := gb291) (o := .cells #[.int .i64 t284, .int .i64 t285, .int .i64 t286, .int .i64 t287, .slice Ao30 t288.length co30] 32 (0, 0)) (bk_ BK291) hb)
      have n7_ := Aside0.mk (blk_below (g := gb300) (o := .cells #[.int .i64 t292, .int .i64 t293, .int .i64 t294, .int .i64 t295, .slice Ao37 t296.length co37] 32 (0, 0)) (bk_ BK300) hb)
      have n8_ := Aside0.mk (below_step (by repeat (first | (with_reducible first | exact HB.out | apply below_alloc | apply pw_below_drewN | apply below_drew1 | refine below_set ?_ GE266.out | refine below_set ?_ GE283.out | refine below_set ?_ GE291.out | refine below_set ?_ GE300.out) | exact HB.out)) hb)
      clear HO_284004
      clear HO_292004
      clear HO_301004
      clear BK266
      clear BK283
      clear BK291
      clear BK300
      clear HB
      have HO_284004 := n0_
      have HO_292004 := n1_
      have HO_301004 := n2_
      have HO308 := n3_
      have BK266 := n4_
      have BK283 := n5_
      have BK291 := n6_
      have BK300 := n7_
      have HB := n8_
      clear n0_ n1_ n2_ n3_ n4_ n5_ n6_ n7_ n8_
      (try clear hb)
      (try clear hb2)
      (try clear hk)
      (try clear hi)
      (try clear ho0)
      obtain ⟨Ao64, co64, eo64⟩ := Kd.R_slice HO308.out
      (first | subst eo64 | (injection eo64 with f1_ f2_ f3_; have f4_ := f1_.symm; have f5_ := f3_.symm; clear f1_ f2_ f3_; subst f4_; subst f5_))
      refine hK.out _ _ ⟨(blk_cell BK291.out 0).trans rfl, (blk_cell BK291.out 1).trans rfl, (blk_cell BK291.out 2).trans rfl, (blk_cell BK291.out 3).trans rfl, (blk_cell BK291.out 4).trans rfl, (blk_cell BK266.out 0).trans rfl, (blk_cell BK266.out 1).trans rfl, (blk_cell BK266.out 2).trans rfl, (blk_cell BK266.out 3).trans rfl, (blk_cell BK266.out 4).trans rfl⟩ (fun hHeld => ?_)
      clear hK K
      refine norm_ (a' := ?_) ?_ ?_
      rotate_left
      ·show Act.put _ (some 47) _ = _
       simp only [Act.put, List.setIfInBounds_toArray, List.set_cons_zero, List.set_cons_succ, i64_w, i32_w]
       rfl
      refine one_ (i := 3) (N := some 48) (bs 5 4) rfl rfl (by kernel_rfl) (by decide) (fun K hK => ?_)
      refine goes_ Try.func19 (by kernel_rfl) rfl #[.agg #[.int .i64 t284, .int .i64 t285, .int .i64 t286, .int .i64 t287, .slice Ao30 t288.length co30], .agg #[.int .i64 t302, .int .i64 t303, .int .i64 t304, .int .i64 t305, .slice Ao64 t306.length co64]] (by rfl) rfl rfl mt_ ?_
      with_reducible refine (laws_eqFair.calls kj11 t284 t285 t286 t287 _ _ t288 t302 t303 t304 t305 _ _ t306 true _ ?side1 ?side2 ?side3 ?side4 A58.out).mono ?_
      (case side1 => repeat (first | exact (Kd.R_reads' HO_292004.out).2.2 | (with_reducible refine Kd.C_alloc ?_ _) | (with_reducible refine Kd.C_drewN ?_ _) | (with_reducible refine Kd.C_drew ?_)))
      (case side2 => exact (Kd.R_reads' HO_292004.out).2.1)
      (case side3 => repeat (first | exact (Kd.R_reads' HO308.out).2.2 | (with_reducible refine Kd.C_alloc ?_ _) | (with_reducible refine Kd.C_drewN ?_ _) | (with_reducible refine Kd.C_drew ?_)))
      (case side4 => exact (Kd.R_reads' HO308.out).2.1)
      rintro e w65 ⟨rfl, hb⟩
      refine ⟨_, rfl, ?_⟩
      have n0_ := Aside0.mk (Kd.R_below (kr_ HO_284004) hb)
      have n1_ := Aside0.mk (Kd.R_below (kr_ HO_292004) hb)
      have n2_ := Aside0.mk (Kd.R_below (kr_ HO_301004) hb)
      have n3_ := Aside0.mk (Kd.R_below (kr_ HO308) hb)
      have n4_ := Aside0.mk (blk_below (g := gb266) (o := .cells #[.int .i64 a0_0, .int .i64 a0_1, .int .i64 a0_2, .int .i64 a0_3, .slice A0_4 l0_4.length c0_4] 26 (0, 0)) (bk_ BK266) hb)
      have n5_ := Aside0.mk (blk_below (g := gb283) (o := .cells #[.int .i64 t275, .int .i64 t276, .int .i64 t277, .int .i64 t278, .slice Ao23 t279.length co23] 32 (0, 0)) (bk_ BK283) hb)
      have n6_ := Aside0.mk (blk_below (g := gb291) (o := .cells #[.int .i64 t284, .int .i64 t285, .int .i64 t286, .int .i64 t287, .slice Ao30 t288.length co30] 32 (0, 0)) (bk_ BK291) hb)
      have n7_ := Aside0.mk (blk_below (g := gb300) (o := .cells #[.int .i64 t292, .int .i64 t293, .int .i64 t294, .int .i64 t295, .slice Ao37 t296.length co37] 32 (0, 0)) (bk_ BK300) hb)
      have n8_ := Aside0.mk (below_step (by repeat (first | (with_reducible first | exact HB.out | apply below_alloc | apply pw_below_drewN | apply below_drew1 | refine below_set ?_ GE266.out | refine below_set ?_ GE283.out | refine below_set ?_ GE291.out | refine below_set ?_ GE300.out) | exact HB.out)) hb)
      clear HO_284004
      clear HO_292004
      clear HO_301004
      clear HO308
      clear BK266
      clear BK283
      clear BK291
      clear BK300
      clear HB
      have HO_284004 := n0_
      have HO_292004 := n1_
      have HO_301004 := n2_
      have HO308 := n3_
      have BK266 := n4_
      have BK283 := n5_
      have BK291 := n6_
      have BK300 := n7_
      have HB := n8_
      clear n0_ n1_ n2_ n3_ n4_ n5_ n6_ n7_ n8_
      (try clear hb)
      (try clear hb2)
      (try clear hk)
      (try clear hi)
      refine hK.out _ _ ⟨(blk_cell BK291.out 0).trans rfl, (blk_cell BK291.out 1).trans rfl, (blk_cell BK291.out 2).trans rfl, (blk_cell BK291.out 3).trans rfl, (blk_cell BK291.out 4).trans rfl, (blk_cell BK266.out 0).trans rfl, (blk_cell BK266.out 1).trans rfl, (blk_cell BK266.out 2).trans rfl, (blk_cell BK266.out 3).trans rfl, (blk_cell BK266.out 4).trans rfl⟩ (fun hHeld => ?_)
      clear hK K
      refine norm_ (a' := ?_) ?_ ?_
      rotate_left
      ·show Act.put _ (some 48) _ = _
       simp only [Act.put, List.setIfInBounds_toArray, List.set_cons_zero, List.set_cons_succ, i64_w, i32_w]
       rfl
      refine pure_s (i := 4) (N := some 49) (bs 5 5) (by kernel_rfl) (h := ?_)
      refine done_ (by kernel_rfl) ?_
      have hnb66 := NB291_266.out
      have hnc66 := NB266_291.out
      have hnb67 := NB291_283.out
      have hnc67 := NB283_291.out
      have hnb68 := NB291_300.out
      have hnc68 := NB300_291.out
      have hcz69_0 : w65.cell? ⟨gb291, 0, none⟩ = some (.int .i64 t284) := (blk_cell BK291.out 0).trans rfl
      have hcz69_1 : w65.cell? ⟨gb291, 1, none⟩ = some (.int .i64 t285) := (blk_cell BK291.out 1).trans rfl
      have hcz69_2 : w65.cell? ⟨gb291, 2, none⟩ = some (.int .i64 t286) := (blk_cell BK291.out 2).trans rfl
      have hcz69_3 : w65.cell? ⟨gb291, 3, none⟩ = some (.int .i64 t287) := (blk_cell BK291.out 3).trans rfl
      have hcz69_4 : w65.cell? ⟨gb291, 4, none⟩ = some (.slice Ao30 t288.length co30) := (blk_cell BK291.out 4).trans rfl
      have hfz69_0 := blk_frozen BK291.out 0
      have hfz69_1 := blk_frozen BK291.out 1
      have hfz69_2 := blk_frozen BK291.out 2
      have hfz69_3 := blk_frozen BK291.out 3
      have hfz69_4 := blk_frozen BK291.out 4
      go_upto_region 14 with (first | ((with_reducible refine gate_callee (f := 29) rfl ?_); refine goesL_ (some 52) rfl rfl Try.func29 (by kernel_rfl) rfl #[.agg #[.int .i64 t284, .int .i64 t285, .int .i64 t286, .int .i64 t287, .slice Ao30 t288.length co30], .int .i64 1] rfl mt_ ?_; (with_reducible refine (laws_markFair.calls kj11 t284 t285 t286 t287 (fun k_ => some k_ = (.slice Ao30 t288.length co30 : Value).ownBlock) (.slice Ao30 t288.length co30) t288 1 t310 t311 w _ ?side1 ?side2 A60.out).mono ?_); (case side1 => repeat (first | (with_reducible first | exact HB.out | apply below_alloc | apply pw_below_drewN | apply below_drew1 | refine below_set ?_ GE266.out | refine below_set ?_ GE283.out | refine below_set ?_ GE291.out | refine below_set ?_ GE300.out) | exact HB.out)); (case side2 => exact Kd.R_tight rfl HO_292004.out); rintro e w70 ⟨rfl, hy0, hb, hkp⟩; refine ⟨_, rfl, ?_⟩; have n0_ := Aside0.mk (Kd.R_mono (ok' := fun k_ => some k_ ≠ (.slice Ao30 t288.length co30 : Value).ownBlock ∧ some k_ ≠ (.slice Ao37 t296.length co37 : Value).ownBlock ∧ some k_ ≠ (.slice Ao64 t306.length co64 : Value).ownBlock) (Kd.R_keptB (HO_284004.out) hkp (fun k_ hk_ hs_ => by first | exact (hk_.1.1) hs_ | grind)) (fun k_ hk_ => by first | exact ⟨hk_.1.1.1, hk_.1.1.2, hk_.1.2⟩ | grind)); have n1_ := Aside0.mk (Kd.R_reok rfl hy0 (fun k_ e_ => HO_292004.out.1 k_ e_)); have n2_ := Aside0.mk (Kd.R_mono (ok' := fun k_ => some k_ ≠ (.slice Ao23 t279.length co23 : Value).ownBlock ∧ some k_ ≠ (.slice Ao30 t288.length co30 : Value).ownBlock ∧ some k_ ≠ (.slice Ao64 t306.length co64 : Value).ownBlock) (Kd.R_keptB (HO_301004.out) hkp (fun k_ hk_ hs_ => by first | exact (hk_.1.2) hs_ | grind)) (fun k_ hk_ => by first | exact ⟨hk_.1.1.1, hk_.1.1.2, hk_.1.2⟩ | grind)); have n3_ := Aside0.mk (blk_kept (bk_ BK266) hkp (fun hs_ => (fun e_ => (Kd.R_ne HO_292004.out BK266.out (by decide)) e_) hs_)); have n4_ := Aside0.mk (blk_kept (bk_ BK283) hkp (fun hs_ => (fun e_ => (Kd.R_ne HO_292004.out BK283.out (by decide)) e_) hs_)); have n5_ := Aside0.mk (blk_kept (bk_ BK291) hkp (fun hs_ => (fun e_ => (Kd.R_ne HO_292004.out BK291.out (by decide)) e_) hs_)); have n6_ := Aside0.mk (blk_kept (bk_ BK300) hkp (fun hs_ => (fun e_ => (Kd.R_ne HO_292004.out BK300.out (by decide)) e_) hs_)); have n7_ := Aside0.mk (Kd.R_mono (ok' := fun k_ => some k_ ≠ (.slice Ao23 t279.length co23 : Value).ownBlock ∧ some k_ ≠ (.slice Ao30 t288.length co30 : Value).ownBlock ∧ some k_ ≠ (.slice Ao37 t296.length co37 : Value).ownBlock) (Kd.R_keptB (HO308.out) hkp (fun k_ hk_ hs_ => by first | exact (hk_.1.2) hs_ | grind)) (fun k_ hk_ => by first | exact ⟨hk_.1.1.1.2, hk_.1.1.2, hk_.1.2⟩ | grind)); have n8_ := Aside0.mk (hb); clear HO_284004; clear HO_292004; clear HO_301004; clear BK266; clear BK283; clear BK291; clear BK300; clear HO308; clear HB; have HO_284004 := n0_; have HO_292004 := n1_; have HO_301004 := n2_; have BK266 := n3_; have BK283 := n4_; have BK291 := n5_; have BK300 := n6_; have HO308 := n7_; have HB := n8_; clear n0_ n1_ n2_ n3_ n4_ n5_ n6_ n7_ n8_; (try clear hb); (try clear hkp); (try clear hy0)))
      (try simp only [Act.put, List.setIfInBounds_toArray, List.set_cons_zero, List.set_cons_succ])
      go_cut [65] (fun v65 wc => ∃ (kq : Nat) (x65_60 : Bool), v65 = .bool x65_60 ∧ Aside0 (laws_FnExactFairRest.j1 kq a1 t282 x65_60 a0_0 a0_1 a0_2 a0_3 l0_4 t275 t276 t277 t278 t279 t292 t293 t294 t295 t296 = some r) ∧ Aside0 (kq ≤ kj11) ∧ Aside0 (Kd.R k38 38 wc w.heap.size (fun k_ => some k_ ≠ ((.slice Ao30 t288.length co30) : Value).ownBlock ∧ some k_ ≠ ((.slice Ao37 t296.length co37) : Value).ownBlock) (.slice Ao23 t279.length co23) t279) ∧ Aside0 (Kd.R k38 38 wc w.heap.size (fun k_ => some k_ ≠ ((.slice Ao23 t279.length co23) : Value).ownBlock ∧ some k_ ≠ ((.slice Ao37 t296.length co37) : Value).ownBlock) (.slice Ao30 t288.length co30) t311) ∧ Aside0 (Kd.R k38 38 wc w.heap.size (fun k_ => some k_ ≠ ((.slice Ao23 t279.length co23) : Value).ownBlock ∧ some k_ ≠ ((.slice Ao30 t288.length co30) : Value).ownBlock) (.slice Ao37 t296.length co37) t296) ∧ Aside0 (wc.heap[gb266]? = some (.cells #[.int .i64 a0_0, .int .i64 a0_1, .int .i64 a0_2, .int .i64 a0_3, (.slice A0_4 l0_4.length c0_4)] 26 (0, 0))) ∧ Aside0 (wc.heap[gb283]? = some (.cells #[.int .i64 t275, .int .i64 t276, .int .i64 t277, .int .i64 t278, (.slice Ao23 t279.length co23)] 32 (0, 0))) ∧ Aside0 (wc.heap[gb291]? = some (.cells #[.int .i64 t284, .int .i64 t285, .int .i64 t286, .int .i64 t287, (.slice Ao30 t288.length co30)] 32 (0, 0))) ∧ Aside0 (wc.heap[gb300]? = some (.cells #[.int .i64 t292, .int .i64 t293, .int .i64 t294, .int .i64 t295, (.slice Ao37 t296.length co37)] 32 (0, 0))) ∧ Aside0 (Below w.heap.size w wc))
      case first =>
       have H := HC61.out
       clear HC61
       by_cases c71 : t310 < 0
       ·rw [if_pos c71] at H
        have c71b0 : decide (t310 < 0) = true := decide_eq_true c71
        clear c71
        (first | rw [c71b0] | (simp only [i64_w, i32_w]; rw [c71b0]) | skip)
        have H' := Aside0.mk H
        clear H
        go_wp2
        go_meet
        case rel => exact ⟨_, (true), (by first | rfl | (simp; done) | (simp [*]; done)), H', ⟨by have := HJ11.out; first | omega | exact Nat.le_refl _⟩, ⟨by (with_reducible repeat (first | apply Kd.R_alloc | apply Kd.R_drewN | apply Kd.R_drew)); exact Kd.R_mono HO_284004.out (fun _ hk => by first | exact ⟨hk.1, hk.2.1⟩ | grind)⟩, ⟨by (with_reducible repeat (first | apply Kd.R_alloc | apply Kd.R_drewN | apply Kd.R_drew)); exact Kd.R_mono HO_292004.out (fun _ hk => by first | exact ⟨hk.1.1, hk.1.2⟩ | grind)⟩, ⟨by (with_reducible repeat (first | apply Kd.R_alloc | apply Kd.R_drewN | apply Kd.R_drew)); exact Kd.R_mono HO_301004.out (fun _ hk => by first | exact ⟨hk.1, hk.2.1⟩ | grind)⟩, ⟨bk_ BK266⟩, ⟨bk_ BK283⟩, ⟨bk_ BK291⟩, ⟨bk_ BK300⟩, ⟨by repeat (first | (with_reducible first | exact HB.out | apply below_alloc | apply pw_below_drewN | apply below_drew1 | refine below_set ?_ GE266.out | refine below_set ?_ GE283.out | refine below_set ?_ GE291.out | refine below_set ?_ GE300.out) | exact HB.out)⟩⟩
       ·rw [if_neg c71] at H
        have c71b0 : decide (t310 < 0) = false := decide_eq_false c71
        clear c71
        (first | rw [c71b0] | (simp only [i64_w, i32_w]; rw [c71b0]) | skip)
        replace H := Option.bind_eq_some_iff.mp H
        obtain ⟨t312, A720, H⟩ := H
        replace H : (if t312 = true then (laws_FnExactFairRest.j1 kj11 a1 t282 (t299 != t282) a0_0 a0_1 a0_2 a0_3 l0_4 t275 t276 t277 t278 t279 t292 t293 t294 t295 t296) else (laws_FnExactFairRest.j1 kj11 a1 t282 true a0_0 a0_1 a0_2 a0_3 l0_4 t275 t276 t277 t278 t279 t292 t293 t294 t295 t296)) = some r := H
        have A72 := Aside0.mk A720
        clear A720
        by_cases c73 : t312 = true
        ·subst c73
         have H1 : (laws_FnExactFairRest.j1 kj11 a1 t282 (t299 != t282) a0_0 a0_1 a0_2 a0_3 l0_4 t275 t276 t277 t278 t279 t292 t293 t294 t295 t296) = some r := by rw [if_pos rfl] at H; exact H
         clear H
         have H := H1
         clear H1
         have H' := Aside0.mk H
         clear H
         have hnb74 := NB300_266.out
         have hnc74 := NB266_300.out
         have hnb75 := NB300_283.out
         have hnc75 := NB283_300.out
         have hnb76 := NB300_291.out
         have hnc76 := NB291_300.out
         have hcz77_0 : w70.cell? ⟨gb300, 0, none⟩ = some (.int .i64 t292) := (blk_cell BK300.out 0).trans rfl
         have hcz77_1 : w70.cell? ⟨gb300, 1, none⟩ = some (.int .i64 t293) := (blk_cell BK300.out 1).trans rfl
         have hcz77_2 : w70.cell? ⟨gb300, 2, none⟩ = some (.int .i64 t294) := (blk_cell BK300.out 2).trans rfl
         have hcz77_3 : w70.cell? ⟨gb300, 3, none⟩ = some (.int .i64 t295) := (blk_cell BK300.out 3).trans rfl
         have hcz77_4 : w70.cell? ⟨gb300, 4, none⟩ = some (.slice Ao37 t296.length co37) := (blk_cell BK300.out 4).trans rfl
         have hfz77_0 := blk_frozen BK300.out 0
         have hfz77_1 := blk_frozen BK300.out 1
         have hfz77_2 := blk_frozen BK300.out 2
         have hfz77_3 := blk_frozen BK300.out 3
         have hfz77_4 := blk_frozen BK300.out 4
         have hnb78 := NB283_266.out
         have hnc78 := NB266_283.out
         have hnb79 := NB283_291.out
         have hnc79 := NB291_283.out
         have hcz80_0 : w70.cell? ⟨gb283, 0, none⟩ = some (.int .i64 t275) := (blk_cell BK283.out 0).trans rfl
         have hcz80_1 : w70.cell? ⟨gb283, 1, none⟩ = some (.int .i64 t276) := (blk_cell BK283.out 1).trans rfl
         have hcz80_2 : w70.cell? ⟨gb283, 2, none⟩ = some (.int .i64 t277) := (blk_cell BK283.out 2).trans rfl
         have hcz80_3 : w70.cell? ⟨gb283, 3, none⟩ = some (.int .i64 t278) := (blk_cell BK283.out 3).trans rfl
         have hcz80_4 : w70.cell? ⟨gb283, 4, none⟩ = some (.slice Ao23 t279.length co23) := (blk_cell BK283.out 4).trans rfl
         have hfz80_0 := blk_frozen BK283.out 0
         have hfz80_1 := blk_frozen BK283.out 1
         have hfz80_2 := blk_frozen BK283.out 2
         have hfz80_3 := blk_frozen BK283.out 3
         have hfz80_4 := blk_frozen BK283.out 4
         go_wp2_with (first | (go_at_call 19; (with_reducible refine (laws_eqFair.calls kj11 t292 t293 t294 t295 _ _ t296 t275 t276 t277 t278 _ _ t279 true _ ?side1 ?side2 ?side3 ?side4 A72.out).mono ?_); (case side1 => repeat (first | exact (Kd.R_reads' HO_301004.out).2.2 | (with_reducible refine Kd.C_alloc ?_ _) | (with_reducible refine Kd.C_drewN ?_ _) | (with_reducible refine Kd.C_drew ?_))); (case side2 => exact (Kd.R_reads' HO_301004.out).2.1); (case side3 => repeat (first | exact (Kd.R_reads' HO_284004.out).2.2 | (with_reducible refine Kd.C_alloc ?_ _) | (with_reducible refine Kd.C_drewN ?_ _) | (with_reducible refine Kd.C_drew ?_))); (case side4 => exact (Kd.R_reads' HO_284004.out).2.1); rintro e w81 ⟨rfl, hb⟩; have n0_ := Aside0.mk (Kd.R_below (kr_ HO_284004) hb); have n1_ := Aside0.mk (Kd.R_below (kr_ HO_292004) hb); have n2_ := Aside0.mk (Kd.R_below (kr_ HO_301004) hb); have n3_ := Aside0.mk (Kd.R_below (kr_ HO308) hb); have n4_ := Aside0.mk (blk_below (g := gb266) (o := .cells #[.int .i64 a0_0, .int .i64 a0_1, .int .i64 a0_2, .int .i64 a0_3, .slice A0_4 l0_4.length c0_4] 26 (0, 0)) (bk_ BK266) hb); have n5_ := Aside0.mk (blk_below (g := gb283) (o := .cells #[.int .i64 t275, .int .i64 t276, .int .i64 t277, .int .i64 t278, .slice Ao23 t279.length co23] 32 (0, 0)) (bk_ BK283) hb); have n6_ := Aside0.mk (blk_below (g := gb291) (o := .cells #[.int .i64 t284, .int .i64 t285, .int .i64 t286, .int .i64 t287, .slice Ao30 t288.length co30] 32 (0, 0)) (bk_ BK291) hb); have n7_ := Aside0.mk (blk_below (g := gb300) (o := .cells #[.int .i64 t292, .int .i64 t293, .int .i64 t294, .int .i64 t295, .slice Ao37 t296.length co37] 32 (0, 0)) (bk_ BK300) hb); have n8_ := Aside0.mk (below_step (by repeat (first | (with_reducible first | exact HB.out | apply below_alloc | apply pw_below_drewN | apply below_drew1 | refine below_set ?_ GE266.out | refine below_set ?_ GE283.out | refine below_set ?_ GE291.out | refine below_set ?_ GE300.out) | exact HB.out)) hb); clear HO_284004; clear HO_292004; clear HO_301004; clear HO308; clear BK266; clear BK283; clear BK291; clear BK300; clear HB; have HO_284004 := n0_; have HO_292004 := n1_; have HO_301004 := n2_; have HO308 := n3_; have BK266 := n4_; have BK283 := n5_; have BK291 := n6_; have BK300 := n7_; have HB := n8_; clear n0_ n1_ n2_ n3_ n4_ n5_ n6_ n7_ n8_; (try clear hb); (try clear hb2); (try clear hk); (try clear hi)))
         go_meet
         case rel => exact ⟨_, ((t299 != t282)), (by first | rfl | (simp; done) | (simp [*]; done)), H', ⟨by have := HJ11.out; first | omega | exact Nat.le_refl _⟩, ⟨by (with_reducible repeat (first | apply Kd.R_alloc | apply Kd.R_drewN | apply Kd.R_drew)); exact Kd.R_mono HO_284004.out (fun _ hk => by first | exact ⟨hk.1, hk.2.1⟩ | grind)⟩, ⟨by (with_reducible repeat (first | apply Kd.R_alloc | apply Kd.R_drewN | apply Kd.R_drew)); exact Kd.R_mono HO_292004.out (fun _ hk => by first | exact ⟨hk.1.1, hk.1.2⟩ | grind)⟩, ⟨by (with_reducible repeat (first | apply Kd.R_alloc | apply Kd.R_drewN | apply Kd.R_drew)); exact Kd.R_mono HO_301004.out (fun _ hk => by first | exact ⟨hk.1, hk.2.1⟩ | grind)⟩, ⟨bk_ BK266⟩, ⟨bk_ BK283⟩, ⟨bk_ BK291⟩, ⟨bk_ BK300⟩, ⟨by repeat (first | (with_reducible first | exact HB.out | apply below_alloc | apply pw_below_drewN | apply below_drew1 | refine below_set ?_ GE266.out | refine below_set ?_ GE283.out | refine below_set ?_ GE291.out | refine below_set ?_ GE300.out) | exact HB.out)⟩⟩
        ·replace c73 := Bool.eq_false_iff.mpr c73
         subst c73
         have H1 : (laws_FnExactFairRest.j1 kj11 a1 t282 true a0_0 a0_1 a0_2 a0_3 l0_4 t275 t276 t277 t278 t279 t292 t293 t294 t295 t296) = some r := by rw [if_neg (show ¬ (false = true) by decide)] at H; exact H
         clear H
         have H := H1
         clear H1
         have H' := Aside0.mk H
         clear H
         have hnb82 := NB300_266.out
         have hnc82 := NB266_300.out
         have hnb83 := NB300_283.out
         have hnc83 := NB283_300.out
         have hnb84 := NB300_291.out
         have hnc84 := NB291_300.out
         have hcz85_0 : w70.cell? ⟨gb300, 0, none⟩ = some (.int .i64 t292) := (blk_cell BK300.out 0).trans rfl
         have hcz85_1 : w70.cell? ⟨gb300, 1, none⟩ = some (.int .i64 t293) := (blk_cell BK300.out 1).trans rfl
         have hcz85_2 : w70.cell? ⟨gb300, 2, none⟩ = some (.int .i64 t294) := (blk_cell BK300.out 2).trans rfl
         have hcz85_3 : w70.cell? ⟨gb300, 3, none⟩ = some (.int .i64 t295) := (blk_cell BK300.out 3).trans rfl
         have hcz85_4 : w70.cell? ⟨gb300, 4, none⟩ = some (.slice Ao37 t296.length co37) := (blk_cell BK300.out 4).trans rfl
         have hfz85_0 := blk_frozen BK300.out 0
         have hfz85_1 := blk_frozen BK300.out 1
         have hfz85_2 := blk_frozen BK300.out 2
         have hfz85_3 := blk_frozen BK300.out 3
         have hfz85_4 := blk_frozen BK300.out 4
         have hnb86 := NB283_266.out
         have hnc86 := NB266_283.out
         have hnb87 := NB283_291.out
         have hnc87 := NB291_283.out
         have hcz88_0 : w70.cell? ⟨gb283, 0, none⟩ = some (.int .i64 t275) := (blk_cell BK283.out 0).trans rfl
         have hcz88_1 : w70.cell? ⟨gb283, 1, none⟩ = some (.int .i64 t276) := (blk_cell BK283.out 1).trans rfl
         have hcz88_2 : w70.cell? ⟨gb283, 2, none⟩ = some (.int .i64 t277) := (blk_cell BK283.out 2).trans rfl
         have hcz88_3 : w70.cell? ⟨gb283, 3, none⟩ = some (.int .i64 t278) := (blk_cell BK283.out 3).trans rfl
         have hcz88_4 : w70.cell? ⟨gb283, 4, none⟩ = some (.slice Ao23 t279.length co23) := (blk_cell BK283.out 4).trans rfl
         have hfz88_0 := blk_frozen BK283.out 0
         have hfz88_1 := blk_frozen BK283.out 1
         have hfz88_2 := blk_frozen BK283.out 2
         have hfz88_3 := blk_frozen BK283.out 3
         have hfz88_4 := blk_frozen BK283.out 4
         go_wp2_with (first | (go_at_call 19; (with_reducible refine (laws_eqFair.calls kj11 t292 t293 t294 t295 _ _ t296 t275 t276 t277 t278 _ _ t279 false _ ?side1 ?side2 ?side3 ?side4 A72.out).mono ?_); (case side1 => repeat (first | exact (Kd.R_reads' HO_301004.out).2.2 | (with_reducible refine Kd.C_alloc ?_ _) | (with_reducible refine Kd.C_drewN ?_ _) | (with_reducible refine Kd.C_drew ?_))); (case side2 => exact (Kd.R_reads' HO_301004.out).2.1); (case side3 => repeat (first | exact (Kd.R_reads' HO_284004.out).2.2 | (with_reducible refine Kd.C_alloc ?_ _) | (with_reducible refine Kd.C_drewN ?_ _) | (with_reducible refine Kd.C_drew ?_))); (case side4 => exact (Kd.R_reads' HO_284004.out).2.1); rintro e w89 ⟨rfl, hb⟩; have n0_ := Aside0.mk (Kd.R_below (kr_ HO_284004) hb); have n1_ := Aside0.mk (Kd.R_below (kr_ HO_292004) hb); have n2_ := Aside0.mk (Kd.R_below (kr_ HO_301004) hb); have n3_ := Aside0.mk (Kd.R_below (kr_ HO308) hb); have n4_ := Aside0.mk (blk_below (g := gb266) (o := .cells #[.int .i64 a0_0, .int .i64 a0_1, .int .i64 a0_2, .int .i64 a0_3, .slice A0_4 l0_4.length c0_4] 26 (0, 0)) (bk_ BK266) hb); have n5_ := Aside0.mk (blk_below (g := gb283) (o := .cells #[.int .i64 t275, .int .i64 t276, .int .i64 t277, .int .i64 t278, .slice Ao23 t279.length co23] 32 (0, 0)) (bk_ BK283) hb); have n6_ := Aside0.mk (blk_below (g := gb291) (o := .cells #[.int .i64 t284, .int .i64 t285, .int .i64 t286, .int .i64 t287, .slice Ao30 t288.length co30] 32 (0, 0)) (bk_ BK291) hb); have n7_ := Aside0.mk (blk_below (g := gb300) (o := .cells #[.int .i64 t292, .int .i64 t293, .int .i64 t294, .int .i64 t295, .slice Ao37 t296.length co37] 32 (0, 0)) (bk_ BK300) hb); have n8_ := Aside0.mk (below_step (by repeat (first | (with_reducible first | exact HB.out | apply below_alloc | apply pw_below_drewN | apply below_drew1 | refine below_set ?_ GE266.out | refine below_set ?_ GE283.out | refine below_set ?_ GE291.out | refine below_set ?_ GE300.out) | exact HB.out)) hb); clear HO_284004; clear HO_292004; clear HO_301004; clear HO308; clear BK266; clear BK283; clear BK291; clear BK300; clear HB; have HO_284004 := n0_; have HO_292004 := n1_; have HO_301004 := n2_; have HO308 := n3_; have BK266 := n4_; have BK283 := n5_; have BK291 := n6_; have BK300 := n7_; have HB := n8_; clear n0_ n1_ n2_ n3_ n4_ n5_ n6_ n7_ n8_; (try clear hb); (try clear hb2); (try clear hk); (try clear hi)))
         go_meet
         case rel => exact ⟨_, (true), (by first | rfl | (simp; done) | (simp [*]; done)), H', ⟨by have := HJ11.out; first | omega | exact Nat.le_refl _⟩, ⟨by (with_reducible repeat (first | apply Kd.R_alloc | apply Kd.R_drewN | apply Kd.R_drew)); exact Kd.R_mono HO_284004.out (fun _ hk => by first | exact ⟨hk.1, hk.2.1⟩ | grind)⟩, ⟨by (with_reducible repeat (first | apply Kd.R_alloc | apply Kd.R_drewN | apply Kd.R_drew)); exact Kd.R_mono HO_292004.out (fun _ hk => by first | exact ⟨hk.1.1, hk.1.2⟩ | grind)⟩, ⟨by (with_reducible repeat (first | apply Kd.R_alloc | apply Kd.R_drewN | apply Kd.R_drew)); exact Kd.R_mono HO_301004.out (fun _ hk => by first | exact ⟨hk.1, hk.2.1⟩ | grind)⟩, ⟨bk_ BK266⟩, ⟨bk_ BK283⟩, ⟨bk_ BK291⟩, ⟨bk_ BK300⟩, ⟨by repeat (first | (with_reducible first | exact HB.out | apply below_alloc | apply pw_below_drewN | apply below_drew1 | refine below_set ?_ GE266.out | refine below_set ?_ GE283.out | refine below_set ?_ GE291.out | refine below_set ?_ GE300.out) | exact HB.out)⟩⟩
      case rest =>
       clear HC61
       try clear c1
       try clear c2
       try clear p2
       try clear c3
       try clear c4
       try clear c4b0
       try clear c5
       try clear c6
       try clear c7
       try clear c8
       try clear c15
       try clear c17
       try clear c19
       try clear c21
       try clear c27
       try clear c28
       try clear c29
       try clear c33
       try clear c34
       try clear c35
       try clear c39
       try clear c40
       try clear c41
       try clear c42
       try clear c44
       try clear c45
       try clear c48
       try clear c49
       try clear c50
       try clear c52
       try clear c53
       try clear c56
       try clear c59
       try clear c66
       try clear c67
       try clear c68
       try clear c71
       try clear c71b0
       try clear c73
       try clear c74
       try clear c75
       try clear c76
       try clear c78
       try clear c79
       try clear c82
       try clear c83
       try clear c84
       try clear c86
       try clear c87
       try clear hcz14_0
       try clear hcz14_1
       try clear hcz14_2
       try clear hcz14_3
       try clear hcz14_4
       try clear hcz16_0
       try clear hcz16_1
       try clear hcz16_2
       try clear hcz16_3
       try clear hcz16_4
       try clear hcz22_0
       try clear hcz22_1
       try clear hcz22_2
       try clear hcz22_3
       try clear hcz22_4
       try clear hcz24_0
       try clear hcz24_1
       try clear hcz24_2
       try clear hcz24_3
       try clear hcz24_4
       try clear hcz29_0
       try clear hcz29_1
       try clear hcz29_2
       try clear hcz29_3
       try clear hcz29_4
       try clear hcz36_0
       try clear hcz36_1
       try clear hcz36_2
       try clear hcz36_3
       try clear hcz36_4
       try clear hcz43_0
       try clear hcz43_1
       try clear hcz43_2
       try clear hcz43_3
       try clear hcz43_4
       try clear hcz46_0
       try clear hcz46_1
       try clear hcz46_2
       try clear hcz46_3
       try clear hcz46_4
       try clear hcz51_0
       try clear hcz51_1
       try clear hcz51_2
       try clear hcz51_3
       try clear hcz51_4
       try clear hcz54_0
       try clear hcz54_1
       try clear hcz54_2
       try clear hcz54_3
       try clear hcz54_4
       try clear hcz69_0
       try clear hcz69_1
       try clear hcz69_2
       try clear hcz69_3
       try clear hcz69_4
       try clear hcz6_0
       try clear hcz6_1
       try clear hcz6_2
       try clear hcz6_3
       try clear hcz6_4
       try clear hcz77_0
       try clear hcz77_1
       try clear hcz77_2
       try clear hcz77_3
       try clear hcz77_4
       try clear hcz80_0
       try clear hcz80_1
       try clear hcz80_2
       try clear hcz80_3
       try clear hcz80_4
       try clear hcz85_0
       try clear hcz85_1
       try clear hcz85_2
       try clear hcz85_3
       try clear hcz85_4
       try clear hcz88_0
       try clear hcz88_1
       try clear hcz88_2
       try clear hcz88_3
       try clear hcz88_4
       try clear hfz14_0
       try clear hfz14_1
       try clear hfz14_2
       try clear hfz14_3
       try clear hfz14_4
       try clear hfz16_0
       try clear hfz16_1
       try clear hfz16_2
       try clear hfz16_3
       try clear hfz16_4
       try clear hfz22_0
       try clear hfz22_1
       try clear hfz22_2
       try clear hfz22_3
       try clear hfz22_4
       try clear hfz24_0
       try clear hfz24_1
       try clear hfz24_2
       try clear hfz24_3
       try clear hfz24_4
       try clear hfz29_0
       try clear hfz29_1
       try clear hfz29_2
       try clear hfz29_3
       try clear hfz29_4
       try clear hfz36_0
       try clear hfz36_1
       try clear hfz36_2
       try clear hfz36_3
       try clear hfz36_4
       try clear hfz43_0
       try clear hfz43_1
       try clear hfz43_2
       try clear hfz43_3
       try clear hfz43_4
       try clear hfz46_0
       try clear hfz46_1
       try clear hfz46_2
       try clear hfz46_3
       try clear hfz46_4
       try clear hfz51_0
       try clear hfz51_1
       try clear hfz51_2
       try clear hfz51_3
       try clear hfz51_4
       try clear hfz54_0
       try clear hfz54_1
       try clear hfz54_2
       try clear hfz54_3
       try clear hfz54_4
       try clear hfz69_0
       try clear hfz69_1
       try clear hfz69_2
       try clear hfz69_3
       try clear hfz69_4
       try clear hfz6_0
       try clear hfz6_1
       try clear hfz6_2
       try clear hfz6_3
       try clear hfz6_4
       try clear hfz77_0
       try clear hfz77_1
       try clear hfz77_2
       try clear hfz77_3
       try clear hfz77_4
       try clear hfz80_0
       try clear hfz80_1
       try clear hfz80_2
       try clear hfz80_3
       try clear hfz80_4
       try clear hfz85_0
       try clear hfz85_1
       try clear hfz85_2
       try clear hfz85_3
       try clear hfz85_4
       try clear hfz88_0
       try clear hfz88_1
       try clear hfz88_2
       try clear hfz88_3
       try clear hfz88_4
       try clear p2
       obtain ⟨kq, x65_60, rfl, HA, HJ60, HO_284004, HO_292004, HO_301004, BK266, BK283, BK291, BK300, HB⟩ := hcut
       have hl292004_60 := (Kd.R_reads' HO_292004.out).1
       rw [hl292004_60] at HO_292004
       (try simp only [hl292004_60])
       (try simp only [hl292004_60] at BK266)
       (try simp only [hl292004_60] at BK283)
       (try simp only [hl292004_60] at BK291)
       (try simp only [hl292004_60] at BK300)
       (try simp only [hl292004_60] at HO_284004)
       (try simp only [hl292004_60] at HO_301004)
       cases kq with
       | zero => exact absurd HA.out (by simp [laws_FnExactFairRest.j1])
       | succ kj60 =>
        have H := HA.out
        clear HA
        simp only [laws_FnExactFairRest.j1] at H
        by_cases c90 : x65_60 = true
        ·subst c90
         have H1 : (some false) = some r := by rw [if_pos rfl] at H; exact H
         clear H
         have H := H1
         clear H1
         obtain rfl := Option.some.inj H
         go_wp2
         go_ret
         exact ⟨by first | rfl | (simp [errW_none, errW_some] <;> rfl) | (simp [*, errW_none, errW_some] <;> rfl), by repeat (first | (with_reducible first | exact HB.out | apply below_alloc | apply pw_below_drewN | apply below_drew1 | refine below_set ?_ GE266.out | refine below_set ?_ GE283.out | refine below_set ?_ GE291.out | refine below_set ?_ GE300.out) | exact HB.out)⟩
        ·replace c90 := Bool.eq_false_iff.mpr c90
         subst c90
         have H1 : ((laws_markFair.f kj60 t292 t293 t294 t295 t296 1).bind fun bt313 => ((laws_heldFair.f kj60 t292 t293 t294 t295 bt313.2 1).bind fun t315 => (if t315 < 0 then (some false) else (if t315 = bt313.1 then ((laws_toFair.f kj60 a0_0 a0_1 a0_2 a0_3 l0_4).bind fun bt316 => ((impl_FairRest.f kj60 bt316.1 bt316.2.1 bt316.2.2.1 bt316.2.2.2.1 bt316.2.2.2.2 a1).bind fun bt323 => ((laws_eqFair.f kj60 bt323.1 bt323.2.1 bt323.2.2.1 bt323.2.2.2.1 bt323.2.2.2.2.1 t275 t276 t277 t278 t279).bind fun t332 => (if t332 = true then (laws_FnExactFairRest.j2 kj60 bt313.1 (bt323.2.2.2.2.2 != t282) t292 t293 t294 t295 bt313.2) else (laws_FnExactFairRest.j2 kj60 bt313.1 true t292 t293 t294 t295 bt313.2))))) else (some false))))) = some r := by rw [if_neg (show ¬ (false = true) by decide)] at H; exact H
         clear H
         have H := H1
         clear H1
         replace H := Option.bind_eq_some_iff.mp H
         obtain ⟨⟨t313, t314⟩, A910, H⟩ := H
         replace H : ((laws_heldFair.f kj60 t292 t293 t294 t295 t314 1).bind fun t315 => (if t315 < 0 then (some false) else (if t315 = t313 then ((laws_toFair.f kj60 a0_0 a0_1 a0_2 a0_3 l0_4).bind fun bt316 => ((impl_FairRest.f kj60 bt316.1 bt316.2.1 bt316.2.2.1 bt316.2.2.2.1 bt316.2.2.2.2 a1).bind fun bt323 => ((laws_eqFair.f kj60 bt323.1 bt323.2.1 bt323.2.2.1 bt323.2.2.2.1 bt323.2.2.2.2.1 t275 t276 t277 t278 t279).bind fun t332 => (if t332 = true then (laws_FnExactFairRest.j2 kj60 t313 (bt323.2.2.2.2.2 != t282) t292 t293 t294 t295 t314) else (laws_FnExactFairRest.j2 kj60 t313 true t292 t293 t294 t295 t314))))) else (some false)))) = some r := H
         have A91 := Aside0.mk A910
         clear A910
         replace H := Option.bind_eq_some_iff.mp H
         obtain ⟨t315, A920, H⟩ := H
         replace H : (if t315 < 0 then (some false) else (if t315 = t313 then ((laws_toFair.f kj60 a0_0 a0_1 a0_2 a0_3 l0_4).bind fun bt316 => ((impl_FairRest.f kj60 bt316.1 bt316.2.1 bt316.2.2.1 bt316.2.2.2.1 bt316.2.2.2.2 a1).bind fun bt323 => ((laws_eqFair.f kj60 bt323.1 bt323.2.1 bt323.2.2.1 bt323.2.2.2.1 bt323.2.2.2.2.1 t275 t276 t277 t278 t279).bind fun t332 => (if t332 = true then (laws_FnExactFairRest.j2 kj60 t313 (bt323.2.2.2.2.2 != t282) t292 t293 t294 t295 t314) else (laws_FnExactFairRest.j2 kj60 t313 true t292 t293 t294 t295 t314))))) else (some false))) = some r := H
         have A92 := Aside0.mk A920
         clear A920
         by_cases c93 : t315 < 0
         ·rw [if_pos c93] at H
          have c93b0 : decide (t315 < 0) = true := decide_eq_true c93
          have c93b0l := c93b0
          (try simp only [hl292004_60] at c93b0l)
          clear c93
          obtain rfl := Option.some.inj H
          have hnb94 := NB300_266.out
          have hnc94 := NB266_300.out
          have hnb95 := NB300_283.out
          have hnc95 := NB283_300.out
          have hnb96 := NB300_291.out
          have hnc96 := NB291_300.out
          have hcz97_0 : wc.cell? ⟨gb300, 0, none⟩ = some (.int .i64 t292) := (blk_cell BK300.out 0).trans rfl
          have hcz97_1 : wc.cell? ⟨gb300, 1, none⟩ = some (.int .i64 t293) := (blk_cell BK300.out 1).trans rfl
          have hcz97_2 : wc.cell? ⟨gb300, 2, none⟩ = some (.int .i64 t294) := (blk_cell BK300.out 2).trans rfl
          have hcz97_3 : wc.cell? ⟨gb300, 3, none⟩ = some (.int .i64 t295) := (blk_cell BK300.out 3).trans rfl
          have hcz97_4 : wc.cell? ⟨gb300, 4, none⟩ = some (.slice Ao37 t296.length co37) := (blk_cell BK300.out 4).trans rfl
          have hfz97_0 := blk_frozen BK300.out 0
          have hfz97_1 := blk_frozen BK300.out 1
          have hfz97_2 := blk_frozen BK300.out 2
          have hfz97_3 := blk_frozen BK300.out 3
          have hfz97_4 := blk_frozen BK300.out 4
          go_wp2_with (first | ((with_reducible refine gate_callee (f := 29) rfl ?_); refine goesL_ (some 68) rfl rfl Try.func29 (by kernel_rfl) rfl #[.agg #[.int .i64 t292, .int .i64 t293, .int .i64 t294, .int .i64 t295, .slice Ao37 t296.length co37], .int .i64 1] rfl mt_ ?_; (with_reducible refine (laws_markFair.calls kj60 t292 t293 t294 t295 (fun k_ => some k_ = (.slice Ao37 t296.length co37 : Value).ownBlock) (.slice Ao37 t296.length co37) t296 1 t313 t314 w _ ?side1 ?side2 A91.out).mono ?_); (case side1 => repeat (first | (with_reducible first | exact HB.out | apply below_alloc | apply pw_below_drewN | apply below_drew1 | refine below_set ?_ GE266.out | refine below_set ?_ GE283.out | refine below_set ?_ GE291.out | refine below_set ?_ GE300.out) | exact HB.out)); (case side2 => exact Kd.R_tight rfl HO_301004.out); rintro e w98 ⟨rfl, hy0, hb, hkp⟩; refine ⟨_, rfl, ?_⟩; have n0_ := Aside0.mk (Kd.R_mono (ok' := fun k_ => some k_ ≠ (.slice Ao30 t311.length co30 : Value).ownBlock ∧ some k_ ≠ (.slice Ao37 t296.length co37 : Value).ownBlock) (Kd.R_keptB (HO_284004.out) hkp (fun k_ hk_ hs_ => by first | exact (hk_.2) hs_ | grind)) (fun k_ hk_ => by first | exact ⟨hk_.1.1, hk_.1.2⟩ | grind)); have n1_ := Aside0.mk (Kd.R_mono (ok' := fun k_ => some k_ ≠ (.slice Ao23 t279.length co23 : Value).ownBlock ∧ some k_ ≠ (.slice Ao37 t296.length co37 : Value).ownBlock) (Kd.R_keptB (HO_292004.out) hkp (fun k_ hk_ hs_ => by first | exact (hk_.2) hs_ | grind)) (fun k_ hk_ => by first | exact ⟨hk_.1.1, hk_.1.2⟩ | grind)); have n2_ := Aside0.mk (Kd.R_reok rfl hy0 (fun k_ e_ => HO_301004.out.1 k_ e_)); have n3_ := Aside0.mk (blk_kept (bk_ BK266) hkp (fun hs_ => (fun e_ => (Kd.R_ne HO_301004.out BK266.out (by decide)) e_) hs_)); have n4_ := Aside0.mk (blk_kept (bk_ BK283) hkp (fun hs_ => (fun e_ => (Kd.R_ne HO_301004.out BK283.out (by decide)) e_) hs_)); have n5_ := Aside0.mk (blk_kept (bk_ BK291) hkp (fun hs_ => (fun e_ => (Kd.R_ne HO_301004.out BK291.out (by decide)) e_) hs_)); have n6_ := Aside0.mk (blk_kept (bk_ BK300) hkp (fun hs_ => (fun e_ => (Kd.R_ne HO_301004.out BK300.out (by decide)) e_) hs_)); have n7_ := Aside0.mk (hb); clear HO_284004; clear HO_292004; clear HO_301004; clear BK266; clear BK283; clear BK291; clear BK300; clear HB; have HO_284004 := n0_; have HO_292004 := n1_; have HO_301004 := n2_; have BK266 := n3_; have BK283 := n4_; have BK291 := n5_; have BK300 := n6_; have HB := n7_; clear n0_ n1_ n2_ n3_ n4_ n5_ n6_ n7_; (try clear hb); (try clear hkp); (try clear hy0); have hcz99_0 : w98.cell? ⟨gb300, 0, none⟩ = some (.int .i64 t292) := (blk_cell BK300.out 0).trans rfl; have hcz99_1 : w98.cell? ⟨gb300, 1, none⟩ = some (.int .i64 t293) := (blk_cell BK300.out 1).trans rfl; have hcz99_2 : w98.cell? ⟨gb300, 2, none⟩ = some (.int .i64 t294) := (blk_cell BK300.out 2).trans rfl; have hcz99_3 : w98.cell? ⟨gb300, 3, none⟩ = some (.int .i64 t295) := (blk_cell BK300.out 3).trans rfl; have hcz99_4 : w98.cell? ⟨gb300, 4, none⟩ = some (.slice Ao37 t296.length co37) := (blk_cell BK300.out 4).trans rfl; have hfz99_0 := blk_frozen BK300.out 0; have hfz99_1 := blk_frozen BK300.out 1; have hfz99_2 := blk_frozen BK300.out 2; have hfz99_3 := blk_frozen BK300.out 3; have hfz99_4 := blk_frozen BK300.out 4) | ((with_reducible refine gate_callee (f := 30) rfl ?_); refine goesL_ (some 71) rfl rfl Try.func30 (by kernel_rfl) rfl #[.agg #[.int .i64 t292, .int .i64 t293, .int .i64 t294, .int .i64 t295, .slice Ao37 t314.length co37], .int .i64 1] rfl (by (try simp only [List.map_toArray, List.map_cons, List.map_nil]); first | done | (rw [show t314.length = t296.length from (Kd.R_reads' HO_301004.out).1.symm] <;> rfl) | rfl | (simp only [List.length_drop, List.length_take]; rfl)) ?_; (with_reducible refine (laws_heldFair.calls kj60 t292 t293 t294 t295 _ _ t314 1 t315 _ ?side1 ?side2 A92.out).mono ?_); (case side1 => repeat (first | exact (Kd.R_reads' HO_301004.out).2.2 | (with_reducible refine Kd.C_alloc ?_ _) | (with_reducible refine Kd.C_drewN ?_ _) | (with_reducible refine Kd.C_drew ?_))); (case side2 => rw [show t314.length = t296.length from (Kd.R_reads' HO_301004.out).1.symm]; exact (Kd.R_reads' HO_301004.out).2.1); rintro e w100 ⟨rfl, hb⟩; refine ⟨_, rfl, ?_⟩; have n0_ := Aside0.mk (Kd.R_below (kr_ HO_284004) hb); have n1_ := Aside0.mk (Kd.R_below (kr_ HO_292004) hb); have n2_ := Aside0.mk (Kd.R_below (kr_ HO_301004) hb); have n3_ := Aside0.mk (blk_below (g := gb266) (o := .cells #[.int .i64 a0_0, .int .i64 a0_1, .int .i64 a0_2, .int .i64 a0_3, .slice A0_4 l0_4.length c0_4] 26 (0, 0)) (bk_ BK266) hb); have n4_ := Aside0.mk (blk_below (g := gb283) (o := .cells #[.int .i64 t275, .int .i64 t276, .int .i64 t277, .int .i64 t278, .slice Ao23 t279.length co23] 32 (0, 0)) (bk_ BK283) hb); have n5_ := Aside0.mk (blk_below (g := gb291) (o := .cells #[.int .i64 t284, .int .i64 t285, .int .i64 t286, .int .i64 t287, .slice Ao30 t311.length co30] 32 (0, 0)) (bk_ BK291) hb); have n6_ := Aside0.mk (blk_below (g := gb300) (o := .cells #[.int .i64 t292, .int .i64 t293, .int .i64 t294, .int .i64 t295, .slice Ao37 t296.length co37] 32 (0, 0)) (bk_ BK300) hb); have n7_ := Aside0.mk (below_step (by repeat (first | (with_reducible first | exact HB.out | apply below_alloc | apply pw_below_drewN | apply below_drew1 | refine below_set ?_ GE266.out | refine below_set ?_ GE283.out | refine below_set ?_ GE291.out | refine below_set ?_ GE300.out) | exact HB.out)) hb); clear HO_284004; clear HO_292004; clear HO_301004; clear BK266; clear BK283; clear BK291; clear BK300; clear HB; have HO_284004 := n0_; have HO_292004 := n1_; have HO_301004 := n2_; have BK266 := n3_; have BK283 := n4_; have BK291 := n5_; have BK300 := n6_; have HB := n7_; clear n0_ n1_ n2_ n3_ n4_ n5_ n6_ n7_; (try clear hb); (try clear hb2); (try clear hk); (try clear hi)))
          go_ret
          exact ⟨by first | rfl | (simp [errW_none, errW_some] <;> rfl) | (simp [*, errW_none, errW_some] <;> rfl), by repeat (first | (with_reducible first | exact HB.out | apply below_alloc | apply pw_below_drewN | apply below_drew1 | refine below_set ?_ GE266.out | refine below_set ?_ GE283.out | refine below_set ?_ GE291.out | refine below_set ?_ GE300.out) | exact HB.out)⟩
         ·rw [if_neg c93] at H
          have c93b0 : decide (t315 < 0) = false := decide_eq_false c93
          have c93b0l := c93b0
          (try simp only [hl292004_60] at c93b0l)
          clear c93
          by_cases c101 : t315 = t313
          ·rw [if_pos c101] at H
           have c101b0 : (t315 == t313) = true := beq_iff_eq.mpr c101
           have c101b0l := c101b0
           (try simp only [hl292004_60] at c101b0l)
           have c101b1 : (t315 != t313) = false := bne_eq_false_iff_eq.mpr c101
           have c101b1l := c101b1
           (try simp only [hl292004_60] at c101b1l)
           clear c101
           replace H := Option.bind_eq_some_iff.mp H
           obtain ⟨⟨t316, t317, t318, t319, t320⟩, A1020, H⟩ := H
           replace H : ((impl_FairRest.f kj60 t316 t317 t318 t319 t320 a1).bind fun bt323 => ((laws_eqFair.f kj60 bt323.1 bt323.2.1 bt323.2.2.1 bt323.2.2.2.1 bt323.2.2.2.2.1 t275 t276 t277 t278 t279).bind fun t332 => (if t332 = true then (laws_FnExactFairRest.j2 kj60 t313 (bt323.2.2.2.2.2 != t282) t292 t293 t294 t295 t314) else (laws_FnExactFairRest.j2 kj60 t313 true t292 t293 t294 t295 t314)))) = some r := H
           have A102 := Aside0.mk A1020
           clear A1020
           replace H := Option.bind_eq_some_iff.mp H
           obtain ⟨⟨t323, t324, t325, t326, t327, t330⟩, A1030, H⟩ := H
           replace H : ((laws_eqFair.f kj60 t323 t324 t325 t326 t327 t275 t276 t277 t278 t279).bind fun t332 => (if t332 = true then (laws_FnExactFairRest.j2 kj60 t313 (t330 != t282) t292 t293 t294 t295 t314) else (laws_FnExactFairRest.j2 kj60 t313 true t292 t293 t294 t295 t314))) = some r := H
           have A103 := Aside0.mk A1030
           clear A1030
           have HC104 := Aside0.mk H
           clear H
           have hnb105 := NB300_266.out
           have hnc105 := NB266_300.out
           have hnb106 := NB300_283.out
           have hnc106 := NB283_300.out
           have hnb107 := NB300_291.out
           have hnc107 := NB291_300.out
           have hcz108_0 : wc.cell? ⟨gb300, 0, none⟩ = some (.int .i64 t292) := (blk_cell BK300.out 0).trans rfl
           have hcz108_1 : wc.cell? ⟨gb300, 1, none⟩ = some (.int .i64 t293) := (blk_cell BK300.out 1).trans rfl
           have hcz108_2 : wc.cell? ⟨gb300, 2, none⟩ = some (.int .i64 t294) := (blk_cell BK300.out 2).trans rfl
           have hcz108_3 : wc.cell? ⟨gb300, 3, none⟩ = some (.int .i64 t295) := (blk_cell BK300.out 3).trans rfl
           have hcz108_4 : wc.cell? ⟨gb300, 4, none⟩ = some (.slice Ao37 t296.length co37) := (blk_cell BK300.out 4).trans rfl
           have hfz108_0 := blk_frozen BK300.out 0
           have hfz108_1 := blk_frozen BK300.out 1
           have hfz108_2 := blk_frozen BK300.out 2
           have hfz108_3 := blk_frozen BK300.out 3
           have hfz108_4 := blk_frozen BK300.out 4
           go_upto_region 25 with (first | ((with_reducible refine gate_callee (f := 29) rfl ?_); refine goesL_ (some 68) rfl rfl Try.func29 (by kernel_rfl) rfl #[.agg #[.int .i64 t292, .int .i64 t293, .int .i64 t294, .int .i64 t295, .slice Ao37 t296.length co37], .int .i64 1] rfl mt_ ?_; (with_reducible refine (laws_markFair.calls kj60 t292 t293 t294 t295 (fun k_ => some k_ = (.slice Ao37 t296.length co37 : Value).ownBlock) (.slice Ao37 t296.length co37) t296 1 t313 t314 w _ ?side1 ?side2 A91.out).mono ?_); (case side1 => repeat (first | (with_reducible first | exact HB.out | apply below_alloc | apply pw_below_drewN | apply below_drew1 | refine below_set ?_ GE266.out | refine below_set ?_ GE283.out | refine below_set ?_ GE291.out | refine below_set ?_ GE300.out) | exact HB.out)); (case side2 => exact Kd.R_tight rfl HO_301004.out); rintro e w109 ⟨rfl, hy0, hb, hkp⟩; refine ⟨_, rfl, ?_⟩; have n0_ := Aside0.mk (Kd.R_mono (ok' := fun k_ => some k_ ≠ (.slice Ao30 t311.length co30 : Value).ownBlock ∧ some k_ ≠ (.slice Ao37 t296.length co37 : Value).ownBlock) (Kd.R_keptB (HO_284004.out) hkp (fun k_ hk_ hs_ => by first | exact (hk_.2) hs_ | grind)) (fun k_ hk_ => by first | exact ⟨hk_.1.1, hk_.1.2⟩ | grind)); have n1_ := Aside0.mk (Kd.R_mono (ok' := fun k_ => some k_ ≠ (.slice Ao23 t279.length co23 : Value).ownBlock ∧ some k_ ≠ (.slice Ao37 t296.length co37 : Value).ownBlock) (Kd.R_keptB (HO_292004.out) hkp (fun k_ hk_ hs_ => by first | exact (hk_.2) hs_ | grind)) (fun k_ hk_ => by first | exact ⟨hk_.1.1, hk_.1.2⟩ | grind)); have n2_ := Aside0.mk (Kd.R_reok rfl hy0 (fun k_ e_ => HO_301004.out.1 k_ e_)); have n3_ := Aside0.mk (blk_kept (bk_ BK266) hkp (fun hs_ => (fun e_ => (Kd.R_ne HO_301004.out BK266.out (by decide)) e_) hs_)); have n4_ := Aside0.mk (blk_kept (bk_ BK283) hkp (fun hs_ => (fun e_ => (Kd.R_ne HO_301004.out BK283.out (by decide)) e_) hs_)); have n5_ := Aside0.mk (blk_kept (bk_ BK291) hkp (fun hs_ => (fun e_ => (Kd.R_ne HO_301004.out BK291.out (by decide)) e_) hs_)); have n6_ := Aside0.mk (blk_kept (bk_ BK300) hkp (fun hs_ => (fun e_ => (Kd.R_ne HO_301004.out BK300.out (by decide)) e_) hs_)); have n7_ := Aside0.mk (hb); clear HO_284004; clear HO_292004; clear HO_301004; clear BK266; clear BK283; clear BK291; clear BK300; clear HB; have HO_284004 := n0_; have HO_292004 := n1_; have HO_301004 := n2_; have BK266 := n3_; have BK283 := n4_; have BK291 := n5_; have BK300 := n6_; have HB := n7_; clear n0_ n1_ n2_ n3_ n4_ n5_ n6_ n7_; (try clear hb); (try clear hkp); (try clear hy0); have hcz110_0 : w109.cell? ⟨gb300, 0, none⟩ = some (.int .i64 t292) := (blk_cell BK300.out 0).trans rfl; have hcz110_1 : w109.cell? ⟨gb300, 1, none⟩ = some (.int .i64 t293) := (blk_cell BK300.out 1).trans rfl; have hcz110_2 : w109.cell? ⟨gb300, 2, none⟩ = some (.int .i64 t294) := (blk_cell BK300.out 2).trans rfl; have hcz110_3 : w109.cell? ⟨gb300, 3, none⟩ = some (.int .i64 t295) := (blk_cell BK300.out 3).trans rfl; have hcz110_4 : w109.cell? ⟨gb300, 4, none⟩ = some (.slice Ao37 t296.length co37) := (blk_cell BK300.out 4).trans rfl; have hfz110_0 := blk_frozen BK300.out 0; have hfz110_1 := blk_frozen BK300.out 1; have hfz110_2 := blk_frozen BK300.out 2; have hfz110_3 := blk_frozen BK300.out 3; have hfz110_4 := blk_frozen BK300.out 4) | ((with_reducible refine gate_callee (f := 30) rfl ?_); refine goesL_ (some 71) rfl rfl Try.func30 (by kernel_rfl) rfl #[.agg #[.int .i64 t292, .int .i64 t293, .int .i64 t294, .int .i64 t295, .slice Ao37 t314.length co37], .int .i64 1] rfl (by (try simp only [List.map_toArray, List.map_cons, List.map_nil]); first | done | (rw [show t314.length = t296.length from (Kd.R_reads' HO_301004.out).1.symm] <;> rfl) | rfl | (simp only [List.length_drop, List.length_take]; rfl)) ?_; (with_reducible refine (laws_heldFair.calls kj60 t292 t293 t294 t295 _ _ t314 1 t315 _ ?side1 ?side2 A92.out).mono ?_); (case side1 => repeat (first | exact (Kd.R_reads' HO_301004.out).2.2 | (with_reducible refine Kd.C_alloc ?_ _) | (with_reducible refine Kd.C_drewN ?_ _) | (with_reducible refine Kd.C_drew ?_))); (case side2 => rw [show t314.length = t296.length from (Kd.R_reads' HO_301004.out).1.symm]; exact (Kd.R_reads' HO_301004.out).2.1); rintro e w111 ⟨rfl, hb⟩; refine ⟨_, rfl, ?_⟩; have n0_ := Aside0.mk (Kd.R_below (kr_ HO_284004) hb); have n1_ := Aside0.mk (Kd.R_below (kr_ HO_292004) hb); have n2_ := Aside0.mk (Kd.R_below (kr_ HO_301004) hb); have n3_ := Aside0.mk (blk_below (g := gb266) (o := .cells #[.int .i64 a0_0, .int .i64 a0_1, .int .i64 a0_2, .int .i64 a0_3, .slice A0_4 l0_4.length c0_4] 26 (0, 0)) (bk_ BK266) hb); have n4_ := Aside0.mk (blk_below (g := gb283) (o := .cells #[.int .i64 t275, .int .i64 t276, .int .i64 t277, .int .i64 t278, .slice Ao23 t279.length co23] 32 (0, 0)) (bk_ BK283) hb); have n5_ := Aside0.mk (blk_below (g := gb291) (o := .cells #[.int .i64 t284, .int .i64 t285, .int .i64 t286, .int .i64 t287, .slice Ao30 t311.length co30] 32 (0, 0)) (bk_ BK291) hb); have n6_ := Aside0.mk (blk_below (g := gb300) (o := .cells #[.int .i64 t292, .int .i64 t293, .int .i64 t294, .int .i64 t295, .slice Ao37 t296.length co37] 32 (0, 0)) (bk_ BK300) hb); have n7_ := Aside0.mk (below_step (by repeat (first | (with_reducible first | exact HB.out | apply below_alloc | apply pw_below_drewN | apply below_drew1 | refine below_set ?_ GE266.out | refine below_set ?_ GE283.out | refine below_set ?_ GE291.out | refine below_set ?_ GE300.out) | exact HB.out)) hb); clear HO_284004; clear HO_292004; clear HO_301004; clear BK266; clear BK283; clear BK291; clear BK300; clear HB; have HO_284004 := n0_; have HO_292004 := n1_; have HO_301004 := n2_; have BK266 := n3_; have BK283 := n4_; have BK291 := n5_; have BK300 := n6_; have HB := n7_; clear n0_ n1_ n2_ n3_ n4_ n5_ n6_ n7_; (try clear hb); (try clear hb2); (try clear hk); (try clear hi); have hnb112 := NB266_283.out; have hnc112 := NB283_266.out; have hnb113 := NB266_291.out; have hnc113 := NB291_266.out; have hcz114_0 : w111.cell? ⟨gb266, 0, none⟩ = some (.int .i64 a0_0) := (blk_cell BK266.out 0).trans rfl; have hcz114_1 : w111.cell? ⟨gb266, 1, none⟩ = some (.int .i64 a0_1) := (blk_cell BK266.out 1).trans rfl; have hcz114_2 : w111.cell? ⟨gb266, 2, none⟩ = some (.int .i64 a0_2) := (blk_cell BK266.out 2).trans rfl; have hcz114_3 : w111.cell? ⟨gb266, 3, none⟩ = some (.int .i64 a0_3) := (blk_cell BK266.out 3).trans rfl; have hcz114_4 : w111.cell? ⟨gb266, 4, none⟩ = some (.slice A0_4 l0_4.length c0_4) := (blk_cell BK266.out 4).trans rfl; have hfz114_0 := blk_frozen BK266.out 0; have hfz114_1 := blk_frozen BK266.out 1; have hfz114_2 := blk_frozen BK266.out 2; have hfz114_3 := blk_frozen BK266.out 3; have hfz114_4 := blk_frozen BK266.out 4) | ((with_reducible refine gate_callee (f := 17) rfl ?_); refine goesL_ (some 79) rfl rfl Try.func17 (by kernel_rfl) rfl #[.agg #[.int .i64 a0_0, .int .i64 a0_1, .int .i64 a0_2, .int .i64 a0_3, .slice A0_4 l0_4.length c0_4]] rfl mt_ ?_; (with_reducible refine (laws_toFair.calls kj60 a0_0 a0_1 a0_2 a0_3 _ _ l0_4 t316 t317 t318 t319 t320 _ ?side1 ?side2 A102.out).mono ?_); (case side1 => repeat (first | exact (Kd.C_below HR0_4.out HB.out) | (with_reducible refine Kd.C_alloc ?_ _) | (with_reducible refine Kd.C_drewN ?_ _) | (with_reducible refine Kd.C_drew ?_))); (case side2 => exact HC0_4.out); rintro e w115 ⟨v321, rfl, ho0, hb⟩; refine ⟨_, rfl, ?_⟩; have n0_ := Aside0.mk (Kd.R_elder' (kr_ HO_284004) (Kd.R_base ho0) hb); have n1_ := Aside0.mk (Kd.R_elder' (kr_ HO_292004) (Kd.R_base ho0) hb); have n2_ := Aside0.mk (Kd.R_elder' (kr_ HO_301004) (Kd.R_base ho0) hb); have n3_ := Aside0.mk (Kd.R_lower (Kd.R_new' (Kd.R_new' (Kd.R_new' ho0 (Kd.R_lt (kr_ HO_284004))) (Kd.R_lt (kr_ HO_292004))) (Kd.R_lt (kr_ HO_301004))) (below_size (by repeat (first | (with_reducible first | exact HB.out | apply below_alloc | apply pw_below_drewN | apply below_drew1 | refine below_set ?_ GE266.out | refine below_set ?_ GE283.out | refine below_set ?_ GE291.out | refine below_set ?_ GE300.out) | exact HB.out)))); have n4_ := Aside0.mk (blk_below (g := gb266) (o := .cells #[.int .i64 a0_0, .int .i64 a0_1, .int .i64 a0_2, .int .i64 a0_3, .slice A0_4 l0_4.length c0_4] 26 (0, 0)) (bk_ BK266) hb); have n5_ := Aside0.mk (blk_below (g := gb283) (o := .cells #[.int .i64 t275, .int .i64 t276, .int .i64 t277, .int .i64 t278, .slice Ao23 t279.length co23] 32 (0, 0)) (bk_ BK283) hb); have n6_ := Aside0.mk (blk_below (g := gb291) (o := .cells #[.int .i64 t284, .int .i64 t285, .int .i64 t286, .int .i64 t287, .slice Ao30 t311.length co30] 32 (0, 0)) (bk_ BK291) hb); have n7_ := Aside0.mk (blk_below (g := gb300) (o := .cells #[.int .i64 t292, .int .i64 t293, .int .i64 t294, .int .i64 t295, .slice Ao37 t296.length co37] 32 (0, 0)) (bk_ BK300) hb); have n8_ := Aside0.mk (below_step (by repeat (first | (with_reducible first | exact HB.out | apply below_alloc | apply pw_below_drewN | apply below_drew1 | refine below_set ?_ GE266.out | refine below_set ?_ GE283.out | refine below_set ?_ GE291.out | refine below_set ?_ GE300.out) | exact HB.out)) hb); clear HO_284004; clear HO_292004; clear HO_301004; clear BK266; clear BK283; clear BK291; clear BK300; clear HB; have HO_284004 := n0_; have HO_292004 := n1_; have HO_301004 := n2_; have HO322 := n3_; have BK266 := n4_; have BK283 := n5_; have BK291 := n6_; have BK300 := n7_; have HB := n8_; clear n0_ n1_ n2_ n3_ n4_ n5_ n6_ n7_ n8_; (try clear hb); (try clear hb2); (try clear hk); (try clear hi); (try clear ho0); obtain ⟨Ao116, co116, eo116⟩ := Kd.R_slice HO322.out; subst eo116) | ((with_reducible refine gate_callee (f := 28) rfl ?_); refine goesL_ (some 81) rfl rfl Try.func28 (by kernel_rfl) rfl #[.agg #[.int .i64 t316, .int .i64 t317, .int .i64 t318, .int .i64 t319, .slice Ao116 t320.length co116], .int .i64 a1] rfl mt_ ?_; (with_reducible refine (impl_FairRest.calls kj60 t316 t317 t318 t319 _ _ t320 a1 t323 t324 t325 t326 t327 t330 _ ?side1 ?side2 A103.out).mono ?_); (case side1 => repeat (first | exact (Kd.R_reads' HO322.out).2.2 | (with_reducible refine Kd.C_alloc ?_ _) | (with_reducible refine Kd.C_drewN ?_ _) | (with_reducible refine Kd.C_drew ?_))); (case side2 => exact (Kd.R_reads' HO322.out).2.1); rintro e w117 ⟨v328, rfl, ho0, hb⟩; refine ⟨_, rfl, ?_⟩; have n0_ := Aside0.mk (Kd.R_elder' (kr_ HO_284004) (Kd.R_base ho0) hb); have n1_ := Aside0.mk (Kd.R_elder' (kr_ HO_292004) (Kd.R_base ho0) hb); have n2_ := Aside0.mk (Kd.R_elder' (kr_ HO_301004) (Kd.R_base ho0) hb); have n3_ := Aside0.mk (Kd.R_elder' (kr_ HO322) (Kd.R_base ho0) hb); have n4_ := Aside0.mk (Kd.R_lower (Kd.R_new' (Kd.R_new' (Kd.R_new' (Kd.R_new' ho0 (Kd.R_lt (kr_ HO_284004))) (Kd.R_lt (kr_ HO_292004))) (Kd.R_lt (kr_ HO_301004))) (Kd.R_lt (kr_ HO322))) (below_size (by repeat (first | (with_reducible first | exact HB.out | apply below_alloc | apply pw_below_drewN | apply below_drew1 | refine below_set ?_ GE266.out | refine below_set ?_ GE283.out | refine below_set ?_ GE291.out | refine below_set ?_ GE300.out) | exact HB.out)))); have n5_ := Aside0.mk (blk_below (g := gb266) (o := .cells #[.int .i64 a0_0, .int .i64 a0_1, .int .i64 a0_2, .int .i64 a0_3, .slice A0_4 l0_4.length c0_4] 26 (0, 0)) (bk_ BK266) hb); have n6_ := Aside0.mk (blk_below (g := gb283) (o := .cells #[.int .i64 t275, .int .i64 t276, .int .i64 t277, .int .i64 t278, .slice Ao23 t279.length co23] 32 (0, 0)) (bk_ BK283) hb); have n7_ := Aside0.mk (blk_below (g := gb291) (o := .cells #[.int .i64 t284, .int .i64 t285, .int .i64 t286, .int .i64 t287, .slice Ao30 t311.length co30] 32 (0, 0)) (bk_ BK291) hb); have n8_ := Aside0.mk (blk_below (g := gb300) (o := .cells #[.int .i64 t292, .int .i64 t293, .int .i64 t294, .int .i64 t295, .slice Ao37 t296.length co37] 32 (0, 0)) (bk_ BK300) hb); have n9_ := Aside0.mk (below_step (by repeat (first | (with_reducible first | exact HB.out | apply below_alloc | apply pw_below_drewN | apply below_drew1 | refine below_set ?_ GE266.out | refine below_set ?_ GE283.out | refine below_set ?_ GE291.out | refine below_set ?_ GE300.out) | exact HB.out)) hb); clear HO_284004; clear HO_292004; clear HO_301004; clear HO322; clear BK266; clear BK283; clear BK291; clear BK300; clear HB; have HO_284004 := n0_; have HO_292004 := n1_; have HO_301004 := n2_; have HO322 := n3_; have HO329 := n4_; have BK266 := n5_; have BK283 := n6_; have BK291 := n7_; have BK300 := n8_; have HB := n9_; clear n0_ n1_ n2_ n3_ n4_ n5_ n6_ n7_ n8_ n9_; (try clear hb); (try clear hb2); (try clear hk); (try clear hi); (try clear ho0)) | ((with_reducible refine gate_dst (N := 14) rfl ?_); refine box_event ?hg (N := 14) ?hd (cs := #[.int .i64 0, .int .i64 0, .int .i64 0, .int .i64 0, .slice none 0 0]) (t := 32) ?hr ?_; (case hd => rfl); (case hg => rfl); (case hr => first | (go_simp; done) | (go_simp; rfl)); intro gb331 hg w118 hbox hb; have n0_ := Aside0.mk (Kd.R_below (kr_ HO_284004) hb); have n1_ := Aside0.mk (Kd.R_below (kr_ HO_292004) hb); have n2_ := Aside0.mk (Kd.R_below (kr_ HO_301004) hb); have n3_ := Aside0.mk (Kd.R_below (kr_ HO322) hb); have n4_ := Aside0.mk (Kd.R_below (kr_ HO329) hb); have n5_ := Aside0.mk (blk_below (g := gb266) (o := .cells #[.int .i64 a0_0, .int .i64 a0_1, .int .i64 a0_2, .int .i64 a0_3, .slice A0_4 l0_4.length c0_4] 26 (0, 0)) (bk_ BK266) hb); have n6_ := Aside0.mk (blk_below (g := gb283) (o := .cells #[.int .i64 t275, .int .i64 t276, .int .i64 t277, .int .i64 t278, .slice Ao23 t279.length co23] 32 (0, 0)) (bk_ BK283) hb); have n7_ := Aside0.mk (blk_below (g := gb291) (o := .cells #[.int .i64 t284, .int .i64 t285, .int .i64 t286, .int .i64 t287, .slice Ao30 t311.length co30] 32 (0, 0)) (bk_ BK291) hb); have n8_ := Aside0.mk (blk_below (g := gb300) (o := .cells #[.int .i64 t292, .int .i64 t293, .int .i64 t294, .int .i64 t295, .slice Ao37 t296.length co37] 32 (0, 0)) (bk_ BK300) hb); have n9_ := Aside0.mk (below_step (by repeat (first | (with_reducible first | exact HB.out | apply below_alloc | apply pw_below_drewN | apply below_drew1 | refine below_set ?_ GE266.out | refine below_set ?_ GE283.out | refine below_set ?_ GE291.out | refine below_set ?_ GE300.out) | exact HB.out)) hb); have n10_ := Aside0.mk (hbox); have n11_ := Aside0.mk ((by rw [hg]; exact (below_size (by repeat (first | (with_reducible first | exact HB.out | apply below_alloc | apply pw_below_drewN | apply below_drew1 | refine below_set ?_ GE266.out | refine below_set ?_ GE283.out | refine below_set ?_ GE291.out | refine below_set ?_ GE300.out) | exact HB.out))) : w.heap.size ≤ gb331)); have n12_ := Aside0.mk ((by rw [hg]; exact (below_size (by repeat (first | (with_reducible first | exact HB.out | apply below_alloc | apply pw_below_drewN | apply below_drew1 | refine below_set ?_ GE266.out | refine below_set ?_ GE283.out | refine below_set ?_ GE291.out | refine below_set ?_ GE300.out) | exact HB.out))) : w.heap.size ≤ gb331)); have n13_ := Aside0.mk ((by rw [hg]; exact Nat.ne_of_lt (blk_lt (g := gb266) (o := .cells #[.int .i64 a0_0, .int .i64 a0_1, .int .i64 a0_2, .int .i64 a0_3, .slice A0_4 l0_4.length c0_4] 26 (0, 0)) (bk_ BK266)) : gb266 ≠ gb331)); have n14_ := Aside0.mk ((by rw [hg]; exact Nat.ne_of_gt (blk_lt (g := gb266) (o := .cells #[.int .i64 a0_0, .int .i64 a0_1, .int .i64 a0_2, .int .i64 a0_3, .slice A0_4 l0_4.length c0_4] 26 (0, 0)) (bk_ BK266)) : gb331 ≠ gb266)); have n15_ := Aside0.mk ((by rw [hg]; exact Nat.ne_of_lt (blk_lt (g := gb283) (o := .cells #[.int .i64 t275, .int .i64 t276, .int .i64 t277, .int .i64 t278, .slice Ao23 t279.length co23] 32 (0, 0)) (bk_ BK283)) : gb283 ≠ gb331)); have n16_ := Aside0.mk ((by rw [hg]; exact Nat.ne_of_gt (blk_lt (g := gb283) (o := .cells #[.int .i64 t275, .int .i64 t276, .int .i64 t277, .int .i64 t278, .slice Ao23 t279.length co23] 32 (0, 0)) (bk_ BK283)) : gb331 ≠ gb283)); have n17_ := Aside0.mk ((by rw [hg]; exact Nat.ne_of_lt (blk_lt (g := gb291) (o := .cells #[.int .i64 t284, .int .i64 t285, .int .i64 t286, .int .i64 t287, .slice Ao30 t311.length co30] 32 (0, 0)) (bk_ BK291)) : gb291 ≠ gb331)); have n18_ := Aside0.mk ((by rw [hg]; exact Nat.ne_of_gt (blk_lt (g := gb291) (o := .cells #[.int .i64 t284, .int .i64 t285, .int .i64 t286, .int .i64 t287, .slice Ao30 t311.length co30] 32 (0, 0)) (bk_ BK291)) : gb331 ≠ gb291)); have n19_ := Aside0.mk ((by rw [hg]; exact Nat.ne_of_lt (blk_lt (g := gb300) (o := .cells #[.int .i64 t292, .int .i64 t293, .int .i64 t294, .int .i64 t295, .slice Ao37 t296.length co37] 32 (0, 0)) (bk_ BK300)) : gb300 ≠ gb331)); have n20_ := Aside0.mk ((by rw [hg]; exact Nat.ne_of_gt (blk_lt (g := gb300) (o := .cells #[.int .i64 t292, .int .i64 t293, .int .i64 t294, .int .i64 t295, .slice Ao37 t296.length co37] 32 (0, 0)) (bk_ BK300)) : gb331 ≠ gb300)); clear HO_284004; clear HO_292004; clear HO_301004; clear HO322; clear HO329; clear BK266; clear BK283; clear BK291; clear BK300; clear HB; have HO_284004 := n0_; have HO_292004 := n1_; have HO_301004 := n2_; have HO322 := n3_; have HO329 := n4_; have BK266 := n5_; have BK283 := n6_; have BK291 := n7_; have BK300 := n8_; have HB := n9_; have BK331 := n10_; have GW331 := n11_; have GE331 := n12_; have NB266_331 := n13_; have NB331_266 := n14_; have NB283_331 := n15_; have NB331_283 := n16_; have NB291_331 := n17_; have NB331_291 := n18_; have NB300_331 := n19_; have NB331_300 := n20_; clear n0_ n1_ n2_ n3_ n4_ n5_ n6_ n7_ n8_ n9_ n10_ n11_ n12_ n13_ n14_ n15_ n16_ n17_ n18_ n19_ n20_; clear hb hbox hg; have hnb119 := NB331_266.out; have hnc119 := NB266_331.out; have hnb120 := NB331_283.out; have hnc120 := NB283_331.out; have hnb121 := NB331_291.out; have hnc121 := NB291_331.out; have hnb122 := NB331_300.out; have hnc122 := NB300_331.out; have hcz123_0 : w118.cell? ⟨gb331, 0, none⟩ = some (.int .i64 0) := (blk_cell BK331.out 0).trans rfl; have hcz123_1 : w118.cell? ⟨gb331, 1, none⟩ = some (.int .i64 0) := (blk_cell BK331.out 1).trans rfl; have hcz123_2 : w118.cell? ⟨gb331, 2, none⟩ = some (.int .i64 0) := (blk_cell BK331.out 2).trans rfl; have hcz123_3 : w118.cell? ⟨gb331, 3, none⟩ = some (.int .i64 0) := (blk_cell BK331.out 3).trans rfl; have hcz123_4 : w118.cell? ⟨gb331, 4, none⟩ = some (.slice none 0 0) := (blk_cell BK331.out 4).trans rfl; have hfz123_0 := blk_frozen BK331.out 0; have hfz123_1 := blk_frozen BK331.out 1; have hfz123_2 := blk_frozen BK331.out 2; have hfz123_3 := blk_frozen BK331.out 3; have hfz123_4 := blk_frozen BK331.out 4; obtain ⟨Ao124, co124, eo124⟩ := Kd.R_slice HO329.out; subst eo124))
           (try simp only [Act.put, List.setIfInBounds_toArray, List.set_cons_zero, List.set_cons_succ])
           go_cut [92] (fun v92 wc => ∃ (kq : Nat) (x92_103 : Bool), v92 = .bool x92_103 ∧ Aside0 (laws_FnExactFairRest.j2 kq t313 x92_103 t292 t293 t294 t295 t314 = some r) ∧ Aside0 (kq ≤ kj60) ∧ Aside0 (Kd.R k38 38 wc w.heap.size (fun k_ => some k_ ≠ ((.slice Ao30 t311.length co30) : Value).ownBlock ∧ some k_ ≠ ((.slice Ao37 t296.length co37) : Value).ownBlock ∧ some k_ ≠ ((.slice Ao124 t327.length co124) : Value).ownBlock) (.slice Ao23 t279.length co23) t279) ∧ Aside0 (Kd.R k38 38 wc w.heap.size (fun k_ => some k_ ≠ ((.slice Ao23 t279.length co23) : Value).ownBlock ∧ some k_ ≠ ((.slice Ao37 t296.length co37) : Value).ownBlock ∧ some k_ ≠ ((.slice Ao124 t327.length co124) : Value).ownBlock) (.slice Ao30 t311.length co30) t311) ∧ Aside0 (Kd.R k38 38 wc w.heap.size (fun k_ => some k_ ≠ ((.slice Ao23 t279.length co23) : Value).ownBlock ∧ some k_ ≠ ((.slice Ao30 t311.length co30) : Value).ownBlock ∧ some k_ ≠ ((.slice Ao124 t327.length co124) : Value).ownBlock) (.slice Ao37 t296.length co37) t314) ∧ Aside0 (Kd.R k38 38 wc w.heap.size (fun k_ => some k_ ≠ ((.slice Ao23 t279.length co23) : Value).ownBlock ∧ some k_ ≠ ((.slice Ao30 t311.length co30) : Value).ownBlock ∧ some k_ ≠ ((.slice Ao37 t296.length co37) : Value).ownBlock) (.slice Ao124 t327.length co124) t327) ∧ Aside0 (wc.heap[gb266]? = some (.cells #[.int .i64 a0_0, .int .i64 a0_1, .int .i64 a0_2, .int .i64 a0_3, (.slice A0_4 l0_4.length c0_4)] 26 (0, 0))) ∧ Aside0 (wc.heap[gb283]? = some (.cells #[.int .i64 t275, .int .i64 t276, .int .i64 t277, .int .i64 t278, (.slice Ao23 t279.length co23)] 32 (0, 0))) ∧ Aside0 (wc.heap[gb291]? = some (.cells #[.int .i64 t284, .int .i64 t285, .int .i64 t286, .int .i64 t287, (.slice Ao30 t311.length co30)] 32 (0, 0))) ∧ Aside0 (wc.heap[gb300]? = some (.cells #[.int .i64 t292, .int .i64 t293, .int .i64 t294, .int .i64 t295, (.slice Ao37 t296.length co37)] 32 (0, 0))) ∧ Aside0 (wc.heap[gb331]? = some (.cells #[.int .i64 t323, .int .i64 t324, .int .i64 t325, .int .i64 t326, (.slice Ao124 t327.length co124)] 32 (0, 0))) ∧ Aside0 (Below w.heap.size w wc))
           case first =>
            have H := HC104.out
            clear HC104
            replace H := Option.bind_eq_some_iff.mp H
            obtain ⟨t332, A1250, H⟩ := H
            replace H : (if t332 = true then (laws_FnExactFairRest.j2 kj60 t313 (t330 != t282) t292 t293 t294 t295 t314) else (laws_FnExactFairRest.j2 kj60 t313 true t292 t293 t294 t295 t314)) = some r := H
            have A125 := Aside0.mk A1250
            clear A1250
            by_cases c126 : t332 = true
            ·subst c126
             have H1 : (laws_FnExactFairRest.j2 kj60 t313 (t330 != t282) t292 t293 t294 t295 t314) = some r := by rw [if_pos rfl] at H; exact H
             clear H
             have H := H1
             clear H1
             have H' := Aside0.mk H
             clear H
             have hnb127 := NB331_266.out
             have hnc127 := NB266_331.out
             have hnb128 := NB331_283.out
             have hnc128 := NB283_331.out
             have hnb129 := NB331_291.out
             have hnc129 := NB291_331.out
             have hnb130 := NB331_300.out
             have hnc130 := NB300_331.out
             have hcz131_0 : w118.cell? ⟨gb331, 0, none⟩ = some (.int .i64 0) := (blk_cell BK331.out 0).trans rfl
             have hcz131_1 : w118.cell? ⟨gb331, 1, none⟩ = some (.int .i64 0) := (blk_cell BK331.out 1).trans rfl
             have hcz131_2 : w118.cell? ⟨gb331, 2, none⟩ = some (.int .i64 0) := (blk_cell BK331.out 2).trans rfl
             have hcz131_3 : w118.cell? ⟨gb331, 3, none⟩ = some (.int .i64 0) := (blk_cell BK331.out 3).trans rfl
             have hcz131_4 : w118.cell? ⟨gb331, 4, none⟩ = some (.slice none 0 0) := (blk_cell BK331.out 4).trans rfl
             have hfz131_0 := blk_frozen BK331.out 0
             have hfz131_1 := blk_frozen BK331.out 1
             have hfz131_2 := blk_frozen BK331.out 2
             have hfz131_3 := blk_frozen BK331.out 3
             have hfz131_4 := blk_frozen BK331.out 4
             have hnb132 := NB283_266.out
             have hnc132 := NB266_283.out
             have hnb133 := NB283_291.out
             have hnc133 := NB291_283.out
             have hnb134 := NB283_300.out
             have hnc134 := NB300_283.out
             have hcz135_0 : w118.cell? ⟨gb283, 0, none⟩ = some (.int .i64 t275) := (blk_cell BK283.out 0).trans rfl
             have hcz135_1 : w118.cell? ⟨gb283, 1, none⟩ = some (.int .i64 t276) := (blk_cell BK283.out 1).trans rfl
             have hcz135_2 : w118.cell? ⟨gb283, 2, none⟩ = some (.int .i64 t277) := (blk_cell BK283.out 2).trans rfl
             have hcz135_3 : w118.cell? ⟨gb283, 3, none⟩ = some (.int .i64 t278) := (blk_cell BK283.out 3).trans rfl
             have hcz135_4 : w118.cell? ⟨gb283, 4, none⟩ = some (.slice Ao23 t279.length co23) := (blk_cell BK283.out 4).trans rfl
             have hfz135_0 := blk_frozen BK283.out 0
             have hfz135_1 := blk_frozen BK283.out 1
             have hfz135_2 := blk_frozen BK283.out 2
             have hfz135_3 := blk_frozen BK283.out 3
             have hfz135_4 := blk_frozen BK283.out 4
             go_wp2_with (first | ((with_reducible refine gate_callee (f := 19) rfl ?_); refine goesL_ (some 86) rfl rfl Try.func19 (by kernel_rfl) rfl #[.agg #[.int .i64 t323, .int .i64 t324, .int .i64 t325, .int .i64 t326, .slice Ao124 t327.length co124], .agg #[.int .i64 t275, .int .i64 t276, .int .i64 t277, .int .i64 t278, .slice Ao23 t279.length co23]] rfl mt_ ?_; (with_reducible refine (laws_eqFair.calls kj60 t323 t324 t325 t326 _ _ t327 t275 t276 t277 t278 _ _ t279 true _ ?side1 ?side2 ?side3 ?side4 A125.out).mono ?_); (case side1 => refine (Kd.R_reads' (e := 38) (base := w.heap.size) (ok := fun k_ => ((((True ∧ some k_ ≠ (.slice Ao23 t279.length co23 : Value).ownBlock) ∧ some k_ ≠ (.slice Ao30 t311.length co30 : Value).ownBlock) ∧ some k_ ≠ (.slice Ao37 t296.length co37 : Value).ownBlock) ∧ some k_ ≠ (.slice Ao116 t320.length co116 : Value).ownBlock)) (n := t327.length) (c := co124) ?_).2.2; exact (by (with_reducible repeat (first | apply Kd.R_alloc | apply Kd.R_drewN | apply Kd.R_drew)); exact (Kd.R_mono (Kd.R_far (p := ⟨gb331, 4, none⟩) (Kd.R_far (p := ⟨gb331, 3, none⟩) (Kd.R_far (p := ⟨gb331, 2, none⟩) (Kd.R_far (p := ⟨gb331, 1, none⟩) (Kd.R_far (p := ⟨gb331, 0, none⟩) (Kd.R_types HO329.out BK331.out (by decide)) (fun _ hk => by first | exact hk.2 | grind) (.int .i64 t323)) (fun _ hk => by first | exact hk.2 | grind) (.int .i64 t324)) (fun _ hk => by first | exact hk.2 | grind) (.int .i64 t325)) (fun _ hk => by first | exact hk.2 | grind) (.int .i64 t326)) (fun _ hk => by first | exact hk.2 | grind) (.slice Ao124 t327.length co124)) (fun _ h_ => h_.1)))); (case side2 => exact (Kd.R_reads' HO329.out).2.1); (case side3 => refine (Kd.R_reads' (e := 38) (base := w.heap.size) (ok := fun k_ => (((some k_ ≠ (.slice Ao30 t311.length co30 : Value).ownBlock ∧ some k_ ≠ (.slice Ao37 t296.length co37 : Value).ownBlock) ∧ some k_ ≠ (.slice Ao116 t320.length co116 : Value).ownBlock) ∧ some k_ ≠ (.slice Ao124 t327.length co124 : Value).ownBlock)) (n := t279.length) (c := co23) ?_).2.2; exact (by (with_reducible repeat (first | apply Kd.R_alloc | apply Kd.R_drewN | apply Kd.R_drew)); exact (Kd.R_mono (Kd.R_far (p := ⟨gb331, 4, none⟩) (Kd.R_far (p := ⟨gb331, 3, none⟩) (Kd.R_far (p := ⟨gb331, 2, none⟩) (Kd.R_far (p := ⟨gb331, 1, none⟩) (Kd.R_far (p := ⟨gb331, 0, none⟩) (Kd.R_types HO_284004.out BK331.out (by decide)) (fun _ hk => by first | exact hk.2 | grind) (.int .i64 t323)) (fun _ hk => by first | exact hk.2 | grind) (.int .i64 t324)) (fun _ hk => by first | exact hk.2 | grind) (.int .i64 t325)) (fun _ hk => by first | exact hk.2 | grind) (.int .i64 t326)) (fun _ hk => by first | exact hk.2 | grind) (.slice Ao124 t327.length co124)) (fun _ h_ => h_.1)))); (case side4 => exact (Kd.R_reads' HO_284004.out).2.1); rintro e w136 ⟨rfl, hb⟩; refine ⟨_, rfl, ?_⟩; have n0_ := Aside0.mk (Kd.R_below (by (with_reducible repeat (first | apply Kd.R_alloc | apply Kd.R_drewN | apply Kd.R_drew)); exact (Kd.R_mono (Kd.R_far (p := ⟨gb331, 4, none⟩) (Kd.R_far (p := ⟨gb331, 3, none⟩) (Kd.R_far (p := ⟨gb331, 2, none⟩) (Kd.R_far (p := ⟨gb331, 1, none⟩) (Kd.R_far (p := ⟨gb331, 0, none⟩) (Kd.R_types HO_284004.out BK331.out (by decide)) (fun _ hk => by first | exact hk.2 | grind) (.int .i64 t323)) (fun _ hk => by first | exact hk.2 | grind) (.int .i64 t324)) (fun _ hk => by first | exact hk.2 | grind) (.int .i64 t325)) (fun _ hk => by first | exact hk.2 | grind) (.int .i64 t326)) (fun _ hk => by first | exact hk.2 | grind) (.slice Ao124 t327.length co124)) (fun _ h_ => h_.1))) hb); have n1_ := Aside0.mk (Kd.R_below (by (with_reducible repeat (first | apply Kd.R_alloc | apply Kd.R_drewN | apply Kd.R_drew)); exact (Kd.R_mono (Kd.R_far (p := ⟨gb331, 4, none⟩) (Kd.R_far (p := ⟨gb331, 3, none⟩) (Kd.R_far (p := ⟨gb331, 2, none⟩) (Kd.R_far (p := ⟨gb331, 1, none⟩) (Kd.R_far (p := ⟨gb331, 0, none⟩) (Kd.R_types HO_292004.out BK331.out (by decide)) (fun _ hk => by first | exact hk.2 | grind) (.int .i64 t323)) (fun _ hk => by first | exact hk.2 | grind) (.int .i64 t324)) (fun _ hk => by first | exact hk.2 | grind) (.int .i64 t325)) (fun _ hk => by first | exact hk.2 | grind) (.int .i64 t326)) (fun _ hk => by first | exact hk.2 | grind) (.slice Ao124 t327.length co124)) (fun _ h_ => h_.1))) hb); have n2_ := Aside0.mk (Kd.R_below (by (with_reducible repeat (first | apply Kd.R_alloc | apply Kd.R_drewN | apply Kd.R_drew)); exact (Kd.R_mono (Kd.R_far (p := ⟨gb331, 4, none⟩) (Kd.R_far (p := ⟨gb331, 3, none⟩) (Kd.R_far (p := ⟨gb331, 2, none⟩) (Kd.R_far (p := ⟨gb331, 1, none⟩) (Kd.R_far (p := ⟨gb331, 0, none⟩) (Kd.R_types HO_301004.out BK331.out (by decide)) (fun _ hk => by first | exact hk.2 | grind) (.int .i64 t323)) (fun _ hk => by first | exact hk.2 | grind) (.int .i64 t324)) (fun _ hk => by first | exact hk.2 | grind) (.int .i64 t325)) (fun _ hk => by first | exact hk.2 | grind) (.int .i64 t326)) (fun _ hk => by first | exact hk.2 | grind) (.slice Ao124 t327.length co124)) (fun _ h_ => h_.1))) hb); have n3_ := Aside0.mk (Kd.R_below (by (with_reducible repeat (first | apply Kd.R_alloc | apply Kd.R_drewN | apply Kd.R_drew)); exact (Kd.R_mono (Kd.R_far (p := ⟨gb331, 4, none⟩) (Kd.R_far (p := ⟨gb331, 3, none⟩) (Kd.R_far (p := ⟨gb331, 2, none⟩) (Kd.R_far (p := ⟨gb331, 1, none⟩) (Kd.R_far (p := ⟨gb331, 0, none⟩) (Kd.R_types HO322.out BK331.out (by decide)) (fun _ hk => by first | exact hk.2 | grind) (.int .i64 t323)) (fun _ hk => by first | exact hk.2 | grind) (.int .i64 t324)) (fun _ hk => by first | exact hk.2 | grind) (.int .i64 t325)) (fun _ hk => by first | exact hk.2 | grind) (.int .i64 t326)) (fun _ hk => by first | exact hk.2 | grind) (.slice Ao124 t327.length co124)) (fun _ h_ => h_.1))) hb); have n4_ := Aside0.mk (Kd.R_below (by (with_reducible repeat (first | apply Kd.R_alloc | apply Kd.R_drewN | apply Kd.R_drew)); exact (Kd.R_mono (Kd.R_far (p := ⟨gb331, 4, none⟩) (Kd.R_far (p := ⟨gb331, 3, none⟩) (Kd.R_far (p := ⟨gb331, 2, none⟩) (Kd.R_far (p := ⟨gb331, 1, none⟩) (Kd.R_far (p := ⟨gb331, 0, none⟩) (Kd.R_types HO329.out BK331.out (by decide)) (fun _ hk => by first | exact hk.2 | grind) (.int .i64 t323)) (fun _ hk => by first | exact hk.2 | grind) (.int .i64 t324)) (fun _ hk => by first | exact hk.2 | grind) (.int .i64 t325)) (fun _ hk => by first | exact hk.2 | grind) (.int .i64 t326)) (fun _ hk => by first | exact hk.2 | grind) (.slice Ao124 t327.length co124)) (fun _ h_ => h_.1))) hb); have n5_ := Aside0.mk (blk_below (g := gb266) (o := .cells #[.int .i64 a0_0, .int .i64 a0_1, .int .i64 a0_2, .int .i64 a0_3, .slice A0_4 l0_4.length c0_4] 26 (0, 0)) (by (with_reducible repeat (first | refine blk_drewN ?_ _ | refine blk_drew ?_ | refine blk_alloc ?_ _)); refine blk_far ?_ NB266_331.out _; (with_reducible repeat (first | refine blk_drewN ?_ _ | refine blk_drew ?_ | refine blk_alloc ?_ _)); refine blk_far ?_ NB266_331.out _; (with_reducible repeat (first | refine blk_drewN ?_ _ | refine blk_drew ?_ | refine blk_alloc ?_ _)); refine blk_far ?_ NB266_331.out _; (with_reducible repeat (first | refine blk_drewN ?_ _ | refine blk_drew ?_ | refine blk_alloc ?_ _)); refine blk_far ?_ NB266_331.out _; (with_reducible repeat (first | refine blk_drewN ?_ _ | refine blk_drew ?_ | refine blk_alloc ?_ _)); refine blk_far ?_ NB266_331.out _; exact bk_ BK266) hb); have n6_ := Aside0.mk (blk_below (g := gb283) (o := .cells #[.int .i64 t275, .int .i64 t276, .int .i64 t277, .int .i64 t278, .slice Ao23 t279.length co23] 32 (0, 0)) (by (with_reducible repeat (first | refine blk_drewN ?_ _ | refine blk_drew ?_ | refine blk_alloc ?_ _)); refine blk_far ?_ NB283_331.out _; (with_reducible repeat (first | refine blk_drewN ?_ _ | refine blk_drew ?_ | refine blk_alloc ?_ _)); refine blk_far ?_ NB283_331.out _; (with_reducible repeat (first | refine blk_drewN ?_ _ | refine blk_drew ?_ | refine blk_alloc ?_ _)); refine blk_far ?_ NB283_331.out _; (with_reducible repeat (first | refine blk_drewN ?_ _ | refine blk_drew ?_ | refine blk_alloc ?_ _)); refine blk_far ?_ NB283_331.out _; (with_reducible repeat (first | refine blk_drewN ?_ _ | refine blk_drew ?_ | refine blk_alloc ?_ _)); refine blk_far ?_ NB283_331.out _; exact bk_ BK283) hb); have n7_ := Aside0.mk (blk_below (g := gb291) (o := .cells #[.int .i64 t284, .int .i64 t285, .int .i64 t286, .int .i64 t287, .slice Ao30 t311.length co30] 32 (0, 0)) (by (with_reducible repeat (first | refine blk_drewN ?_ _ | refine blk_drew ?_ | refine blk_alloc ?_ _)); refine blk_far ?_ NB291_331.out _; (with_reducible repeat (first | refine blk_drewN ?_ _ | refine blk_drew ?_ | refine blk_alloc ?_ _)); refine blk_far ?_ NB291_331.out _; (with_reducible repeat (first | refine blk_drewN ?_ _ | refine blk_drew ?_ | refine blk_alloc ?_ _)); refine blk_far ?_ NB291_331.out _; (with_reducible repeat (first | refine blk_drewN ?_ _ | refine blk_drew ?_ | refine blk_alloc ?_ _)); refine blk_far ?_ NB291_331.out _; (with_reducible repeat (first | refine blk_drewN ?_ _ | refine blk_drew ?_ | refine blk_alloc ?_ _)); refine blk_far ?_ NB291_331.out _; exact bk_ BK291) hb); have n8_ := Aside0.mk (blk_below (g := gb300) (o := .cells #[.int .i64 t292, .int .i64 t293, .int .i64 t294, .int .i64 t295, .slice Ao37 t296.length co37] 32 (0, 0)) (by (with_reducible repeat (first | refine blk_drewN ?_ _ | refine blk_drew ?_ | refine blk_alloc ?_ _)); refine blk_far ?_ NB300_331.out _; (with_reducible repeat (first | refine blk_drewN ?_ _ | refine blk_drew ?_ | refine blk_alloc ?_ _)); refine blk_far ?_ NB300_331.out _; (with_reducible repeat (first | refine blk_drewN ?_ _ | refine blk_drew ?_ | refine blk_alloc ?_ _)); refine blk_far ?_ NB300_331.out _; (with_reducible repeat (first | refine blk_drewN ?_ _ | refine blk_drew ?_ | refine blk_alloc ?_ _)); refine blk_far ?_ NB300_331.out _; (with_reducible repeat (first | refine blk_drewN ?_ _ | refine blk_drew ?_ | refine blk_alloc ?_ _)); refine blk_far ?_ NB300_331.out _; exact bk_ BK300) hb); have n9_ := Aside0.mk (blk_below (g := gb331) (o := .cells #[.int .i64 t323, .int .i64 t324, .int .i64 t325, .int .i64 t326, .slice Ao124 t327.length co124] 32 (0, 0)) (by (with_reducible repeat (first | refine blk_drewN ?_ _ | refine blk_drew ?_ | refine blk_alloc ?_ _)); refine blk_put (cs := #[.int .i64 t323, .int .i64 t324, .int .i64 t325, .int .i64 t326, .slice none 0 0]) ?_ 4 _ rfl; (with_reducible repeat (first | refine blk_drewN ?_ _ | refine blk_drew ?_ | refine blk_alloc ?_ _)); refine blk_put (cs := #[.int .i64 t323, .int .i64 t324, .int .i64 t325, .int .i64 0, .slice none 0 0]) ?_ 3 _ rfl; (with_reducible repeat (first | refine blk_drewN ?_ _ | refine blk_drew ?_ | refine blk_alloc ?_ _)); refine blk_put (cs := #[.int .i64 t323, .int .i64 t324, .int .i64 0, .int .i64 0, .slice none 0 0]) ?_ 2 _ rfl; (with_reducible repeat (first | refine blk_drewN ?_ _ | refine blk_drew ?_ | refine blk_alloc ?_ _)); refine blk_put (cs := #[.int .i64 t323, .int .i64 0, .int .i64 0, .int .i64 0, .slice none 0 0]) ?_ 1 _ rfl; (with_reducible repeat (first | refine blk_drewN ?_ _ | refine blk_drew ?_ | refine blk_alloc ?_ _)); refine blk_put (cs := #[.int .i64 0, .int .i64 0, .int .i64 0, .int .i64 0, .slice none 0 0]) ?_ 0 _ rfl; exact bk_ BK331) hb); have n10_ := Aside0.mk (below_step (by repeat (first | (with_reducible first | exact HB.out | apply below_alloc | apply pw_below_drewN | apply below_drew1 | refine below_set ?_ GE266.out | refine below_set ?_ GE283.out | refine below_set ?_ GE291.out | refine below_set ?_ GE300.out | refine below_set ?_ GE331.out) | exact HB.out)) hb); clear HO_284004; clear HO_292004; clear HO_301004; clear HO322; clear HO329; clear BK266; clear BK283; clear BK291; clear BK300; clear BK331; clear HB; have HO_284004 := n0_; have HO_292004 := n1_; have HO_301004 := n2_; have HO322 := n3_; have HO329 := n4_; have BK266 := n5_; have BK283 := n6_; have BK291 := n7_; have BK300 := n8_; have BK331 := n9_; have HB := n10_; clear n0_ n1_ n2_ n3_ n4_ n5_ n6_ n7_ n8_ n9_ n10_; (try clear hb); (try clear hb2); (try clear hk); (try clear hi)))
             go_meet
             case rel => exact ⟨_, ((t330 != t282)), (by first | rfl | (simp; done) | (simp [*]; done)), H', ⟨by have := HJ11.out; have := HJ60.out; first | omega | exact Nat.le_refl _⟩, ⟨by (try simp only [hl292004_60]); (with_reducible repeat (first | apply Kd.R_alloc | apply Kd.R_drewN | apply Kd.R_drew)); exact Kd.R_mono HO_284004.out (fun _ hk => by first | exact ⟨hk.1.1.1, ⟨hk.1.1.2, hk.2⟩⟩ | grind)⟩, ⟨by (try simp only [hl292004_60]); (with_reducible repeat (first | apply Kd.R_alloc | apply Kd.R_drewN | apply Kd.R_drew)); exact Kd.R_mono HO_292004.out (fun _ hk => by first | exact ⟨hk.1.1.1, ⟨hk.1.1.2, hk.2⟩⟩ | grind)⟩, ⟨by (try simp only [hl292004_60]); (with_reducible repeat (first | apply Kd.R_alloc | apply Kd.R_drewN | apply Kd.R_drew)); exact Kd.R_mono HO_301004.out (fun _ hk => by first | exact ⟨hk.1.1.1, ⟨hk.1.1.2, hk.2⟩⟩ | grind)⟩, ⟨by (try simp only [hl292004_60]); (with_reducible repeat (first | apply Kd.R_alloc | apply Kd.R_drewN | apply Kd.R_drew)); exact Kd.R_mono HO329.out (fun _ hk => by first | exact ⟨hk.1.1.1.2, ⟨hk.1.1.2, hk.1.2⟩⟩ | grind)⟩, ⟨by (try simp only [hl292004_60]); exact bk_ BK266⟩, ⟨by (try simp only [hl292004_60]); exact bk_ BK283⟩, ⟨by (try simp only [hl292004_60]); exact bk_ BK291⟩, ⟨by (try simp only [hl292004_60]); exact bk_ BK300⟩, ⟨by (try simp only [hl292004_60]); exact bk_ BK331⟩, ⟨by repeat (first | (with_reducible first | exact HB.out | apply below_alloc | apply pw_below_drewN | apply below_drew1 | refine below_set ?_ GE266.out | refine below_set ?_ GE283.out | refine below_set ?_ GE291.out | refine below_set ?_ GE300.out | refine below_set ?_ GE331.out) | exact HB.out)⟩⟩
            ·replace c126 := Bool.eq_false_iff.mpr c126
             subst c126
             have H1 : (laws_FnExactFairRest.j2 kj60 t313 true t292 t293 t294 t295 t314) = some r := by rw [if_neg (show ¬ (false = true) by decide)] at H; exact H
             clear H
             have H := H1
             clear H1
             have H' := Aside0.mk H
             clear H
             have hnb137 := NB331_266.out
             have hnc137 := NB266_331.out
             have hnb138 := NB331_283.out
             have hnc138 := NB283_331.out
             have hnb139 := NB331_291.out
             have hnc139 := NB291_331.out
             have hnb140 := NB331_300.out
             have hnc140 := NB300_331.out
             have hcz141_0 : w118.cell? ⟨gb331, 0, none⟩ = some (.int .i64 0) := (blk_cell BK331.out 0).trans rfl
             have hcz141_1 : w118.cell? ⟨gb331, 1, none⟩ = some (.int .i64 0) := (blk_cell BK331.out 1).trans rfl
             have hcz141_2 : w118.cell? ⟨gb331, 2, none⟩ = some (.int .i64 0) := (blk_cell BK331.out 2).trans rfl
             have hcz141_3 : w118.cell? ⟨gb331, 3, none⟩ = some (.int .i64 0) := (blk_cell BK331.out 3).trans rfl
             have hcz141_4 : w118.cell? ⟨gb331, 4, none⟩ = some (.slice none 0 0) := (blk_cell BK331.out 4).trans rfl
             have hfz141_0 := blk_frozen BK331.out 0
             have hfz141_1 := blk_frozen BK331.out 1
             have hfz141_2 := blk_frozen BK331.out 2
             have hfz141_3 := blk_frozen BK331.out 3
             have hfz141_4 := blk_frozen BK331.out 4
             have hnb142 := NB283_266.out
             have hnc142 := NB266_283.out
             have hnb143 := NB283_291.out
             have hnc143 := NB291_283.out
             have hnb144 := NB283_300.out
             have hnc144 := NB300_283.out
             have hcz145_0 : w118.cell? ⟨gb283, 0, none⟩ = some (.int .i64 t275) := (blk_cell BK283.out 0).trans rfl
             have hcz145_1 : w118.cell? ⟨gb283, 1, none⟩ = some (.int .i64 t276) := (blk_cell BK283.out 1).trans rfl
             have hcz145_2 : w118.cell? ⟨gb283, 2, none⟩ = some (.int .i64 t277) := (blk_cell BK283.out 2).trans rfl
             have hcz145_3 : w118.cell? ⟨gb283, 3, none⟩ = some (.int .i64 t278) := (blk_cell BK283.out 3).trans rfl
             have hcz145_4 : w118.cell? ⟨gb283, 4, none⟩ = some (.slice Ao23 t279.length co23) := (blk_cell BK283.out 4).trans rfl
             have hfz145_0 := blk_frozen BK283.out 0
             have hfz145_1 := blk_frozen BK283.out 1
             have hfz145_2 := blk_frozen BK283.out 2
             have hfz145_3 := blk_frozen BK283.out 3
             have hfz145_4 := blk_frozen BK283.out 4
             go_wp2_with (first | ((with_reducible refine gate_callee (f := 19) rfl ?_); refine goesL_ (some 86) rfl rfl Try.func19 (by kernel_rfl) rfl #[.agg #[.int .i64 t323, .int .i64 t324, .int .i64 t325, .int .i64 t326, .slice Ao124 t327.length co124], .agg #[.int .i64 t275, .int .i64 t276, .int .i64 t277, .int .i64 t278, .slice Ao23 t279.length co23]] rfl mt_ ?_; (with_reducible refine (laws_eqFair.calls kj60 t323 t324 t325 t326 _ _ t327 t275 t276 t277 t278 _ _ t279 false _ ?side1 ?side2 ?side3 ?side4 A125.out).mono ?_); (case side1 => refine (Kd.R_reads' (e := 38) (base := w.heap.size) (ok := fun k_ => ((((True ∧ some k_ ≠ (.slice Ao23 t279.length co23 : Value).ownBlock) ∧ some k_ ≠ (.slice Ao30 t311.length co30 : Value).ownBlock) ∧ some k_ ≠ (.slice Ao37 t296.length co37 : Value).ownBlock) ∧ some k_ ≠ (.slice Ao116 t320.length co116 : Value).ownBlock)) (n := t327.length) (c := co124) ?_).2.2; exact (by (with_reducible repeat (first | apply Kd.R_alloc | apply Kd.R_drewN | apply Kd.R_drew)); exact (Kd.R_mono (Kd.R_far (p := ⟨gb331, 4, none⟩) (Kd.R_far (p := ⟨gb331, 3, none⟩) (Kd.R_far (p := ⟨gb331, 2, none⟩) (Kd.R_far (p := ⟨gb331, 1, none⟩) (Kd.R_far (p := ⟨gb331, 0, none⟩) (Kd.R_types HO329.out BK331.out (by decide)) (fun _ hk => by first | exact hk.2 | grind) (.int .i64 t323)) (fun _ hk => by first | exact hk.2 | grind) (.int .i64 t324)) (fun _ hk => by first | exact hk.2 | grind) (.int .i64 t325)) (fun _ hk => by first | exact hk.2 | grind) (.int .i64 t326)) (fun _ hk => by first | exact hk.2 | grind) (.slice Ao124 t327.length co124)) (fun _ h_ => h_.1)))); (case side2 => exact (Kd.R_reads' HO329.out).2.1); (case side3 => refine (Kd.R_reads' (e := 38) (base := w.heap.size) (ok := fun k_ => (((some k_ ≠ (.slice Ao30 t311.length co30 : Value).ownBlock ∧ some k_ ≠ (.slice Ao37 t296.length co37 : Value).ownBlock) ∧ some k_ ≠ (.slice Ao116 t320.length co116 : Value).ownBlock) ∧ some k_ ≠ (.slice Ao124 t327.length co124 : Value).ownBlock)) (n := t279.length) (c := co23) ?_).2.2; exact (by (with_reducible repeat (first | apply Kd.R_alloc | apply Kd.R_drewN | apply Kd.R_drew)); exact (Kd.R_mono (Kd.R_far (p := ⟨gb331, 4, none⟩) (Kd.R_far (p := ⟨gb331, 3, none⟩) (Kd.R_far (p := ⟨gb331, 2, none⟩) (Kd.R_far (p := ⟨gb331, 1, none⟩) (Kd.R_far (p := ⟨gb331, 0, none⟩) (Kd.R_types HO_284004.out BK331.out (by decide)) (fun _ hk => by first | exact hk.2 | grind) (.int .i64 t323)) (fun _ hk => by first | exact hk.2 | grind) (.int .i64 t324)) (fun _ hk => by first | exact hk.2 | grind) (.int .i64 t325)) (fun _ hk => by first | exact hk.2 | grind) (.int .i64 t326)) (fun _ hk => by first | exact hk.2 | grind) (.slice Ao124 t327.length co124)) (fun _ h_ => h_.1)))); (case side4 => exact (Kd.R_reads' HO_284004.out).2.1); rintro e w146 ⟨rfl, hb⟩; refine ⟨_, rfl, ?_⟩; have n0_ := Aside0.mk (Kd.R_below (by (with_reducible repeat (first | apply Kd.R_alloc | apply Kd.R_drewN | apply Kd.R_drew)); exact (Kd.R_mono (Kd.R_far (p := ⟨gb331, 4, none⟩) (Kd.R_far (p := ⟨gb331, 3, none⟩) (Kd.R_far (p := ⟨gb331, 2, none⟩) (Kd.R_far (p := ⟨gb331, 1, none⟩) (Kd.R_far (p := ⟨gb331, 0, none⟩) (Kd.R_types HO_284004.out BK331.out (by decide)) (fun _ hk => by first | exact hk.2 | grind) (.int .i64 t323)) (fun _ hk => by first | exact hk.2 | grind) (.int .i64 t324)) (fun _ hk => by first | exact hk.2 | grind) (.int .i64 t325)) (fun _ hk => by first | exact hk.2 | grind) (.int .i64 t326)) (fun _ hk => by first | exact hk.2 | grind) (.slice Ao124 t327.length co124)) (fun _ h_ => h_.1))) hb); have n1_ := Aside0.mk (Kd.R_below (by (with_reducible repeat (first | apply Kd.R_alloc | apply Kd.R_drewN | apply Kd.R_drew)); exact (Kd.R_mono (Kd.R_far (p := ⟨gb331, 4, none⟩) (Kd.R_far (p := ⟨gb331, 3, none⟩) (Kd.R_far (p := ⟨gb331, 2, none⟩) (Kd.R_far (p := ⟨gb331, 1, none⟩) (Kd.R_far (p := ⟨gb331, 0, none⟩) (Kd.R_types HO_292004.out BK331.out (by decide)) (fun _ hk => by first | exact hk.2 | grind) (.int .i64 t323)) (fun _ hk => by first | exact hk.2 | grind) (.int .i64 t324)) (fun _ hk => by first | exact hk.2 | grind) (.int .i64 t325)) (fun _ hk => by first | exact hk.2 | grind) (.int .i64 t326)) (fun _ hk => by first | exact hk.2 | grind) (.slice Ao124 t327.length co124)) (fun _ h_ => h_.1))) hb); have n2_ := Aside0.mk (Kd.R_below (by (with_reducible repeat (first | apply Kd.R_alloc | apply Kd.R_drewN | apply Kd.R_drew)); exact (Kd.R_mono (Kd.R_far (p := ⟨gb331, 4, none⟩) (Kd.R_far (p := ⟨gb331, 3, none⟩) (Kd.R_far (p := ⟨gb331, 2, none⟩) (Kd.R_far (p := ⟨gb331, 1, none⟩) (Kd.R_far (p := ⟨gb331, 0, none⟩) (Kd.R_types HO_301004.out BK331.out (by decide)) (fun _ hk => by first | exact hk.2 | grind) (.int .i64 t323)) (fun _ hk => by first | exact hk.2 | grind) (.int .i64 t324)) (fun _ hk => by first | exact hk.2 | grind) (.int .i64 t325)) (fun _ hk => by first | exact hk.2 | grind) (.int .i64 t326)) (fun _ hk => by first | exact hk.2 | grind) (.slice Ao124 t327.length co124)) (fun _ h_ => h_.1))) hb); have n3_ := Aside0.mk (Kd.R_below (by (with_reducible repeat (first | apply Kd.R_alloc | apply Kd.R_drewN | apply Kd.R_drew)); exact (Kd.R_mono (Kd.R_far (p := ⟨gb331, 4, none⟩) (Kd.R_far (p := ⟨gb331, 3, none⟩) (Kd.R_far (p := ⟨gb331, 2, none⟩) (Kd.R_far (p := ⟨gb331, 1, none⟩) (Kd.R_far (p := ⟨gb331, 0, none⟩) (Kd.R_types HO322.out BK331.out (by decide)) (fun _ hk => by first | exact hk.2 | grind) (.int .i64 t323)) (fun _ hk => by first | exact hk.2 | grind) (.int .i64 t324)) (fun _ hk => by first | exact hk.2 | grind) (.int .i64 t325)) (fun _ hk => by first | exact hk.2 | grind) (.int .i64 t326)) (fun _ hk => by first | exact hk.2 | grind) (.slice Ao124 t327.length co124)) (fun _ h_ => h_.1))) hb); have n4_ := Aside0.mk (Kd.R_below (by (with_reducible repeat (first | apply Kd.R_alloc | apply Kd.R_drewN | apply Kd.R_drew)); exact (Kd.R_mono (Kd.R_far (p := ⟨gb331, 4, none⟩) (Kd.R_far (p := ⟨gb331, 3, none⟩) (Kd.R_far (p := ⟨gb331, 2, none⟩) (Kd.R_far (p := ⟨gb331, 1, none⟩) (Kd.R_far (p := ⟨gb331, 0, none⟩) (Kd.R_types HO329.out BK331.out (by decide)) (fun _ hk => by first | exact hk.2 | grind) (.int .i64 t323)) (fun _ hk => by first | exact hk.2 | grind) (.int .i64 t324)) (fun _ hk => by first | exact hk.2 | grind) (.int .i64 t325)) (fun _ hk => by first | exact hk.2 | grind) (.int .i64 t326)) (fun _ hk => by first | exact hk.2 | grind) (.slice Ao124 t327.length co124)) (fun _ h_ => h_.1))) hb); have n5_ := Aside0.mk (blk_below (g := gb266) (o := .cells #[.int .i64 a0_0, .int .i64 a0_1, .int .i64 a0_2, .int .i64 a0_3, .slice A0_4 l0_4.length c0_4] 26 (0, 0)) (by (with_reducible repeat (first | refine blk_drewN ?_ _ | refine blk_drew ?_ | refine blk_alloc ?_ _)); refine blk_far ?_ NB266_331.out _; (with_reducible repeat (first | refine blk_drewN ?_ _ | refine blk_drew ?_ | refine blk_alloc ?_ _)); refine blk_far ?_ NB266_331.out _; (with_reducible repeat (first | refine blk_drewN ?_ _ | refine blk_drew ?_ | refine blk_alloc ?_ _)); refine blk_far ?_ NB266_331.out _; (with_reducible repeat (first | refine blk_drewN ?_ _ | refine blk_drew ?_ | refine blk_alloc ?_ _)); refine blk_far ?_ NB266_331.out _; (with_reducible repeat (first | refine blk_drewN ?_ _ | refine blk_drew ?_ | refine blk_alloc ?_ _)); refine blk_far ?_ NB266_331.out _; exact bk_ BK266) hb); have n6_ := Aside0.mk (blk_below (g := gb283) (o := .cells #[.int .i64 t275, .int .i64 t276, .int .i64 t277, .int .i64 t278, .slice Ao23 t279.length co23] 32 (0, 0)) (by (with_reducible repeat (first | refine blk_drewN ?_ _ | refine blk_drew ?_ | refine blk_alloc ?_ _)); refine blk_far ?_ NB283_331.out _; (with_reducible repeat (first | refine blk_drewN ?_ _ | refine blk_drew ?_ | refine blk_alloc ?_ _)); refine blk_far ?_ NB283_331.out _; (with_reducible repeat (first | refine blk_drewN ?_ _ | refine blk_drew ?_ | refine blk_alloc ?_ _)); refine blk_far ?_ NB283_331.out _; (with_reducible repeat (first | refine blk_drewN ?_ _ | refine blk_drew ?_ | refine blk_alloc ?_ _)); refine blk_far ?_ NB283_331.out _; (with_reducible repeat (first | refine blk_drewN ?_ _ | refine blk_drew ?_ | refine blk_alloc ?_ _)); refine blk_far ?_ NB283_331.out _; exact bk_ BK283) hb); have n7_ := Aside0.mk (blk_below (g := gb291) (o := .cells #[.int .i64 t284, .int .i64 t285, .int .i64 t286, .int .i64 t287, .slice Ao30 t311.length co30] 32 (0, 0)) (by (with_reducible repeat (first | refine blk_drewN ?_ _ | refine blk_drew ?_ | refine blk_alloc ?_ _)); refine blk_far ?_ NB291_331.out _; (with_reducible repeat (first | refine blk_drewN ?_ _ | refine blk_drew ?_ | refine blk_alloc ?_ _)); refine blk_far ?_ NB291_331.out _; (with_reducible repeat (first | refine blk_drewN ?_ _ | refine blk_drew ?_ | refine blk_alloc ?_ _)); refine blk_far ?_ NB291_331.out _; (with_reducible repeat (first | refine blk_drewN ?_ _ | refine blk_drew ?_ | refine blk_alloc ?_ _)); refine blk_far ?_ NB291_331.out _; (with_reducible repeat (first | refine blk_drewN ?_ _ | refine blk_drew ?_ | refine blk_alloc ?_ _)); refine blk_far ?_ NB291_331.out _; exact bk_ BK291) hb); have n8_ := Aside0.mk (blk_below (g := gb300) (o := .cells #[.int .i64 t292, .int .i64 t293, .int .i64 t294, .int .i64 t295, .slice Ao37 t296.length co37] 32 (0, 0)) (by (with_reducible repeat (first | refine blk_drewN ?_ _ | refine blk_drew ?_ | refine blk_alloc ?_ _)); refine blk_far ?_ NB300_331.out _; (with_reducible repeat (first | refine blk_drewN ?_ _ | refine blk_drew ?_ | refine blk_alloc ?_ _)); refine blk_far ?_ NB300_331.out _; (with_reducible repeat (first | refine blk_drewN ?_ _ | refine blk_drew ?_ | refine blk_alloc ?_ _)); refine blk_far ?_ NB300_331.out _; (with_reducible repeat (first | refine blk_drewN ?_ _ | refine blk_drew ?_ | refine blk_alloc ?_ _)); refine blk_far ?_ NB300_331.out _; (with_reducible repeat (first | refine blk_drewN ?_ _ | refine blk_drew ?_ | refine blk_alloc ?_ _)); refine blk_far ?_ NB300_331.out _; exact bk_ BK300) hb); have n9_ := Aside0.mk (blk_below (g := gb331) (o := .cells #[.int .i64 t323, .int .i64 t324, .int .i64 t325, .int .i64 t326, .slice Ao124 t327.length co124] 32 (0, 0)) (by (with_reducible repeat (first | refine blk_drewN ?_ _ | refine blk_drew ?_ | refine blk_alloc ?_ _)); refine blk_put (cs := #[.int .i64 t323, .int .i64 t324, .int .i64 t325, .int .i64 t326, .slice none 0 0]) ?_ 4 _ rfl; (with_reducible repeat (first | refine blk_drewN ?_ _ | refine blk_drew ?_ | refine blk_alloc ?_ _)); refine blk_put (cs := #[.int .i64 t323, .int .i64 t324, .int .i64 t325, .int .i64 0, .slice none 0 0]) ?_ 3 _ rfl; (with_reducible repeat (first | refine blk_drewN ?_ _ | refine blk_drew ?_ | refine blk_alloc ?_ _)); refine blk_put (cs := #[.int .i64 t323, .int .i64 t324, .int .i64 0, .int .i64 0, .slice none 0 0]) ?_ 2 _ rfl; (with_reducible repeat (first | refine blk_drewN ?_ _ | refine blk_drew ?_ | refine blk_alloc ?_ _)); refine blk_put (cs := #[.int .i64 t323, .int .i64 0, .int .i64 0, .int .i64 0, .slice none 0 0]) ?_ 1 _ rfl; (with_reducible repeat (first | refine blk_drewN ?_ _ | refine blk_drew ?_ | refine blk_alloc ?_ _)); refine blk_put (cs := #[.int .i64 0, .int .i64 0, .int .i64 0, .int .i64 0, .slice none 0 0]) ?_ 0 _ rfl; exact bk_ BK331) hb); have n10_ := Aside0.mk (below_step (by repeat (first | (with_reducible first | exact HB.out | apply below_alloc | apply pw_below_drewN | apply below_drew1 | refine below_set ?_ GE266.out | refine below_set ?_ GE283.out | refine below_set ?_ GE291.out | refine below_set ?_ GE300.out | refine below_set ?_ GE331.out) | exact HB.out)) hb); clear HO_284004; clear HO_292004; clear HO_301004; clear HO322; clear HO329; clear BK266; clear BK283; clear BK291; clear BK300; clear BK331; clear HB; have HO_284004 := n0_; have HO_292004 := n1_; have HO_301004 := n2_; have HO322 := n3_; have HO329 := n4_; have BK266 := n5_; have BK283 := n6_; have BK291 := n7_; have BK300 := n8_; have BK331 := n9_; have HB := n10_; clear n0_ n1_ n2_ n3_ n4_ n5_ n6_ n7_ n8_ n9_ n10_; (try clear hb); (try clear hb2); (try clear hk); (try clear hi)))
             go_meet
             case rel => exact ⟨_, (true), (by first | rfl | (simp; done) | (simp [*]; done)), H', ⟨by have := HJ11.out; have := HJ60.out; first | omega | exact Nat.le_refl _⟩, ⟨by (try simp only [hl292004_60]); (with_reducible repeat (first | apply Kd.R_alloc | apply Kd.R_drewN | apply Kd.R_drew)); exact Kd.R_mono HO_284004.out (fun _ hk => by first | exact ⟨hk.1.1.1, ⟨hk.1.1.2, hk.2⟩⟩ | grind)⟩, ⟨by (try simp only [hl292004_60]); (with_reducible repeat (first | apply Kd.R_alloc | apply Kd.R_drewN | apply Kd.R_drew)); exact Kd.R_mono HO_292004.out (fun _ hk => by first | exact ⟨hk.1.1.1, ⟨hk.1.1.2, hk.2⟩⟩ | grind)⟩, ⟨by (try simp only [hl292004_60]); (with_reducible repeat (first | apply Kd.R_alloc | apply Kd.R_drewN | apply Kd.R_drew)); exact Kd.R_mono HO_301004.out (fun _ hk => by first | exact ⟨hk.1.1.1, ⟨hk.1.1.2, hk.2⟩⟩ | grind)⟩, ⟨by (try simp only [hl292004_60]); (with_reducible repeat (first | apply Kd.R_alloc | apply Kd.R_drewN | apply Kd.R_drew)); exact Kd.R_mono HO329.out (fun _ hk => by first | exact ⟨hk.1.1.1.2, ⟨hk.1.1.2, hk.1.2⟩⟩ | grind)⟩, ⟨by (try simp only [hl292004_60]); exact bk_ BK266⟩, ⟨by (try simp only [hl292004_60]); exact bk_ BK283⟩, ⟨by (try simp only [hl292004_60]); exact bk_ BK291⟩, ⟨by (try simp only [hl292004_60]); exact bk_ BK300⟩, ⟨by (try simp only [hl292004_60]); exact bk_ BK331⟩, ⟨by repeat (first | (with_reducible first | exact HB.out | apply below_alloc | apply pw_below_drewN | apply below_drew1 | refine below_set ?_ GE266.out | refine below_set ?_ GE283.out | refine below_set ?_ GE291.out | refine below_set ?_ GE300.out | refine below_set ?_ GE331.out) | exact HB.out)⟩⟩
           case rest =>
            clear HC104
            try clear c1
            try clear c2
            try clear p2
            try clear c3
            try clear c4
            try clear c4b0
            try clear c5
            try clear c6
            try clear c7
            try clear c8
            try clear c9
            try clear c10
            try clear c11
            try clear c12
            try clear c13
            try clear c14
            try clear c15
            try clear c17
            try clear c19
            try clear c21
            try clear c27
            try clear c28
            try clear c29
            try clear c30
            try clear c33
            try clear c34
            try clear c35
            try clear c39
            try clear c40
            try clear c41
            try clear c42
            try clear c44
            try clear c45
            try clear c48
            try clear c49
            try clear c50
            try clear c52
            try clear c53
            try clear c56
            try clear c59
            try clear c66
            try clear c67
            try clear c68
            try clear c71
            try clear c71b0
            try clear c73
            try clear c74
            try clear c75
            try clear c76
            try clear c78
            try clear c79
            try clear c82
            try clear c83
            try clear c84
            try clear c86
            try clear c87
            try clear c90
            try clear c93
            try clear c93b0
            try clear c94
            try clear c95
            try clear c96
            try clear c101
            try clear c101b0
            try clear c101b1
            try clear c105
            try clear c106
            try clear c107
            try clear c112
            try clear c113
            try clear c119
            try clear c120
            try clear c121
            try clear c122
            try clear c126
            try clear c127
            try clear c128
            try clear c129
            try clear c130
            try clear c132
            try clear c133
            try clear c134
            try clear c137
            try clear c138
            try clear c139
            try clear c140
            try clear c142
            try clear c143
            try clear c144
            try clear hcz108_0
            try clear hcz108_1
            try clear hcz108_2
            try clear hcz108_3
            try clear hcz108_4
            try clear hcz110_0
            try clear hcz110_1
            try clear hcz110_2
            try clear hcz110_3
            try clear hcz110_4
            try clear hcz114_0
            try clear hcz114_1
            try clear hcz114_2
            try clear hcz114_3
            try clear hcz114_4
            try clear hcz123_0
            try clear hcz123_1
            try clear hcz123_2
            try clear hcz123_3
            try clear hcz123_4
            try clear hcz131_0
            try clear hcz131_1
            try clear hcz131_2
            try clear hcz131_3
            try clear hcz131_4
            try clear hcz135_0
            try clear hcz135_1
            try clear hcz135_2
            try clear hcz135_3
            try clear hcz135_4
            try clear hcz141_0
            try clear hcz141_1
            try clear hcz141_2
            try clear hcz141_3
            try clear hcz141_4
            try clear hcz145_0
            try clear hcz145_1
            try clear hcz145_2
            try clear hcz145_3
            try clear hcz145_4
            try clear hcz14_0
            try clear hcz14_1
            try clear hcz14_2
            try clear hcz14_3
            try clear hcz14_4
            try clear hcz16_0
            try clear hcz16_1
            try clear hcz16_2
            try clear hcz16_3
            try clear hcz16_4
            try clear hcz22_0
            try clear hcz22_1
            try clear hcz22_2
            try clear hcz22_3
            try clear hcz22_4
            try clear hcz24_0
            try clear hcz24_1
            try clear hcz24_2
            try clear hcz24_3
            try clear hcz24_4
            try clear hcz29_0
            try clear hcz29_1
            try clear hcz29_2
            try clear hcz29_3
            try clear hcz29_4
            try clear hcz36_0
            try clear hcz36_1
            try clear hcz36_2
            try clear hcz36_3
            try clear hcz36_4
            try clear hcz43_0
            try clear hcz43_1
            try clear hcz43_2
            try clear hcz43_3
            try clear hcz43_4
            try clear hcz46_0
            try clear hcz46_1
            try clear hcz46_2
            try clear hcz46_3
            try clear hcz46_4
            try clear hcz51_0
            try clear hcz51_1
            try clear hcz51_2
            try clear hcz51_3
            try clear hcz51_4
            try clear hcz54_0
            try clear hcz54_1
            try clear hcz54_2
            try clear hcz54_3
            try clear hcz54_4
            try clear hcz69_0
            try clear hcz69_1
            try clear hcz69_2
            try clear hcz69_3
            try clear hcz69_4
            try clear hcz6_0
            try clear hcz6_1
            try clear hcz6_2
            try clear hcz6_3
            try clear hcz6_4
            try clear hcz77_0
            try clear hcz77_1
            try clear hcz77_2
            try clear hcz77_3
            try clear hcz77_4
            try clear hcz80_0
            try clear hcz80_1
            try clear hcz80_2
            try clear hcz80_3
            try clear hcz80_4
            try clear hcz85_0
            try clear hcz85_1
            try clear hcz85_2
            try clear hcz85_3
            try clear hcz85_4
            try clear hcz88_0
            try clear hcz88_1
            try clear hcz88_2
            try clear hcz88_3
            try clear hcz88_4
            try clear hcz97_0
            try clear hcz97_1
            try clear hcz97_2
            try clear hcz97_3
            try clear hcz97_4
            try clear hcz99_0
            try clear hcz99_1
            try clear hcz99_2
            try clear hcz99_3
            try clear hcz99_4
            try clear hfz108_0
            try clear hfz108_1
            try clear hfz108_2
            try clear hfz108_3
            try clear hfz108_4
            try clear hfz110_0
            try clear hfz110_1
            try clear hfz110_2
            try clear hfz110_3
            try clear hfz110_4
            try clear hfz114_0
            try clear hfz114_1
            try clear hfz114_2
            try clear hfz114_3
            try clear hfz114_4
            try clear hfz123_0
            try clear hfz123_1
            try clear hfz123_2
            try clear hfz123_3
            try clear hfz123_4
            try clear hfz131_0
            try clear hfz131_1
            try clear hfz131_2
            try clear hfz131_3
            try clear hfz131_4
            try clear hfz135_0
            try clear hfz135_1
            try clear hfz135_2
            try clear hfz135_3
            try clear hfz135_4
            try clear hfz141_0
            try clear hfz141_1
            try clear hfz141_2
            try clear hfz141_3
            try clear hfz141_4
            try clear hfz145_0
            try clear hfz145_1
            try clear hfz145_2
            try clear hfz145_3
            try clear hfz145_4
            try clear hfz14_0
            try clear hfz14_1
            try clear hfz14_2
            try clear hfz14_3
            try clear hfz14_4
            try clear hfz16_0
            try clear hfz16_1
            try clear hfz16_2
            try clear hfz16_3
            try clear hfz16_4
            try clear hfz22_0
            try clear hfz22_1
            try clear hfz22_2
            try clear hfz22_3
            try clear hfz22_4
            try clear hfz24_0
            try clear hfz24_1
            try clear hfz24_2
            try clear hfz24_3
            try clear hfz24_4
            try clear hfz29_0
            try clear hfz29_1
            try clear hfz29_2
            try clear hfz29_3
            try clear hfz29_4
            try clear hfz36_0
            try clear hfz36_1
            try clear hfz36_2
            try clear hfz36_3
            try clear hfz36_4
            try clear hfz43_0
            try clear hfz43_1
            try clear hfz43_2
            try clear hfz43_3
            try clear hfz43_4
            try clear hfz46_0
            try clear hfz46_1
            try clear hfz46_2
            try clear hfz46_3
            try clear hfz46_4
            try clear hfz51_0
            try clear hfz51_1
            try clear hfz51_2
            try clear hfz51_3
            try clear hfz51_4
            try clear hfz54_0
            try clear hfz54_1
            try clear hfz54_2
            try clear hfz54_3
            try clear hfz54_4
            try clear hfz69_0
            try clear hfz69_1
            try clear hfz69_2
            try clear hfz69_3
            try clear hfz69_4
            try clear hfz6_0
            try clear hfz6_1
            try clear hfz6_2
            try clear hfz6_3
            try clear hfz6_4
            try clear hfz77_0
            try clear hfz77_1
            try clear hfz77_2
            try clear hfz77_3
            try clear hfz77_4
            try clear hfz80_0
            try clear hfz80_1
            try clear hfz80_2
            try clear hfz80_3
            try clear hfz80_4
            try clear hfz85_0
            try clear hfz85_1
            try clear hfz85_2
            try clear hfz85_3
            try clear hfz85_4
            try clear hfz88_0
            try clear hfz88_1
            try clear hfz88_2
            try clear hfz88_3
            try clear hfz88_4
            try clear hfz97_0
            try clear hfz97_1
            try clear hfz97_2
            try clear hfz97_3
            try clear hfz97_4
            try clear hfz99_0
            try clear hfz99_1
            try clear hfz99_2
            try clear hfz99_3
            try clear hfz99_4
            try clear p2
            obtain ⟨kq, x92_103, rfl, HA, HJ103, HO_284004, HO_292004, HO_301004, HO_332004, BK266, BK283, BK291, BK300, BK331, HB⟩ := hcut
            have hl301004_103 := (Kd.R_reads' HO_301004.out).1
            rw [hl301004_103] at HO_301004
            (try simp only [hl301004_103])
            (try simp only [hl301004_103] at BK266)
            (try simp only [hl301004_103] at BK283)
            (try simp only [hl301004_103] at BK291)
            (try simp only [hl301004_103] at BK300)
            (try simp only [hl301004_103] at BK331)
            (try simp only [hl301004_103] at HO_284004)
            (try simp only [hl301004_103] at HO_292004)
            (try simp only [hl301004_103] at HO_332004)
            cases kq with
            | zero => exact absurd HA.out (by simp [laws_FnExactFairRest.j2])
            | succ kj103 =>
             have H := HA.out
             clear HA
             simp only [laws_FnExactFairRest.j2] at H
             by_cases c147 : x92_103 = true
             ·subst c147
              have H1 : (some false) = some r := by rw [if_pos rfl] at H; exact H
              clear H
              have H := H1
              clear H1
              obtain rfl := Option.some.inj H
              go_wp2
              go_ret
              exact ⟨by first | rfl | (simp [errW_none, errW_some] <;> rfl) | (simp [*, errW_none, errW_some] <;> rfl), by repeat (first | (with_reducible first | exact HB.out | apply below_alloc | apply pw_below_drewN | apply below_drew1 | refine below_set ?_ GE266.out | refine below_set ?_ GE283.out | refine below_set ?_ GE291.out | refine below_set ?_ GE300.out | refine below_set ?_ GE331.out) | exact HB.out)⟩
             ·replace c147 := Bool.eq_false_iff.mpr c147
              subst c147
              have H1 : ((laws_heldFair.f kj103 t292 t293 t294 t295 t314 1).bind fun t333 => (if t333 < 0 then (some false) else (if t333 = t313 then (some true) else (some false)))) = some r := by rw [if_neg (show ¬ (false = true) by decide)] at H; exact H
              clear H
              have H := H1
              clear H1
              replace H := Option.bind_eq_some_iff.mp H
              obtain ⟨t333, A1480, H⟩ := H
              replace H : (if t333 < 0 then (some false) else (if t333 = t313 then (some true) else (some false))) = some r := H
              have A148 := Aside0.mk A1480
              clear A1480
              by_cases c149 : t333 < 0
              ·rw [if_pos c149] at H
               have c149b0 : decide (t333 < 0) = true := decide_eq_true c149
               have c149b0l := c149b0
               (try simp only [hl292004_60, hl301004_103] at c149b0l)
               clear c149
               obtain rfl := Option.some.inj H
               have hnb150 := NB300_266.out
               have hnc150 := NB266_300.out
               have hnb151 := NB300_283.out
               have hnc151 := NB283_300.out
               have hnb152 := NB300_291.out
               have hnc152 := NB291_300.out
               have hnb153 := NB300_331.out
               have hnc153 := NB331_300.out
               have hcz154_0 : wc.cell? ⟨gb300, 0, none⟩ = some (.int .i64 t292) := (blk_cell BK300.out 0).trans rfl
               have hcz154_1 : wc.cell? ⟨gb300, 1, none⟩ = some (.int .i64 t293) := (blk_cell BK300.out 1).trans rfl
               have hcz154_2 : wc.cell? ⟨gb300, 2, none⟩ = some (.int .i64 t294) := (blk_cell BK300.out 2).trans rfl
               have hcz154_3 : wc.cell? ⟨gb300, 3, none⟩ = some (.int .i64 t295) := (blk_cell BK300.out 3).trans rfl
               have hcz154_4 : wc.cell? ⟨gb300, 4, none⟩ = some (.slice Ao37 t314.length co37) := (blk_cell BK300.out 4).trans rfl
               have hfz154_0 := blk_frozen BK300.out 0
               have hfz154_1 := blk_frozen BK300.out 1
               have hfz154_2 := blk_frozen BK300.out 2
               have hfz154_3 := blk_frozen BK300.out 3
               have hfz154_4 := blk_frozen BK300.out 4
               go_wp2_with (first | ((with_reducible refine gate_callee (f := 30) rfl ?_); refine goesL_ (some 95) rfl rfl Try.func30 (by kernel_rfl) rfl #[.agg #[.int .i64 t292, .int .i64 t293, .int .i64 t294, .int .i64 t295, .slice Ao37 t314.length co37], .int .i64 1] rfl mt_ ?_; (with_reducible refine (laws_heldFair.calls kj103 t292 t293 t294 t295 _ _ t314 1 t333 _ ?side1 ?side2 A148.out).mono ?_); (case side1 => repeat (first | exact (Kd.R_reads' HO_301004.out).2.2 | (with_reducible refine Kd.C_alloc ?_ _) | (with_reducible refine Kd.C_drewN ?_ _) | (with_reducible refine Kd.C_drew ?_))); (case side2 => exact (Kd.R_reads' HO_301004.out).2.1); rintro e w155 ⟨rfl, hb⟩; refine ⟨_, rfl, ?_⟩; have n0_ := Aside0.mk (Kd.R_below (kr_ HO_284004) hb); have n1_ := Aside0.mk (Kd.R_below (kr_ HO_292004) hb); have n2_ := Aside0.mk (Kd.R_below (kr_ HO_301004) hb); have n3_ := Aside0.mk (Kd.R_below (kr_ HO_332004) hb); have n4_ := Aside0.mk (blk_below (g := gb266) (o := .cells #[.int .i64 a0_0, .int .i64 a0_1, .int .i64 a0_2, .int .i64 a0_3, .slice A0_4 l0_4.length c0_4] 26 (0, 0)) (bk_ BK266) hb); have n5_ := Aside0.mk (blk_below (g := gb283) (o := .cells #[.int .i64 t275, .int .i64 t276, .int .i64 t277, .int .i64 t278, .slice Ao23 t279.length co23] 32 (0, 0)) (bk_ BK283) hb); have n6_ := Aside0.mk (blk_below (g := gb291) (o := .cells #[.int .i64 t284, .int .i64 t285, .int .i64 t286, .int .i64 t287, .slice Ao30 t311.length co30] 32 (0, 0)) (bk_ BK291) hb); have n7_ := Aside0.mk (blk_below (g := gb300) (o := .cells #[.int .i64 t292, .int .i64 t293, .int .i64 t294, .int .i64 t295, .slice Ao37 t314.length co37] 32 (0, 0)) (bk_ BK300) hb); have n8_ := Aside0.mk (blk_below (g := gb331) (o := .cells #[.int .i64 t323, .int .i64 t324, .int .i64 t325, .int .i64 t326, .slice Ao124 t327.length co124] 32 (0, 0)) (bk_ BK331) hb); have n9_ := Aside0.mk (below_step (by repeat (first | (with_reducible first | exact HB.out | apply below_alloc | apply pw_below_drewN | apply below_drew1 | refine below_set ?_ GE266.out | refine below_set ?_ GE283.out | refine below_set ?_ GE291.out | refine below_set ?_ GE300.out | refine below_set ?_ GE331.out) | exact HB.out)) hb); clear HO_284004; clear HO_292004; clear HO_301004; clear HO_332004; clear BK266; clear BK283; clear BK291; clear BK300; clear BK331; clear HB; have HO_284004 := n0_; have HO_292004 := n1_; have HO_301004 := n2_; have HO_332004 := n3_; have BK266 := n4_; have BK283 := n5_; have BK291 := n6_; have BK300 := n7_; have BK331 := n8_; have HB := n9_; clear n0_ n1_ n2_ n3_ n4_ n5_ n6_ n7_ n8_ n9_; (try clear hb); (try clear hb2); (try clear hk); (try clear hi)))
               go_ret
               exact ⟨by first | rfl | (simp [errW_none, errW_some] <;> rfl) | (simp [*, errW_none, errW_some] <;> rfl), by repeat (first | (with_reducible first | exact HB.out | apply below_alloc | apply pw_below_drewN | apply below_drew1 | refine below_set ?_ GE266.out | refine below_set ?_ GE283.out | refine below_set ?_ GE291.out | refine below_set ?_ GE300.out | refine below_set ?_ GE331.out) | exact HB.out)⟩
              ·rw [if_neg c149] at H
               have c149b0 : decide (t333 < 0) = false := decide_eq_false c149
               have c149b0l := c149b0
               (try simp only [hl292004_60, hl301004_103] at c149b0l)
               clear c149
               by_cases c156 : t333 = t313
               ·rw [if_pos c156] at H
                have c156b0 : (t333 == t313) = true := beq_iff_eq.mpr c156
                have c156b0l := c156b0
                (try simp only [hl292004_60, hl301004_103] at c156b0l)
                have c156b1 : (t333 != t313) = false := bne_eq_false_iff_eq.mpr c156
                have c156b1l := c156b1
                (try simp only [hl292004_60, hl301004_103] at c156b1l)
                clear c156
                obtain rfl := Option.some.inj H
                have hnb157 := NB300_266.out
                have hnc157 := NB266_300.out
                have hnb158 := NB300_283.out
                have hnc158 := NB283_300.out
                have hnb159 := NB300_291.out
                have hnc159 := NB291_300.out
                have hnb160 := NB300_331.out
                have hnc160 := NB331_300.out
                have hcz161_0 : wc.cell? ⟨gb300, 0, none⟩ = some (.int .i64 t292) := (blk_cell BK300.out 0).trans rfl
                have hcz161_1 : wc.cell? ⟨gb300, 1, none⟩ = some (.int .i64 t293) := (blk_cell BK300.out 1).trans rfl
                have hcz161_2 : wc.cell? ⟨gb300, 2, none⟩ = some (.int .i64 t294) := (blk_cell BK300.out 2).trans rfl
                have hcz161_3 : wc.cell? ⟨gb300, 3, none⟩ = some (.int .i64 t295) := (blk_cell BK300.out 3).trans rfl
                have hcz161_4 : wc.cell? ⟨gb300, 4, none⟩ = some (.slice Ao37 t314.length co37) := (blk_cell BK300.out 4).trans rfl
                have hfz161_0 := blk_frozen BK300.out 0
                have hfz161_1 := blk_frozen BK300.out 1
                have hfz161_2 := blk_frozen BK300.out 2
                have hfz161_3 := blk_frozen BK300.out 3
                have hfz161_4 := blk_frozen BK300.out 4
                go_wp2_with (first | ((with_reducible refine gate_callee (f := 30) rfl ?_); refine goesL_ (some 95) rfl rfl Try.func30 (by kernel_rfl) rfl #[.agg #[.int .i64 t292, .int .i64 t293, .int .i64 t294, .int .i64 t295, .slice Ao37 t314.length co37], .int .i64 1] rfl mt_ ?_; (with_reducible refine (laws_heldFair.calls kj103 t292 t293 t294 t295 _ _ t314 1 t333 _ ?side1 ?side2 A148.out).mono ?_); (case side1 => repeat (first | exact (Kd.R_reads' HO_301004.out).2.2 | (with_reducible refine Kd.C_alloc ?_ _) | (with_reducible refine Kd.C_drewN ?_ _) | (with_reducible refine Kd.C_drew ?_))); (case side2 => exact (Kd.R_reads' HO_301004.out).2.1); rintro e w162 ⟨rfl, hb⟩; refine ⟨_, rfl, ?_⟩; have n0_ := Aside0.mk (Kd.R_below (kr_ HO_284004) hb); have n1_ := Aside0.mk (Kd.R_below (kr_ HO_292004) hb); have n2_ := Aside0.mk (Kd.R_below (kr_ HO_301004) hb); have n3_ := Aside0.mk (Kd.R_below (kr_ HO_332004) hb); have n4_ := Aside0.mk (blk_below (g := gb266) (o := .cells #[.int .i64 a0_0, .int .i64 a0_1, .int .i64 a0_2, .int .i64 a0_3, .slice A0_4 l0_4.length c0_4] 26 (0, 0)) (bk_ BK266) hb); have n5_ := Aside0.mk (blk_below (g := gb283) (o := .cells #[.int .i64 t275, .int .i64 t276, .int .i64 t277, .int .i64 t278, .slice Ao23 t279.length co23] 32 (0, 0)) (bk_ BK283) hb); have n6_ := Aside0.mk (blk_below (g := gb291) (o := .cells #[.int .i64 t284, .int .i64 t285, .int .i64 t286, .int .i64 t287, .slice Ao30 t311.length co30] 32 (0, 0)) (bk_ BK291) hb); have n7_ := Aside0.mk (blk_below (g := gb300) (o := .cells #[.int .i64 t292, .int .i64 t293, .int .i64 t294, .int .i64 t295, .slice Ao37 t314.length co37] 32 (0, 0)) (bk_ BK300) hb); have n8_ := Aside0.mk (blk_below (g := gb331) (o := .cells #[.int .i64 t323, .int .i64 t324, .int .i64 t325, .int .i64 t326, .slice Ao124 t327.length co124] 32 (0, 0)) (bk_ BK331) hb); have n9_ := Aside0.mk (below_step (by repeat (first | (with_reducible first | exact HB.out | apply below_alloc | apply pw_below_drewN | apply below_drew1 | refine below_set ?_ GE266.out | refine below_set ?_ GE283.out | refine below_set ?_ GE291.out | refine below_set ?_ GE300.out | refine below_set ?_ GE331.out) | exact HB.out)) hb); clear HO_284004; clear HO_292004; clear HO_301004; clear HO_332004; clear BK266; clear BK283; clear BK291; clear BK300; clear BK331; clear HB; have HO_284004 := n0_; have HO_292004 := n1_; have HO_301004 := n2_; have HO_332004 := n3_; have BK266 := n4_; have BK283 := n5_; have BK291 := n6_; have BK300 := n7_; have BK331 := n8_; have HB := n9_; clear n0_ n1_ n2_ n3_ n4_ n5_ n6_ n7_ n8_ n9_; (try clear hb); (try clear hb2); (try clear hk); (try clear hi)))
                go_ret
                exact ⟨by first | rfl | (simp [errW_none, errW_some] <;> rfl) | (simp [*, errW_none, errW_some] <;> rfl), by repeat (first | (with_reducible first | exact HB.out | apply below_alloc | apply pw_below_drewN | apply below_drew1 | refine below_set ?_ GE266.out | refine below_set ?_ GE283.out | refine below_set ?_ GE291.out | refine below_set ?_ GE300.out | refine below_set ?_ GE331.out) | exact HB.out)⟩
               ·rw [if_neg c156] at H
                have c156b0 : (t333 == t313) = false := beq_eq_false_iff_ne.mpr c156
                have c156b0l := c156b0
                (try simp only [hl292004_60, hl301004_103] at c156b0l)
                have c156b1 : (t333 != t313) = true := bne_iff_ne.mpr c156
                have c156b1l := c156b1
                (try simp only [hl292004_60, hl301004_103] at c156b1l)
                obtain rfl := Option.some.inj H
                have hnb163 := NB300_266.out
                have hnc163 := NB266_300.out
                have hnb164 := NB300_283.out
                have hnc164 := NB283_300.out
                have hnb165 := NB300_291.out
                have hnc165 := NB291_300.out
                have hnb166 := NB300_331.out
                have hnc166 := NB331_300.out
                have hcz167_0 : wc.cell? ⟨gb300, 0, none⟩ = some (.int .i64 t292) := (blk_cell BK300.out 0).trans rfl
                have hcz167_1 : wc.cell? ⟨gb300, 1, none⟩ = some (.int .i64 t293) := (blk_cell BK300.out 1).trans rfl
                have hcz167_2 : wc.cell? ⟨gb300, 2, none⟩ = some (.int .i64 t294) := (blk_cell BK300.out 2).trans rfl
                have hcz167_3 : wc.cell? ⟨gb300, 3, none⟩ = some (.int .i64 t295) := (blk_cell BK300.out 3).trans rfl
                have hcz167_4 : wc.cell? ⟨gb300, 4, none⟩ = some (.slice Ao37 t314.length co37) := (blk_cell BK300.out 4).trans rfl
                have hfz167_0 := blk_frozen BK300.out 0
                have hfz167_1 := blk_frozen BK300.out 1
                have hfz167_2 := blk_frozen BK300.out 2
                have hfz167_3 := blk_frozen BK300.out 3
                have hfz167_4 := blk_frozen BK300.out 4
                go_wp2_with (first | ((with_reducible refine gate_callee (f := 30) rfl ?_); refine goesL_ (some 95) rfl rfl Try.func30 (by kernel_rfl) rfl #[.agg #[.int .i64 t292, .int .i64 t293, .int .i64 t294, .int .i64 t295, .slice Ao37 t314.length co37], .int .i64 1] rfl mt_ ?_; (with_reducible refine (laws_heldFair.calls kj103 t292 t293 t294 t295 _ _ t314 1 t333 _ ?side1 ?side2 A148.out).mono ?_); (case side1 => repeat (first | exact (Kd.R_reads' HO_301004.out).2.2 | (with_reducible refine Kd.C_alloc ?_ _) | (with_reducible refine Kd.C_drewN ?_ _) | (with_reducible refine Kd.C_drew ?_))); (case side2 => exact (Kd.R_reads' HO_301004.out).2.1); rintro e w168 ⟨rfl, hb⟩; refine ⟨_, rfl, ?_⟩; have n0_ := Aside0.mk (Kd.R_below (kr_ HO_284004) hb); have n1_ := Aside0.mk (Kd.R_below (kr_ HO_292004) hb); have n2_ := Aside0.mk (Kd.R_below (kr_ HO_301004) hb); have n3_ := Aside0.mk (Kd.R_below (kr_ HO_332004) hb); have n4_ := Aside0.mk (blk_below (g := gb266) (o := .cells #[.int .i64 a0_0, .int .i64 a0_1, .int .i64 a0_2, .int .i64 a0_3, .slice A0_4 l0_4.length c0_4] 26 (0, 0)) (bk_ BK266) hb); have n5_ := Aside0.mk (blk_below (g := gb283) (o := .cells #[.int .i64 t275, .int .i64 t276, .int .i64 t277, .int .i64 t278, .slice Ao23 t279.length co23] 32 (0, 0)) (bk_ BK283) hb); have n6_ := Aside0.mk (blk_below (g := gb291) (o := .cells #[.int .i64 t284, .int .i64 t285, .int .i64 t286, .int .i64 t287, .slice Ao30 t311.length co30] 32 (0, 0)) (bk_ BK291) hb); have n7_ := Aside0.mk (blk_below (g := gb300) (o := .cells #[.int .i64 t292, .int .i64 t293, .int .i64 t294, .int .i64 t295, .slice Ao37 t314.length co37] 32 (0, 0)) (bk_ BK300) hb); have n8_ := Aside0.mk (blk_below (g := gb331) (o := .cells #[.int .i64 t323, .int .i64 t324, .int .i64 t325, .int .i64 t326, .slice Ao124 t327.length co124] 32 (0, 0)) (bk_ BK331) hb); have n9_ := Aside0.mk (below_step (by repeat (first | (with_reducible first | exact HB.out | apply below_alloc | apply pw_below_drewN | apply below_drew1 | refine below_set ?_ GE266.out | refine below_set ?_ GE283.out | refine below_set ?_ GE291.out | refine below_set ?_ GE300.out | refine below_set ?_ GE331.out) | exact HB.out)) hb); clear HO_284004; clear HO_292004; clear HO_301004; clear HO_332004; clear BK266; clear BK283; clear BK291; clear BK300; clear BK331; clear HB; have HO_284004 := n0_; have HO_292004 := n1_; have HO_301004 := n2_; have HO_332004 := n3_; have BK266 := n4_; have BK283 := n5_; have BK291 := n6_; have BK300 := n7_; have BK331 := n8_; have HB := n9_; clear n0_ n1_ n2_ n3_ n4_ n5_ n6_ n7_ n8_ n9_; (try clear hb); (try clear hb2); (try clear hk); (try clear hi)))
                go_ret
                exact ⟨by first | rfl | (simp [errW_none, errW_some] <;> rfl) | (simp [*, errW_none, errW_some] <;> rfl), by repeat (first | (with_reducible first | exact HB.out | apply below_alloc | apply pw_below_drewN | apply below_drew1 | refine below_set ?_ GE266.out | refine below_set ?_ GE283.out | refine below_set ?_ GE291.out | refine below_set ?_ GE300.out | refine below_set ?_ GE331.out) | exact HB.out)⟩
          ·rw [if_neg c101] at H
           have c101b0 : (t315 == t313) = false := beq_eq_false_iff_ne.mpr c101
           have c101b0l := c101b0
           (try simp only [hl292004_60] at c101b0l)
           have c101b1 : (t315 != t313) = true := bne_iff_ne.mpr c101
           have c101b1l := c101b1
           (try simp only [hl292004_60] at c101b1l)
           obtain rfl := Option.some.inj H
           have hnb169 := NB300_266.out
           have hnc169 := NB266_300.out
           have hnb170 := NB300_283.out
           have hnc170 := NB283_300.out
           have hnb171 := NB300_291.out
           have hnc171 := NB291_300.out
           have hcz172_0 : wc.cell? ⟨gb300, 0, none⟩ = some (.int .i64 t292) := (blk_cell BK300.out 0).trans rfl
           have hcz172_1 : wc.cell? ⟨gb300, 1, none⟩ = some (.int .i64 t293) := (blk_cell BK300.out 1).trans rfl
           have hcz172_2 : wc.cell? ⟨gb300, 2, none⟩ = some (.int .i64 t294) := (blk_cell BK300.out 2).trans rfl
           have hcz172_3 : wc.cell? ⟨gb300, 3, none⟩ = some (.int .i64 t295) := (blk_cell BK300.out 3).trans rfl
           have hcz172_4 : wc.cell? ⟨gb300, 4, none⟩ = some (.slice Ao37 t296.length co37) := (blk_cell BK300.out 4).trans rfl
           have hfz172_0 := blk_frozen BK300.out 0
           have hfz172_1 := blk_frozen BK300.out 1
           have hfz172_2 := blk_frozen BK300.out 2
           have hfz172_3 := blk_frozen BK300.out 3
           have hfz172_4 := blk_frozen BK300.out 4
           go_wp2_with (first | ((with_reducible refine gate_callee (f := 29) rfl ?_); refine goesL_ (some 68) rfl rfl Try.func29 (by kernel_rfl) rfl #[.agg #[.int .i64 t292, .int .i64 t293, .int .i64 t294, .int .i64 t295, .slice Ao37 t296.length co37], .int .i64 1] rfl mt_ ?_; (with_reducible refine (laws_markFair.calls kj60 t292 t293 t294 t295 (fun k_ => some k_ = (.slice Ao37 t296.length co37 : Value).ownBlock) (.slice Ao37 t296.length co37) t296 1 t313 t314 w _ ?side1 ?side2 A91.out).mono ?_); (case side1 => repeat (first | (with_reducible first | exact HB.out | apply below_alloc | apply pw_below_drewN | apply below_drew1 | refine below_set ?_ GE266.out | refine below_set ?_ GE283.out | refine below_set ?_ GE291.out | refine below_set ?_ GE300.out) | exact HB.out)); (case side2 => exact Kd.R_tight rfl HO_301004.out); rintro e w173 ⟨rfl, hy0, hb, hkp⟩; refine ⟨_, rfl, ?_⟩; have n0_ := Aside0.mk (Kd.R_mono (ok' := fun k_ => some k_ ≠ (.slice Ao30 t311.length co30 : Value).ownBlock ∧ some k_ ≠ (.slice Ao37 t296.length co37 : Value).ownBlock) (Kd.R_keptB (HO_284004.out) hkp (fun k_ hk_ hs_ => by first | exact (hk_.2) hs_ | grind)) (fun k_ hk_ => by first | exact ⟨hk_.1.1, hk_.1.2⟩ | grind)); have n1_ := Aside0.mk (Kd.R_mono (ok' := fun k_ => some k_ ≠ (.slice Ao23 t279.length co23 : Value).ownBlock ∧ some k_ ≠ (.slice Ao37 t296.length co37 : Value).ownBlock) (Kd.R_keptB (HO_292004.out) hkp (fun k_ hk_ hs_ => by first | exact (hk_.2) hs_ | grind)) (fun k_ hk_ => by first | exact ⟨hk_.1.1, hk_.1.2⟩ | grind)); have n2_ := Aside0.mk (Kd.R_reok rfl hy0 (fun k_ e_ => HO_301004.out.1 k_ e_)); have n3_ := Aside0.mk (blk_kept (bk_ BK266) hkp (fun hs_ => (fun e_ => (Kd.R_ne HO_301004.out BK266.out (by decide)) e_) hs_)); have n4_ := Aside0.mk (blk_kept (bk_ BK283) hkp (fun hs_ => (fun e_ => (Kd.R_ne HO_301004.out BK283.out (by decide)) e_) hs_)); have n5_ := Aside0.mk (blk_kept (bk_ BK291) hkp (fun hs_ => (fun e_ => (Kd.R_ne HO_301004.out BK291.out (by decide)) e_) hs_)); have n6_ := Aside0.mk (blk_kept (bk_ BK300) hkp (fun hs_ => (fun e_ => (Kd.R_ne HO_301004.out BK300.out (by decide)) e_) hs_)); have n7_ := Aside0.mk (hb); clear HO_284004; clear HO_292004; clear HO_301004; clear BK266; clear BK283; clear BK291; clear BK300; clear HB; have HO_284004 := n0_; have HO_292004 := n1_; have HO_301004 := n2_; have BK266 := n3_; have BK283 := n4_; have BK291 := n5_; have BK300 := n6_; have HB := n7_; clear n0_ n1_ n2_ n3_ n4_ n5_ n6_ n7_; (try clear hb); (try clear hkp); (try clear hy0); have hcz174_0 : w173.cell? ⟨gb300, 0, none⟩ = some (.int .i64 t292) := (blk_cell BK300.out 0).trans rfl; have hcz174_1 : w173.cell? ⟨gb300, 1, none⟩ = some (.int .i64 t293) := (blk_cell BK300.out 1).trans rfl; have hcz174_2 : w173.cell? ⟨gb300, 2, none⟩ = some (.int .i64 t294) := (blk_cell BK300.out 2).trans rfl; have hcz174_3 : w173.cell? ⟨gb300, 3, none⟩ = some (.int .i64 t295) := (blk_cell BK300.out 3).trans rfl; have hcz174_4 : w173.cell? ⟨gb300, 4, none⟩ = some (.slice Ao37 t296.length co37) := (blk_cell BK300.out 4).trans rfl; have hfz174_0 := blk_frozen BK300.out 0; have hfz174_1 := blk_frozen BK300.out 1; have hfz174_2 := blk_frozen BK300.out 2; have hfz174_3 := blk_frozen BK300.out 3; have hfz174_4 := blk_frozen BK300.out 4) | ((with_reducible refine gate_callee (f := 30) rfl ?_); refine goesL_ (some 71) rfl rfl Try.func30 (by kernel_rfl) rfl #[.agg #[.int .i64 t292, .int .i64 t293, .int .i64 t294, .int .i64 t295, .slice Ao37 t314.length co37], .int .i64 1] rfl (by (try simp only [List.map_toArray, List.map_cons, List.map_nil]); first | done | (rw [show t314.length = t296.length from (Kd.R_reads' HO_301004.out).1.symm] <;> rfl) | rfl | (simp only [List.length_drop, List.length_take]; rfl)) ?_; (with_reducible refine (laws_heldFair.calls kj60 t292 t293 t294 t295 _ _ t314 1 t315 _ ?side1 ?side2 A92.out).mono ?_); (case side1 => repeat (first | exact (Kd.R_reads' HO_301004.out).2.2 | (with_reducible refine Kd.C_alloc ?_ _) | (with_reducible refine Kd.C_drewN ?_ _) | (with_reducible refine Kd.C_drew ?_))); (case side2 => rw [show t314.length = t296.length from (Kd.R_reads' HO_301004.out).1.symm]; exact (Kd.R_reads' HO_301004.out).2.1); rintro e w175 ⟨rfl, hb⟩; refine ⟨_, rfl, ?_⟩; have n0_ := Aside0.mk (Kd.R_below (kr_ HO_284004) hb); have n1_ := Aside0.mk (Kd.R_below (kr_ HO_292004) hb); have n2_ := Aside0.mk (Kd.R_below (kr_ HO_301004) hb); have n3_ := Aside0.mk (blk_below (g := gb266) (o := .cells #[.int .i64 a0_0, .int .i64 a0_1, .int .i64 a0_2, .int .i64 a0_3, .slice A0_4 l0_4.length c0_4] 26 (0, 0)) (bk_ BK266) hb); have n4_ := Aside0.mk (blk_below (g := gb283) (o := .cells #[.int .i64 t275, .int .i64 t276, .int .i64 t277, .int .i64 t278, .slice Ao23 t279.length co23] 32 (0, 0)) (bk_ BK283) hb); have n5_ := Aside0.mk (blk_below (g := gb291) (o := .cells #[.int .i64 t284, .int .i64 t285, .int .i64 t286, .int .i64 t287, .slice Ao30 t311.length co30] 32 (0, 0)) (bk_ BK291) hb); have n6_ := Aside0.mk (blk_below (g := gb300) (o := .cells #[.int .i64 t292, .int .i64 t293, .int .i64 t294, .int .i64 t295, .slice Ao37 t296.length co37] 32 (0, 0)) (bk_ BK300) hb); have n7_ := Aside0.mk (below_step (by repeat (first | (with_reducible first | exact HB.out | apply below_alloc | apply pw_below_drewN | apply below_drew1 | refine below_set ?_ GE266.out | refine below_set ?_ GE283.out | refine below_set ?_ GE291.out | refine below_set ?_ GE300.out) | exact HB.out)) hb); clear HO_284004; clear HO_292004; clear HO_301004; clear BK266; clear BK283; clear BK291; clear BK300; clear HB; have HO_284004 := n0_; have HO_292004 := n1_; have HO_301004 := n2_; have BK266 := n3_; have BK283 := n4_; have BK291 := n5_; have BK300 := n6_; have HB := n7_; clear n0_ n1_ n2_ n3_ n4_ n5_ n6_ n7_; (try clear hb); (try clear hb2); (try clear hk); (try clear hi)))
           go_ret
           exact ⟨by first | rfl | (simp [errW_none, errW_some] <;> rfl) | (simp [*, errW_none, errW_some] <;> rfl), by repeat (first | (with_reducible first | exact HB.out | apply below_alloc | apply pw_below_drewN | apply below_drew1 | refine below_set ?_ GE266.out | refine below_set ?_ GE283.out | refine below_set ?_ GE291.out | refine below_set ?_ GE300.out) | exact HB.out)⟩
     ·replace c59 := Bool.eq_false_iff.mpr c59
      subst c59
      have H1 : (some false) = some r := by rw [if_neg (show ¬ (false = true) by decide)] at H; exact H
      clear H
      have H := H1
      clear H1
      obtain rfl := Option.some.inj H
      try go_wp2
      have n0_ := Aside0.mk (Kd.R_drew HO_284004.out)
      have n1_ := Aside0.mk (Kd.R_drew HO_292004.out)
      have n2_ := Aside0.mk (Kd.R_drew HO_301004.out)
      have n3_ := Aside0.mk (blk_drew BK266.out)
      have n4_ := Aside0.mk (blk_drew BK283.out)
      have n5_ := Aside0.mk (blk_drew BK291.out)
      have n6_ := Aside0.mk (blk_drew BK300.out)
      have n7_ := Aside0.mk (below_drew1 HB.out)
      clear HO_284004
      clear HO_292004
      clear HO_301004
      clear BK266
      clear BK283
      clear BK291
      clear BK300
      clear HB
      have HO_284004 := n0_
      have HO_292004 := n1_
      have HO_301004 := n2_
      have BK266 := n3_
      have BK283 := n4_
      have BK291 := n5_
      have BK300 := n6_
      have HB := n7_
      clear n0_ n1_ n2_ n3_ n4_ n5_ n6_ n7_
      refine start_ (n := 5) (S := fun w' => w'.cell? ⟨gb291, 0, none⟩ = some (.int .i64 t284) ∧ w'.cell? ⟨gb291, 1, none⟩ = some (.int .i64 t285) ∧ w'.cell? ⟨gb291, 2, none⟩ = some (.int .i64 t286) ∧ w'.cell? ⟨gb291, 3, none⟩ = some (.int .i64 t287) ∧ w'.cell? ⟨gb291, 4, none⟩ = some (.slice Ao30 t288.length co30) ∧ w'.cell? ⟨gb266, 0, none⟩ = some (.int .i64 a0_0) ∧ w'.cell? ⟨gb266, 1, none⟩ = some (.int .i64 a0_1) ∧ w'.cell? ⟨gb266, 2, none⟩ = some (.int .i64 a0_2) ∧ w'.cell? ⟨gb266, 3, none⟩ = some (.int .i64 a0_3) ∧ w'.cell? ⟨gb266, 4, none⟩ = some (.slice A0_4 l0_4.length c0_4)) (ds := []) (bs 5 0) (by kernel_rfl) rfl rfl ⟨(blk_cell BK291.out 0).trans rfl, (blk_cell BK291.out 1).trans rfl, (blk_cell BK291.out 2).trans rfl, (blk_cell BK291.out 3).trans rfl, (blk_cell BK291.out 4).trans rfl, (blk_cell BK266.out 0).trans rfl, (blk_cell BK266.out 1).trans rfl, (blk_cell BK266.out 2).trans rfl, (blk_cell BK266.out 3).trans rfl, (blk_cell BK266.out 4).trans rfl⟩ (fun hHeld => ?_)
      generalize wc.drew = w176 at HO_284004 HO_292004 HO_301004 BK266 BK283 BK291 BK300 HB hHeld ⊢
      refine take_ (i := 0) (N := some 45) (v := ?_) (a' := ?_) (bs 5 1) rfl rfl (by kernel_rfl) (fun _ _ _ h => h) (Or.inl ⟨by rfl, ?_⟩) hHeld ?_ ?_
      rotate_left
      ·rintro w' ⟨s0, s1, s2, s3, s4, s5, s6, s7, s8, s9⟩
       go_simp
       with_reducible rfl
      rotate_left
      ·simp only [Act.put, List.setIfInBounds_toArray, List.set_cons_zero, List.set_cons_succ, i64_w, i32_w]
       rfl
      refine take_ (i := 1) (N := some 46) (v := ?_) (a' := ?_) (bs 5 2) rfl rfl (by kernel_rfl) (fun _ _ _ h => h) (Or.inl ⟨by rfl, ?_⟩) hHeld ?_ ?_
      rotate_left
      ·rintro w' ⟨s0, s1, s2, s3, s4, s5, s6, s7, s8, s9⟩
       go_simp
       with_reducible rfl
      rotate_left
      ·simp only [Act.put, List.setIfInBounds_toArray, List.set_cons_zero, List.set_cons_succ, i64_w, i32_w]
       rfl
      refine one_ (i := 2) (N := some 47) (bs 5 3) rfl rfl (by kernel_rfl) (by decide) (fun K hK => ?_)
      refine goes_ Try.func17 (by kernel_rfl) rfl #[.agg #[.int .i64 a0_0, .int .i64 a0_1, .int .i64 a0_2, .int .i64 a0_3, .slice A0_4 l0_4.length c0_4]] (by rfl) rfl rfl mt_ ?_
      with_reducible refine (laws_toFair.calls kj11 a0_0 a0_1 a0_2 a0_3 _ _ l0_4 t302 t303 t304 t305 t306 _ ?side1 ?side2 A57.out).mono ?_
      (case side1 => repeat (first | exact (Kd.C_below HR0_4.out HB.out) | (with_reducible refine Kd.C_alloc ?_ _) | (with_reducible refine Kd.C_drewN ?_ _) | (with_reducible refine Kd.C_drew ?_)))
      (case side2 => exact HC0_4.out)
      rintro e w177 ⟨v307, rfl, ho0, hb⟩
      refine ⟨_, rfl, ?_⟩
      have n0_ := Aside0.mk (Kd.R_elder' (kr_ HO_284004) (Kd.R_base ho0) hb)
      have n1_ := Aside0.mk (Kd.R_elder' (kr_ HO_292004) (Kd.R_base ho0) hb)
      have n2_ := Aside0.mk (Kd.R_elder' (kr_ HO_301004) (Kd.R_base ho0) hb)
      have n3_ := Aside0.mk (Kd.R_lower (Kd.R_new' (Kd.R_new' (Kd.R_new' ho0 (Kd.R_lt (kr_ HO_284004))) (Kd.R_lt (kr_ HO_292004))) (Kd.R_lt (kr_ HO_301004))) (below_size (by repeat (first | (with_reducible first | exact HB.out | apply below_alloc | apply pw_below_drewN | apply below_drew1 | refine below_set ?_ GE266.out | refine below_set ?_ GE283.out | refine below_set ?_ GE291.out | refine below_set ?_ GE300.out) | exact HB.out))))
      have n4_ := Aside0.mk (blk_below (g := gb266) (o := .cells #[.int .i64 a0_0, .int .i64 a0_1, .int .i64 a0_2, .int .i64 a0_3, .slice A0_4 l0_4.length c0_4] 26 (0, 0)) (bk_ BK266) hb)
      have n5_ := Aside0.mk (blk_below (g := gb283) (o := .cells #[.int .i64 t275, .int .i64 t276, .int .i64 t277, .int .i64 t278, .slice Ao23 t279.length co23] 32 (0, 0)) (bk_ BK283) hb)
      have n6_ := Aside0.mk (blk_below (g := gb291) (o := .cells #[.int .i64 t284, .int .i64 t285, .int .i64 t286, .int .i64 t287, .slice Ao30 t288.length co30] 32 (0, 0)) (bk_ BK291) hb)
      have n7_ := Aside0.mk (blk_below (g := gb300) (o := .cells #[.int .i64 t292, .int .i64 t293, .int .i64 t294, .int .i64 t295, .slice Ao37 t296.length co37] 32 (0, 0)) (bk_ BK300) hb)
      have n8_ := Aside0.mk (below_step (by repeat (first | (with_reducible first | exact HB.out | apply below_alloc | apply pw_below_drewN | apply below_drew1 | refine below_set ?_ GE266.out | refine below_set ?_ GE283.out | refine below_set ?_ GE291.out | refine below_set ?_ GE300.out) | exact HB.out)) hb)
      clear HO_284004
      clear HO_292004
      clear HO_301004
      clear BK266
      clear BK283
      clear BK291
      clear BK300
      clear HB
      have HO_284004 := n0_
      have HO_292004 := n1_
      have HO_301004 := n2_
      have HO308 := n3_
      have BK266 := n4_
      have BK283 := n5_
      have BK291 := n6_
      have BK300 := n7_
      have HB := n8_
      clear n0_ n1_ n2_ n3_ n4_ n5_ n6_ n7_ n8_
      (try clear hb)
      (try clear hb2)
      (try clear hk)
      (try clear hi)
      (try clear ho0)
      obtain ⟨Ao178, co178, eo178⟩ := Kd.R_slice HO308.out
      (first | subst eo178 | (injection eo178 with f1_ f2_ f3_; have f4_ := f1_.symm; have f5_ := f3_.symm; clear f1_ f2_ f3_; subst f4_; subst f5_))
      refine hK.out _ _ ⟨(blk_cell BK291.out 0).trans rfl, (blk_cell BK291.out 1).trans rfl, (blk_cell BK291.out 2).trans rfl, (blk_cell BK291.out 3).trans rfl, (blk_cell BK291.out 4).trans rfl, (blk_cell BK266.out 0).trans rfl, (blk_cell BK266.out 1).trans rfl, (blk_cell BK266.out 2).trans rfl, (blk_cell BK266.out 3).trans rfl, (blk_cell BK266.out 4).trans rfl⟩ (fun hHeld => ?_)
      clear hK K
      refine norm_ (a' := ?_) ?_ ?_
      rotate_left
      ·show Act.put _ (some 47) _ = _
       simp only [Act.put, List.setIfInBounds_toArray, List.set_cons_zero, List.set_cons_succ, i64_w, i32_w]
       rfl
      refine one_ (i := 3) (N := some 48) (bs 5 4) rfl rfl (by kernel_rfl) (by decide) (fun K hK => ?_)
      refine goes_ Try.func19 (by kernel_rfl) rfl #[.agg #[.int .i64 t284, .int .i64 t285, .int .i64 t286, .int .i64 t287, .slice Ao30 t288.length co30], .agg #[.int .i64 t302, .int .i64 t303, .int .i64 t304, .int .i64 t305, .slice Ao178 t306.length co178]] (by rfl) rfl rfl mt_ ?_
      with_reducible refine (laws_eqFair.calls kj11 t284 t285 t286 t287 _ _ t288 t302 t303 t304 t305 _ _ t306 false _ ?side1 ?side2 ?side3 ?side4 A58.out).mono ?_
      (case side1 => repeat (first | exact (Kd.R_reads' HO_292004.out).2.2 | (with_reducible refine Kd.C_alloc ?_ _) | (with_reducible refine Kd.C_drewN ?_ _) | (with_reducible refine Kd.C_drew ?_)))
      (case side2 => exact (Kd.R_reads' HO_292004.out).2.1)
      (case side3 => repeat (first | exact (Kd.R_reads' HO308.out).2.2 | (with_reducible refine Kd.C_alloc ?_ _) | (with_reducible refine Kd.C_drewN ?_ _) | (with_reducible refine Kd.C_drew ?_)))
      (case side4 => exact (Kd.R_reads' HO308.out).2.1)
      rintro e w179 ⟨rfl, hb⟩
      refine ⟨_, rfl, ?_⟩
      have n0_ := Aside0.mk (Kd.R_below (kr_ HO_284004) hb)
      have n1_ := Aside0.mk (Kd.R_below (kr_ HO_292004) hb)
      have n2_ := Aside0.mk (Kd.R_below (kr_ HO_301004) hb)
      have n3_ := Aside0.mk (Kd.R_below (kr_ HO308) hb)
      have n4_ := Aside0.mk (blk_below (g := gb266) (o := .cells #[.int .i64 a0_0, .int .i64 a0_1, .int .i64 a0_2, .int .i64 a0_3, .slice A0_4 l0_4.length c0_4] 26 (0, 0)) (bk_ BK266) hb)
      have n5_ := Aside0.mk (blk_below (g := gb283) (o := .cells #[.int .i64 t275, .int .i64 t276, .int .i64 t277, .int .i64 t278, .slice Ao23 t279.length co23] 32 (0, 0)) (bk_ BK283) hb)
      have n6_ := Aside0.mk (blk_below (g := gb291) (o := .cells #[.int .i64 t284, .int .i64 t285, .int .i64 t286, .int .i64 t287, .slice Ao30 t288.length co30] 32 (0, 0)) (bk_ BK291) hb)
      have n7_ := Aside0.mk (blk_below (g := gb300) (o := .cells #[.int .i64 t292, .int .i64 t293, .int .i64 t294, .int .i64 t295, .slice Ao37 t296.length co37] 32 (0, 0)) (bk_ BK300) hb)
      have n8_ := Aside0.mk (below_step (by repeat (first | (with_reducible first | exact HB.out | apply below_alloc | apply pw_below_drewN | apply below_drew1 | refine below_set ?_ GE266.out | refine below_set ?_ GE283.out | refine below_set ?_ GE291.out | refine below_set ?_ GE300.out) | exact HB.out)) hb)
      clear HO_284004
      clear HO_292004
      clear HO_301004
      clear HO308
      clear BK266
      clear BK283
      clear BK291
      clear BK300
      clear HB
      have HO_284004 := n0_
      have HO_292004 := n1_
      have HO_301004 := n2_
      have HO308 := n3_
      have BK266 := n4_
      have BK283 := n5_
      have BK291 := n6_
      have BK300 := n7_
      have HB := n8_
      clear n0_ n1_ n2_ n3_ n4_ n5_ n6_ n7_ n8_
      (try clear hb)
      (try clear hb2)
      (try clear hk)
      (try clear hi)
      refine hK.out _ _ ⟨(blk_cell BK291.out 0).trans rfl, (blk_cell BK291.out 1).trans rfl, (blk_cell BK291.out 2).trans rfl, (blk_cell BK291.out 3).trans rfl, (blk_cell BK291.out 4).trans rfl, (blk_cell BK266.out 0).trans rfl, (blk_cell BK266.out 1).trans rfl, (blk_cell BK266.out 2).trans rfl, (blk_cell BK266.out 3).trans rfl, (blk_cell BK266.out 4).trans rfl⟩ (fun hHeld => ?_)
      clear hK K
      refine norm_ (a' := ?_) ?_ ?_
      rotate_left
      ·show Act.put _ (some 48) _ = _
       simp only [Act.put, List.setIfInBounds_toArray, List.set_cons_zero, List.set_cons_succ, i64_w, i32_w]
       rfl
      refine pure_s (i := 4) (N := some 49) (bs 5 5) (by kernel_rfl) (h := ?_)
      refine done_ (by kernel_rfl) ?_
      try go_wp2
      go_ret
      exact ⟨by first | rfl | (simp [errW_none, errW_some] <;> rfl) | (simp [*, errW_none, errW_some] <;> rfl), by repeat (first | (with_reducible first | exact HB.out | apply below_alloc | apply pw_below_drewN | apply below_drew1 | refine below_set ?_ GE266.out | refine below_set ?_ GE283.out | refine below_set ?_ GE291.out | refine below_set ?_ GE300.out) | exact HB.out)⟩

/-! What is told of arguments that came in -/
def W23 (x : S23) : Prop := ((Lit.int .i64 x.f0).wf = true) ∧ ((Lit.int .i64 x.f1).wf = true) ∧ ((Lit.int .i64 x.f2).wf = true)
def W85 (x : S85) : Prop := ((Lit.int .i64 x.f0).wf = true) ∧ ((Lit.int .i64 x.f1).wf = true) ∧ (True) ∧ (W23 x.f3)
def W26 (x : S26) : Prop := ((Lit.int .i64 x.f0).wf = true) ∧ (W23 x.f1) ∧ ((x.f2.length ≤ maxLen ∧ ∀ y_ ∈ x.f2, W85 y_))
/-- THE ONE PURE STATEMENT of laws_FnExactFairRest: yours. -/
def laws_FnExactFairRest.Pure : Prop := ∀ (a0_0 : Int) (a0_1 : Int) (a0_2 : Int) (a0_3 : Int) (l0_4 : List (S85)) (a1 : Int), W26 (⟨a0_0, (⟨a0_1, a0_2, a0_3⟩ : S23), l0_4⟩ : S26) → (Lit.int .i64 a1).wf = true → ∃ k, laws_FnExactFairRest.f k a0_0 a0_1 a0_2 a0_3 l0_4 a1 = some true
theorem laws_FnExactFairRest.walk (P : laws_FnExactFairRest.Pure) (w : World) (x0 : S26) (A0_4 : Option Addr) (c0_4 : Nat) (hc0_4 : x0.f2.length ≤ c0_4) (hr0_4 : Kd.C k85 w A0_4 x0.f2.length x0.f2) (hw0 : W26 x0) (a1 : Int) (hw1 : (Lit.int .i64 a1).wf = true) :
  Calls Try.prog 7 #[.agg #[.int .i64 x0.f0, .int .i64 x0.f1.f0, .int .i64 x0.f1.f1, .int .i64 x0.f1.f2, .slice A0_4 x0.f2.length c0_4], .int .i64 a1] w fun e w' => e = .returned (.bool true) ∧ Below w.heap.size w w' := by
 obtain ⟨k, h⟩ := P (x0.f0) (x0.f1.f0) (x0.f1.f1) (x0.f1.f2) (x0.f2) a1 hw0 hw1
 refine (laws_FnExactFairRest.calls k (x0.f0) (x0.f1.f0) (x0.f1.f1) (x0.f1.f2) A0_4 c0_4 x0.f2 a1 true w hr0_4 hc0_4 h).mono ?_
 rintro e w' ⟨rfl, hd⟩
 exact ⟨rfl, hd⟩

end Go.Proofs.Ytljhaoiopokmfaa.PFnExactFairRest
