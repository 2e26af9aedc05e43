-- printed by a program of this session (wip/printx) out of the translation; Lean checks it
import Derived.Test.YtbijdkmchdkgfaaPFnEstWithinx0
import Derived.Test.YtbijdkmchdkgfaaPFnEstWithinx2
import Derived.Test.YtbijdkmchdkgfaaPFnEstWithinx4
import Derived.Test.YtbijdkmchdkgfaaPFnEstWithinx5
namespace Go.Proofs.Ytbijdkmchdkgfaa.PFnEstWithin
open Go.RowKit Go.Proofs.YtbijdkmchdkgfaaW.PrintWords Go.Proofs.YtbijdkmchdkgfaaW.PrintLast Go.Proofs.YtbijdkmchdkgfaaW.PrintMore
attribute [local go_sem] max2_int min2_int max_two min_two max_three min_three max_four min_four   -- for this text's walks alone
set_option linter.unusedVariables false
set_option linter.unusedSimpArgs false

/-! ### laws_FnEstWithin: function 10 -/
mutual
def laws_FnEstWithin.l0 : Nat → List Int → Int → Bool → Int → Int → Int → Int → Int → Int → Int → Int → Int → Option (Bool)
  | 0, _, _, _, _, _, _, _, _, _, _, _, _ => none
  | k + 1, x0, x6, x267000, x267001, x267002, x267003, x268000, x268001, x268002, x269000, x269001, x269002 => if x6 < (wrap64 (1 + (mn 11 (wrap64 ((x0.length : Int) / 3))))) then (if 0 ≤ (mn (x0.length : Int) (wrap64 (3 * x6))) then (if (mn (x0.length : Int) (wrap64 (3 * x6))) ≤ (x0.length : Int) then ((spec_DrawEstLearn.f k (x0.drop ((mn (x0.length : Int) (wrap64 (3 * x6))) : Int).toNat)).bind fun bt270 => ((spec_CostOk.f bt270.2.2.2.2.1 bt270.2.2.2.2.2.1 bt270.2.2.2.2.2.2).bind fun t279 => (if t279 = true then ((impl_EstLearn.f k x267000 x267001 x267002 x267003 bt270.2.2.2.2.1 bt270.2.2.2.2.2.1 bt270.2.2.2.2.2.2).bind fun bt280 => ((spec_VecMost.f x269000 x269001 x269002 bt270.2.2.2.2.1 bt270.2.2.2.2.2.1 bt270.2.2.2.2.2.2).bind fun bt284 => ((impl_EstTell.f k bt280.1 bt280.2.1 bt280.2.2.1 bt280.2.2.2 1 1 1).bind fun bt287 => (laws_FnEstWithin.l1 k x0 x6 0 bt280.1 bt280.2.1 bt280.2.2.1 bt280.2.2.2 (mn x268000 bt270.2.2.2.2.1) (mn x268001 bt270.2.2.2.2.2.1) (mn x268002 bt270.2.2.2.2.2.2) bt284.1 bt284.2.1 bt284.2.2 bt287.1 bt287.2.1 bt287.2.2)))) else (laws_FnEstWithin.l0 k x0 (wrap64 (x6 + 1)) x267000 x267001 x267002 x267003 x268000 x268001 x268002 x269000 x269001 x269002)))) else (none)) else (none)) else (some true)
def laws_FnEstWithin.l1 : Nat → List Int → Int → Int → Bool → Int → Int → Int → Int → Int → Int → Int → Int → Int → Int → Int → Int → Option (Bool)
  | 0, _, _, _, _, _, _, _, _, _, _, _, _, _, _, _, _ => none
  | k + 1, x0, x6, x10, x267000, x267001, x267002, x267003, x268000, x268001, x268002, x269000, x269001, x269002, x291000, x291001, x291002 => if x10 < 3 then ((laws_vec.f x291000 x291001 x291002 x10).bind fun t292 => ((laws_vec.f x268000 x268001 x268002 x10).bind fun t293 => (if t292 < t293 then (some false) else ((laws_vec.f x291000 x291001 x291002 x10).bind fun t294 => ((laws_vec.f x269000 x269001 x269002 x10).bind fun t295 => (if t294 > t295 then (some false) else (laws_FnEstWithin.l1 k x0 x6 (wrap64 (x10 + 1)) x267000 x267001 x267002 x267003 x268000 x268001 x268002 x269000 x269001 x269002 x291000 x291001 x291002))))))) else ((spec_EstOk.f x267000 x267001 x267002 x267003).bind fun t291 => (if t291 = true then (if x267000 = true then (laws_FnEstWithin.l0 k x0 (wrap64 (x6 + 1)) x267000 x267001 x267002 x267003 x268000 x268001 x268002 x269000 x269001 x269002) else (some false)) else (some false)))
end
def laws_FnEstWithin.f (k : Nat) (l0 : List Int) : Option (Bool) := (laws_big.f l0).bind fun t265 => (if t265 = true then (some true) else (laws_FnEstWithin.l0 k l0 0 false 0 0 0 1000 1000 1000 0 0 0))
theorem laws_FnEstWithin.mono_l : ∀ k, (∀ y0 y1 y2 y3 y4 y5 y6 y7 y8 y9 y10 y11, LeO (laws_FnEstWithin.l0 k y0 y1 y2 y3 y4 y5 y6 y7 y8 y9 y10 y11) (laws_FnEstWithin.l0 (k + 1) y0 y1 y2 y3 y4 y5 y6 y7 y8 y9 y10 y11)) ∧ (∀ y0 y1 y2 y3 y4 y5 y6 y7 y8 y9 y10 y11 y12 y13 y14 y15, LeO (laws_FnEstWithin.l1 k y0 y1 y2 y3 y4 y5 y6 y7 y8 y9 y10 y11 y12 y13 y14 y15) (laws_FnEstWithin.l1 (k + 1) y0 y1 y2 y3 y4 y5 y6 y7 y8 y9 y10 y11 y12 y13 y14 y15))
 | 0 => ⟨fun _ _ _ _ _ _ _ _ _ _ _ _ r h => by simp [laws_FnEstWithin.l0] at h, fun _ _ _ _ _ _ _ _ _ _ _ _ _ _ _ _ r h => by simp [laws_FnEstWithin.l1] at h⟩
 | k + 1 => by
  obtain ⟨ih0, ih1⟩ := laws_FnEstWithin.mono_l k
  refine ⟨?_, ?_⟩
  ·intro y0 y1 y2 y3 y4 y5 y6 y7 y8 y9 y10 y11
   unfold laws_FnEstWithin.l0
   repeat' first
   | (with_reducible exact ih0 _ _ _ _ _ _ _ _ _ _ _ _)
   | (with_reducible exact ih1 _ _ _ _ _ _ _ _ _ _ _ _ _ _ _ _)
   | (with_reducible exact impl_EstLearn.mono _ _ _ _ _ _ _ _)
   | (with_reducible exact impl_EstTell.mono _ _ _ _ _ _ _ _)
   | (with_reducible exact spec_DrawEstLearn.mono _ _)
   | (with_reducible exact LeO.refl _)
   | (with_reducible exact LeO.none _)
   | (with_reducible refine LeO.ite ?_ ?_)
   | (with_reducible refine LeO.bind ?_ (fun _ => ?_))
   | exact ih0 _ _ _ _ _ _ _ _ _ _ _ _
   | exact ih1 _ _ _ _ _ _ _ _ _ _ _ _ _ _ _ _
   | exact impl_EstLearn.mono _ _ _ _ _ _ _ _
   | exact impl_EstTell.mono _ _ _ _ _ _ _ _
   | exact spec_DrawEstLearn.mono _ _
   | exact LeO.none _
   | refine LeO.ite ?_ ?_
   | refine LeO.bind ?_ (fun _ => ?_)
  ·intro y0 y1 y2 y3 y4 y5 y6 y7 y8 y9 y10 y11 y12 y13 y14 y15
   unfold laws_FnEstWithin.l1
   repeat' first
   | (with_reducible exact ih0 _ _ _ _ _ _ _ _ _ _ _ _)
   | (with_reducible exact ih1 _ _ _ _ _ _ _ _ _ _ _ _ _ _ _ _)
   | (with_reducible exact impl_EstLearn.mono _ _ _ _ _ _ _ _)
   | (with_reducible exact impl_EstTell.mono _ _ _ _ _ _ _ _)
   | (with_reducible exact spec_DrawEstLearn.mono _ _)
   | (with_reducible exact LeO.refl _)
   | (with_reducible exact LeO.none _)
   | (with_reducible refine LeO.ite ?_ ?_)
   | (with_reducible refine LeO.bind ?_ (fun _ => ?_))
   | exact ih0 _ _ _ _ _ _ _ _ _ _ _ _
   | exact ih1 _ _ _ _ _ _ _ _ _ _ _ _ _ _ _ _
   | exact impl_EstLearn.mono _ _ _ _ _ _ _ _
   | exact impl_EstTell.mono _ _ _ _ _ _ _ _
   | exact spec_DrawEstLearn.mono _ _
   | exact LeO.none _
   | refine LeO.ite ?_ ?_
   | refine LeO.bind ?_ (fun _ => ?_)
theorem laws_FnEstWithin.mono : ∀ a0 k, LeO (laws_FnEstWithin.f k a0) (laws_FnEstWithin.f (k + 1) a0) := by
 intro a0 k
 obtain ⟨ih0, ih1⟩ := laws_FnEstWithin.mono_l k
 unfold laws_FnEstWithin.f
 repeat' first
   | (with_reducible exact ih0 _ _ _ _ _ _ _ _ _ _ _ _)
   | (with_reducible exact ih1 _ _ _ _ _ _ _ _ _ _ _ _ _ _ _ _)
   | (with_reducible exact impl_EstLearn.mono _ _ _ _ _ _ _ _)
   | (with_reducible exact impl_EstTell.mono _ _ _ _ _ _ _ _)
   | (with_reducible exact spec_DrawEstLearn.mono _ _)
   | (with_reducible exact LeO.refl _)
   | (with_reducible exact LeO.none _)
   | (with_reducible refine LeO.ite ?_ ?_)
   | (with_reducible refine LeO.bind ?_ (fun _ => ?_))
   | exact ih0 _ _ _ _ _ _ _ _ _ _ _ _
   | exact ih1 _ _ _ _ _ _ _ _ _ _ _ _ _ _ _ _
   | exact impl_EstLearn.mono _ _ _ _ _ _ _ _
   | exact impl_EstTell.mono _ _ _ _ _ _ _ _
   | exact spec_DrawEstLearn.mono _ _
   | exact LeO.none _
   | refine LeO.ite ?_ ?_
   | refine LeO.bind ?_ (fun _ => ?_)
def laws_FnEstWithin.T18 : Bool × List (List Nat × List Nat) := (true, [([], []), ([], []), ([0, 1], [0, 1]), ([], []), ([], []), ([3, 4, 2], [3, 4]), ([2, 5], [2, 5]), ([6, 5], [6]), ([7], [7]), ([7], [7]), ([8, 9, 7, 7], [7, 8, 9]), ([7], [7]), ([7], [7]), ([11, 12, 10, 7], [7, 11, 12]), ([10, 13, 7], [7, 10, 13]), ([7, 14], [7, 14])])
def laws_FnEstWithin.B18 : List Nat := [0, 0, 3, 0, 0, 31, 63, 127, 255, 255, 1023, 255, 255, 8191, 16383, 32767]
theorem laws_FnEstWithin.tab18 : rtab .any (opsOf Try.f10 18) = laws_FnEstWithin.T18 := by kernel_rfl
theorem laws_FnEstWithin.bits18 : waitsOk laws_FnEstWithin.T18.2 laws_FnEstWithin.B18 = true := by kernel_rfl
set_option maxHeartbeats 8000000 in
set_option maxRecDepth 100000 in
theorem laws_FnEstWithin.calls (k : Nat) (A0 : Option Addr) (c0 : Nat) (l0 : List Int) (r : Bool) (w : World) (hr0 : Kd.C (Kd.int .u8) w A0 l0.length l0) (hc0 : l0.length ≤ c0) (h : laws_FnEstWithin.f k l0 = some r) :
  Calls Try.prog 10 #[.slice A0 l0.length c0] w fun e w' => e = .returned (.bool r) ∧ Below w.heap.size w w' := by
 have hu54 := Try.underlying54
 have hu35 := Try.underlying35
 have HR0 := Aside0.mk hr0
 have HC0 := Aside0.mk hc0
 clear hr0 hc0
 have HB := Aside0.mk (Below.refl w.heap.size w)
 have H : ((laws_big.f l0).bind fun t265 => (if t265 = true then (some true) else (laws_FnEstWithin.l0 k l0 0 false 0 0 0 1000 1000 1000 0 0 0))) = some r := h
 clear h
 replace H := Option.bind_eq_some_iff.mp H
 obtain ⟨t265, A20, H⟩ := H
 replace H : (if t265 = true then (some true) else (laws_FnEstWithin.l0 k l0 0 false 0 0 0 1000 1000 1000 0 0 0)) = some r := H
 have A2 := Aside0.mk A20
 clear A20
 by_cases c3 : t265 = true
 ·subst c3
  have H1 : (some true) = some r := by rw [if_pos rfl] at H; exact H
  clear H
  have H := H1
  clear H1
  obtain rfl := Option.some.inj H
  go_enter Try.func10, Try.ntmps10
  go_wp2_with (first | ((with_reducible refine gate_callee (f := 18) rfl ?_); refine goesL_ (some 12) rfl rfl Try.func18 (by kernel_rfl) rfl #[.slice A0 l0.length c0] rfl mt_ ?_; (with_reducible refine (laws_big.calls _ _ l0 true _ ?side1 ?side2 A2.out).mono ?_); (case side1 => repeat (first | exact HR0.out | (with_reducible refine Kd.C_alloc ?_ _) | (with_reducible refine Kd.C_drewN ?_ _) | (with_reducible refine Kd.C_drew ?_))); (case side2 => exact HC0.out); rintro e w' ⟨rfl, ⟨nd, rfl⟩⟩; refine ⟨_, rfl, ?_⟩))
  go_ret
  exact ⟨by first | rfl | (simp [errW_none, errW_some] <;> rfl) | (simp [*, errW_none, errW_some] <;> rfl), be_ HB⟩
 ·replace c3 := Bool.eq_false_iff.mpr c3
  subst c3
  have H1 : (laws_FnEstWithin.l0 k l0 0 false 0 0 0 1000 1000 1000 0 0 0) = some r := by rw [if_neg (show ¬ (false = true) by decide)] at H; exact H
  clear H
  have H := H1
  clear H1
  have H' := Aside0.mk H
  clear H
  go_enter Try.func10, Try.ntmps10
  go_wp2_with (first | ((with_reducible refine gate_callee (f := 18) rfl ?_); refine goesL_ (some 12) rfl rfl Try.func18 (by kernel_rfl) rfl #[.slice A0 l0.length c0] rfl mt_ ?_; (with_reducible refine (laws_big.calls _ _ l0 false _ ?side1 ?side2 A2.out).mono ?_); (case side1 => repeat (first | exact HR0.out | (with_reducible refine Kd.C_alloc ?_ _) | (with_reducible refine Kd.C_drewN ?_ _) | (with_reducible refine Kd.C_drew ?_))); (case side2 => exact HC0.out); rintro e w' ⟨rfl, ⟨nd, rfl⟩⟩; refine ⟨_, rfl, ?_⟩) | ((with_reducible refine gate_dst (N := 3) rfl ?_); refine box_event ?hg (N := 3) ?hd (cs := #[.bool false, .int .i64 0, .int .i64 0, .int .i64 0]) (t := 54) ?hr ?_; (case hd => rfl); (case hg => rfl); (case hr => first | (go_simp; done) | (go_simp; rfl)); intro gb266 hg w4 hbox hb; have n0_ := Aside0.mk (below_step (be_ HB) hb); have n1_ := Aside0.mk (hbox); have n2_ := Aside0.mk ((by rw [hg]; exact (below_size (be_ HB)) : w.heap.size ≤ gb266)); have n3_ := Aside0.mk ((by rw [hg]; exact (below_size (be_ HB)) : w.heap.size ≤ gb266)); clear HB; have HB := n0_; have BK266 := n1_; have GW266 := n2_; have GE266 := n3_; clear n0_ n1_ n2_ n3_; clear hb hbox hg; have hcz5_0 : w4.cell? ⟨gb266, 0, none⟩ = some (.bool false) := (blk_cell BK266.out 0).trans rfl; have hcz5_1 : w4.cell? ⟨gb266, 1, none⟩ = some (.int .i64 0) := (blk_cell BK266.out 1).trans rfl; have hcz5_2 : w4.cell? ⟨gb266, 2, none⟩ = some (.int .i64 0) := (blk_cell BK266.out 2).trans rfl; have hcz5_3 : w4.cell? ⟨gb266, 3, none⟩ = some (.int .i64 0) := (blk_cell BK266.out 3).trans rfl; have hfz5_0 := blk_frozen BK266.out 0; have hfz5_1 := blk_frozen BK266.out 1; have hfz5_2 := blk_frozen BK266.out 2; have hfz5_3 := blk_frozen BK266.out 3) | ((with_reducible refine gate_dst (N := 4) rfl ?_); refine box_event ?hg (N := 4) ?hd (cs := #[.int .i64 0, .int .i64 0, .int .i64 0]) (t := 35) ?hr ?_; (case hd => rfl); (case hg => rfl); (case hr => first | (go_simp; done) | (go_simp; rfl)); intro gb267 hg w6 hbox hb; have n0_ := Aside0.mk (blk_below (g := gb266) (o := .cells #[.bool false, .int .i64 0, .int .i64 0, .int .i64 0] 54 (0, 0)) (by (with_reducible repeat (first | refine blk_drewN ?_ _ | refine blk_drew ?_ | refine blk_alloc ?_ _)); refine blk_put (cs := #[.bool false, .int .i64 0, .int .i64 0, .int .i64 0]) ?_ 3 _ rfl; (with_reducible repeat (first | refine blk_drewN ?_ _ | refine blk_drew ?_ | refine blk_alloc ?_ _)); refine blk_put (cs := #[.bool false, .int .i64 0, .int .i64 0, .int .i64 0]) ?_ 2 _ rfl; (with_reducible repeat (first | refine blk_drewN ?_ _ | refine blk_drew ?_ | refine blk_alloc ?_ _)); refine blk_put (cs := #[.bool false, .int .i64 0, .int .i64 0, .int .i64 0]) ?_ 1 _ rfl; (with_reducible repeat (first | refine blk_drewN ?_ _ | refine blk_drew ?_ | refine blk_alloc ?_ _)); refine blk_put (cs := #[.bool false, .int .i64 0, .int .i64 0, .int .i64 0]) ?_ 0 _ rfl; exact bk_ BK266) hb); have n1_ := Aside0.mk (below_step (by repeat (first | (with_reducible first | exact HB.out | apply below_alloc | apply pw_below_drewN | apply below_drew1 | refine below_set ?_ GE266.out) | exact HB.out)) hb); have n2_ := Aside0.mk (hbox); have n3_ := Aside0.mk ((by rw [hg]; exact (below_size (by repeat (first | (with_reducible first | exact HB.out | apply below_alloc | apply pw_below_drewN | apply below_drew1 | refine below_set ?_ GE266.out) | exact HB.out))) : w.heap.size ≤ gb267)); have n4_ := Aside0.mk ((by rw [hg]; exact (below_size (by repeat (first | (with_reducible first | exact HB.out | apply below_alloc | apply pw_below_drewN | apply below_drew1 | refine below_set ?_ GE266.out) | exact HB.out))) : w.heap.size ≤ gb267)); have n5_ := Aside0.mk ((by rw [hg]; exact Nat.ne_of_lt (blk_lt (g := gb266) (o := .cells #[.bool false, .int .i64 0, .int .i64 0, .int .i64 0] 54 (0, 0)) (by (with_reducible repeat (first | refine blk_drewN ?_ _ | refine blk_drew ?_ | refine blk_alloc ?_ _)); refine blk_put (cs := #[.bool false, .int .i64 0, .int .i64 0, .int .i64 0]) ?_ 3 _ rfl; (with_reducible repeat (first | refine blk_drewN ?_ _ | refine blk_drew ?_ | refine blk_alloc ?_ _)); refine blk_put (cs := #[.bool false, .int .i64 0, .int .i64 0, .int .i64 0]) ?_ 2 _ rfl; (with_reducible repeat (first | refine blk_drewN ?_ _ | refine blk_drew ?_ | refine blk_alloc ?_ _)); refine blk_put (cs := #[.bool false, .int .i64 0, .int .i64 0, .int .i64 0]) ?_ 1 _ rfl; (with_reducible repeat (first | refine blk_drewN ?_ _ | refine blk_drew ?_ | refine blk_alloc ?_ _)); refine blk_put (cs := #[.bool false, .int .i64 0, .int .i64 0, .int .i64 0]) ?_ 0 _ rfl; exact bk_ BK266)) : gb266 ≠ gb267)); have n6_ := Aside0.mk ((by rw [hg]; exact Nat.ne_of_gt (blk_lt (g := gb266) (o := .cells #[.bool false, .int .i64 0, .int .i64 0, .int .i64 0] 54 (0, 0)) (by (with_reducible repeat (first | refine blk_drewN ?_ _ | refine blk_drew ?_ | refine blk_alloc ?_ _)); refine blk_put (cs := #[.bool false, .int .i64 0, .int .i64 0, .int .i64 0]) ?_ 3 _ rfl; (with_reducible repeat (first | refine blk_drewN ?_ _ | refine blk_drew ?_ | refine blk_alloc ?_ _)); refine blk_put (cs := #[.bool false, .int .i64 0, .int .i64 0, .int .i64 0]) ?_ 2 _ rfl; (with_reducible repeat (first | refine blk_drewN ?_ _ | refine blk_drew ?_ | refine blk_alloc ?_ _)); refine blk_put (cs := #[.bool false, .int .i64 0, .int .i64 0, .int .i64 0]) ?_ 1 _ rfl; (with_reducible repeat (first | refine blk_drewN ?_ _ | refine blk_drew ?_ | refine blk_alloc ?_ _)); refine blk_put (cs := #[.bool false, .int .i64 0, .int .i64 0, .int .i64 0]) ?_ 0 _ rfl; exact bk_ BK266)) : gb267 ≠ gb266)); clear BK266; clear HB; have BK266 := n0_; have HB := n1_; have BK267 := n2_; have GW267 := n3_; have GE267 := n4_; have NB266_267 := n5_; have NB267_266 := n6_; clear n0_ n1_ n2_ n3_ n4_ n5_ n6_; clear hb hbox hg; have hnb7 := NB267_266.out; have hnc7 := NB266_267.out; have hcz8_0 : w6.cell? ⟨gb267, 0, none⟩ = some (.int .i64 0) := (blk_cell BK267.out 0).trans rfl; have hcz8_1 : w6.cell? ⟨gb267, 1, none⟩ = some (.int .i64 0) := (blk_cell BK267.out 1).trans rfl; have hcz8_2 : w6.cell? ⟨gb267, 2, none⟩ = some (.int .i64 0) := (blk_cell BK267.out 2).trans rfl; have hfz8_0 := blk_frozen BK267.out 0; have hfz8_1 := blk_frozen BK267.out 1; have hfz8_2 := blk_frozen BK267.out 2) | ((with_reducible refine gate_dst (N := 5) rfl ?_); refine box_event ?hg (N := 5) ?hd (cs := #[.int .i64 0, .int .i64 0, .int .i64 0]) (t := 35) ?hr ?_; (case hd => rfl); (case hg => rfl); (case hr => first | (go_simp; done) | (go_simp; rfl)); intro gb268 hg w9 hbox hb; have n0_ := Aside0.mk (blk_below (g := gb266) (o := .cells #[.bool false, .int .i64 0, .int .i64 0, .int .i64 0] 54 (0, 0)) (by (with_reducible repeat (first | refine blk_drewN ?_ _ | refine blk_drew ?_ | refine blk_alloc ?_ _)); refine blk_far ?_ NB266_267.out _; (with_reducible repeat (first | refine blk_drewN ?_ _ | refine blk_drew ?_ | refine blk_alloc ?_ _)); refine blk_far ?_ NB266_267.out _; (with_reducible repeat (first | refine blk_drewN ?_ _ | refine blk_drew ?_ | refine blk_alloc ?_ _)); refine blk_far ?_ NB266_267.out _; exact bk_ BK266) hb); have n1_ := Aside0.mk (blk_below (g := gb267) (o := .cells #[.int .i64 1000, .int .i64 1000, .int .i64 1000] 35 (0, 0)) (by (with_reducible repeat (first | refine blk_drewN ?_ _ | refine blk_drew ?_ | refine blk_alloc ?_ _)); refine blk_put (cs := #[.int .i64 1000, .int .i64 1000, .int .i64 0]) ?_ 2 _ rfl; (with_reducible repeat (first | refine blk_drewN ?_ _ | refine blk_drew ?_ | refine blk_alloc ?_ _)); refine blk_put (cs := #[.int .i64 1000, .int .i64 0, .int .i64 0]) ?_ 1 _ rfl; (with_reducible repeat (first | refine blk_drewN ?_ _ | refine blk_drew ?_ | refine blk_alloc ?_ _)); refine blk_put (cs := #[.int .i64 0, .int .i64 0, .int .i64 0]) ?_ 0 _ rfl; exact bk_ BK267) hb); have n2_ := Aside0.mk (below_step (by repeat (first | (with_reducible first | exact HB.out | apply below_alloc | apply pw_below_drewN | apply below_drew1 | refine below_set ?_ GE266.out | refine below_set ?_ GE267.out) | exact HB.out)) hb); have n3_ := Aside0.mk (hbox); have n4_ := Aside0.mk ((by rw [hg]; exact (below_size (by repeat (first | (with_reducible first | exact HB.out | apply below_alloc | apply pw_below_drewN | apply below_drew1 | refine below_set ?_ GE266.out | refine below_set ?_ GE267.out) | exact HB.out))) : w.heap.size ≤ gb268)); have n5_ := Aside0.mk ((by rw [hg]; exact (below_size (by repeat (first | (with_reducible first | exact HB.out | apply below_alloc | apply pw_below_drewN | apply below_drew1 | refine below_set ?_ GE266.out | refine below_set ?_ GE267.out) | exact HB.out))) : w.heap.size ≤ gb268)); have n6_ := Aside0.mk ((by rw [hg]; exact Nat.ne_of_lt (blk_lt (g := gb266) (o := .cells #[.bool false, .int .i64 0, .int .i64 0, .int .i64 0] 54 (0, 0)) (by (with_reducible repeat (first | refine blk_drewN ?_ _ | refine blk_drew ?_ | refine blk_alloc ?_ _)); refine blk_far ?_ NB266_267.out _; (with_reducible repeat (first | refine blk_drewN ?_ _ | refine blk_drew ?_ | refine blk_alloc ?_ _)); refine blk_far ?_ NB266_267.out _; (with_reducible repeat (first | refine blk_drewN ?_ _ | refine blk_drew ?_ | refine blk_alloc ?_ _)); refine blk_far ?_ NB266_267.out _; exact bk_ BK266)) : gb266 ≠ gb268)); have n7_ := Aside0.mk ((by rw [hg]; exact Nat.ne_of_gt (blk_lt (g := gb266) (o := .cells #[.bool false, .int .i64 0, .int .i64 0, .int .i64 0] 54 (0, 0)) (by (with_reducible repeat (first | refine blk_drewN ?_ _ | refine blk_drew ?_ | refine blk_alloc ?_ _)); refine blk_far ?_ NB266_267.out _; (with_reducible repeat (first | refine blk_drewN ?_ _ | refine blk_drew ?_ | refine blk_alloc ?_ _)); refine blk_far ?_ NB266_267.out _; (with_reducible repeat (first | refine blk_drewN ?_ _ | refine blk_drew ?_ | refine blk_alloc ?_ _)); refine blk_far ?_ NB266_267.out _; exact bk_ BK266)) : gb268 ≠ gb266)); have n8_ := Aside0.mk ((by rw [hg]; exact Nat.ne_of_lt (blk_lt (g := gb267) (o := .cells #[.int .i64 1000, .int .i64 1000, .int .i64 1000] 35 (0, 0)) (by (with_reducible repeat (first | refine blk_drewN ?_ _ | refine blk_drew ?_ | refine blk_alloc ?_ _)); refine blk_put (cs := #[.int .i64 1000, .int .i64 1000, .int .i64 0]) ?_ 2 _ rfl; (with_reducible repeat (first | refine blk_drewN ?_ _ | refine blk_drew ?_ | refine blk_alloc ?_ _)); refine blk_put (cs := #[.int .i64 1000, .int .i64 0, .int .i64 0]) ?_ 1 _ rfl; (with_reducible repeat (first | refine blk_drewN ?_ _ | refine blk_drew ?_ | refine blk_alloc ?_ _)); refine blk_put (cs := #[.int .i64 0, .int .i64 0, .int .i64 0]) ?_ 0 _ rfl; exact bk_ BK267)) : gb267 ≠ gb268)); have n9_ := Aside0.mk ((by rw [hg]; exact Nat.ne_of_gt (blk_lt (g := gb267) (o := .cells #[.int .i64 1000, .int .i64 1000, .int .i64 1000] 35 (0, 0)) (by (with_reducible repeat (first | refine blk_drewN ?_ _ | refine blk_drew ?_ | refine blk_alloc ?_ _)); refine blk_put (cs := #[.int .i64 1000, .int .i64 1000, .int .i64 0]) ?_ 2 _ rfl; (with_reducible repeat (first | refine blk_drewN ?_ _ | refine blk_drew ?_ | refine blk_alloc ?_ _)); refine blk_put (cs := #[.int .i64 1000, .int .i64 0, .int .i64 0]) ?_ 1 _ rfl; (with_reducible repeat (first | refine blk_drewN ?_ _ | refine blk_drew ?_ | refine blk_alloc ?_ _)); refine blk_put (cs := #[.int .i64 0, .int .i64 0, .int .i64 0]) ?_ 0 _ rfl; exact bk_ BK267)) : gb268 ≠ gb267)); clear BK266; clear BK267; clear HB; have BK266 := n0_; have BK267 := n1_; have HB := n2_; have BK268 := n3_; have GW268 := n4_; have GE268 := n5_; have NB266_268 := n6_; have NB268_266 := n7_; have NB267_268 := n8_; have NB268_267 := n9_; clear n0_ n1_ n2_ n3_ n4_ n5_ n6_ n7_ n8_ n9_; clear hb hbox hg; have hnb10 := NB268_266.out; have hnc10 := NB266_268.out; have hnb11 := NB268_267.out; have hnc11 := NB267_268.out; have hcz12_0 : w9.cell? ⟨gb268, 0, none⟩ = some (.int .i64 0) := (blk_cell BK268.out 0).trans rfl; have hcz12_1 : w9.cell? ⟨gb268, 1, none⟩ = some (.int .i64 0) := (blk_cell BK268.out 1).trans rfl; have hcz12_2 : w9.cell? ⟨gb268, 2, none⟩ = some (.int .i64 0) := (blk_cell BK268.out 2).trans rfl; have hfz12_0 := blk_frozen BK268.out 0; have hfz12_1 := blk_frozen BK268.out 1; have hfz12_2 := blk_frozen BK268.out 2))
  go_loopg [6] k (fun kq v6 w' => ∃ (x6_1 : Int) (x267000_1 : Bool) (x267001_1 : Int) (x267002_1 : Int) (x267003_1 : Int) (x268000_1 : Int) (x268001_1 : Int) (x268002_1 : Int) (x269000_1 : Int) (x269001_1 : Int) (x269002_1 : Int), v6 = .int .i64 x6_1 ∧ Aside0 (laws_FnEstWithin.l0 kq l0 x6_1 x267000_1 x267001_1 x267002_1 x267003_1 x268000_1 x268001_1 x268002_1 x269000_1 x269001_1 x269002_1 = some r) ∧ Aside0 (kq ≤ k) ∧ Aside0 (w'.heap[gb266]? = some (.cells #[.bool x267000_1, .int .i64 x267001_1, .int .i64 x267002_1, .int .i64 x267003_1] 54 (0, 0))) ∧ Aside0 (w'.heap[gb267]? = some (.cells #[.int .i64 x268000_1, .int .i64 x268001_1, .int .i64 x268002_1] 35 (0, 0))) ∧ Aside0 (w'.heap[gb268]? = some (.cells #[.int .i64 x269000_1, .int .i64 x269001_1, .int .i64 x269002_1] 35 (0, 0))) ∧ Aside0 (Below w.heap.size w w'))
  case atStart => exact ⟨(0), (false), (0), (0), (0), (1000), (1000), (1000), (0), (0), (0), (by first | rfl | (simp; done) | (simp [*]; done)), H', ⟨Nat.le_refl _⟩, ⟨by (with_reducible repeat (first | refine blk_drewN ?_ _ | refine blk_drew ?_ | refine blk_alloc ?_ _)); refine blk_far ?_ NB266_268.out _; (with_reducible repeat (first | refine blk_drewN ?_ _ | refine blk_drew ?_ | refine blk_alloc ?_ _)); refine blk_far ?_ NB266_268.out _; (with_reducible repeat (first | refine blk_drewN ?_ _ | refine blk_drew ?_ | refine blk_alloc ?_ _)); refine blk_far ?_ NB266_268.out _; exact bk_ BK266⟩, ⟨by (with_reducible repeat (first | refine blk_drewN ?_ _ | refine blk_drew ?_ | refine blk_alloc ?_ _)); refine blk_far ?_ NB267_268.out _; (with_reducible repeat (first | refine blk_drewN ?_ _ | refine blk_drew ?_ | refine blk_alloc ?_ _)); refine blk_far ?_ NB267_268.out _; (with_reducible repeat (first | refine blk_drewN ?_ _ | refine blk_drew ?_ | refine blk_alloc ?_ _)); refine blk_far ?_ NB267_268.out _; exact bk_ BK267⟩, ⟨by (with_reducible repeat (first | refine blk_drewN ?_ _ | refine blk_drew ?_ | refine blk_alloc ?_ _)); refine blk_put (cs := #[.int .i64 0, .int .i64 0, .int .i64 0]) ?_ 2 _ rfl; (with_reducible repeat (first | refine blk_drewN ?_ _ | refine blk_drew ?_ | refine blk_alloc ?_ _)); refine blk_put (cs := #[.int .i64 0, .int .i64 0, .int .i64 0]) ?_ 1 _ rfl; (with_reducible repeat (first | refine blk_drewN ?_ _ | refine blk_drew ?_ | refine blk_alloc ?_ _)); refine blk_put (cs := #[.int .i64 0, .int .i64 0, .int .i64 0]) ?_ 0 _ rfl; exact bk_ BK268⟩, ⟨by repeat (first | (with_reducible first | exact HB.out | apply below_alloc | apply pw_below_drewN | apply below_drew1 | refine below_set ?_ GE266.out | refine below_set ?_ GE267.out | refine below_set ?_ GE268.out) | exact HB.out)⟩⟩
  case round =>
   clear H'
   try clear c1
   try clear p2
   try clear c3
   try clear c7
   try clear c10
   try clear c11
   try clear hcz12_0
   try clear hcz12_1
   try clear hcz12_2
   try clear hcz5_0
   try clear hcz5_1
   try clear hcz5_2
   try clear hcz5_3
   try clear hcz8_0
   try clear hcz8_1
   try clear hcz8_2
   try clear hfz12_0
   try clear hfz12_1
   try clear hfz12_2
   try clear hfz5_0
   try clear hfz5_1
   try clear hfz5_2
   try clear hfz5_3
   try clear hfz8_0
   try clear hfz8_1
   try clear hfz8_2
   obtain ⟨x6_1, x267000_1, x267001_1, x267002_1, x267003_1, x268000_1, x268001_1, x268002_1, x269000_1, x269001_1, x269002_1, rfl, HA, HK1, BK266, BK267, BK268, HB⟩ := hrel
   cases gk with
   | zero => exact absurd HA.out (by simp [laws_FnEstWithin.l0])
   | succ k1 =>
    have H := HA.out
    clear HA
    simp only [laws_FnEstWithin.l0] at H
    obtain ⟨ji13, hji13⟩ : ∃ j_ : Int, (mn 11 (wrap64 ((l0.length : Int) / 3))) = j_ := ⟨_, rfl⟩
    replace H : (if x6_1 < (wrap64 (1 + (ji13))) then (if 0 ≤ (mn (l0.length : Int) (wrap64 (3 * x6_1))) then (if (mn (l0.length : Int) (wrap64 (3 * x6_1))) ≤ (l0.length : Int) then ((spec_DrawEstLearn.f k1 (l0.drop ((mn (l0.length : Int) (wrap64 (3 * x6_1))) : Int).toNat)).bind fun bt270 => ((spec_CostOk.f bt270.2.2.2.2.1 bt270.2.2.2.2.2.1 bt270.2.2.2.2.2.2).bind fun t279 => (if t279 = true then ((impl_EstLearn.f k1 x267000_1 x267001_1 x267002_1 x267003_1 bt270.2.2.2.2.1 bt270.2.2.2.2.2.1 bt270.2.2.2.2.2.2).bind fun bt280 => ((spec_VecMost.f x269000_1 x269001_1 x269002_1 bt270.2.2.2.2.1 bt270.2.2.2.2.2.1 bt270.2.2.2.2.2.2).bind fun bt284 => ((impl_EstTell.f k1 bt280.1 bt280.2.1 bt280.2.2.1 bt280.2.2.2 1 1 1).bind fun bt287 => (laws_FnEstWithin.l1 k1 l0 x6_1 0 bt280.1 bt280.2.1 bt280.2.2.1 bt280.2.2.2 (mn x268000_1 bt270.2.2.2.2.1) (mn x268001_1 bt270.2.2.2.2.2.1) (mn x268002_1 bt270.2.2.2.2.2.2) bt284.1 bt284.2.1 bt284.2.2 bt287.1 bt287.2.1 bt287.2.2)))) else (laws_FnEstWithin.l0 k1 l0 (wrap64 (x6_1 + 1)) x267000_1 x267001_1 x267002_1 x267003_1 x268000_1 x268001_1 x268002_1 x269000_1 x269001_1 x269002_1)))) else (none)) else (none)) else (some true)) = some r := by first | (rw [hji13] at H; exact H) | (simp only [hji13] at H ⊢; exact H)
    have hji13_ : (if (wrap64 ((l0.length : Int) / 3)) < 11 then (wrap64 ((l0.length : Int) / 3)) else 11) = ji13 := hji13
    by_cases c14 : x6_1 < (wrap64 (1 + (ji13)))
    ·rw [if_pos c14] at H
     have c14b0 : decide (x6_1 < (wrap64 (1 + (ji13)))) = true := decide_eq_true c14
     clear c14
     obtain ⟨ji15, hji15⟩ : ∃ j_ : Int, (mn (l0.length : Int) (wrap64 (3 * x6_1))) = j_ := ⟨_, rfl⟩
     replace H : (if 0 ≤ (ji15) then (if (ji15) ≤ (l0.length : Int) then ((spec_DrawEstLearn.f k1 (l0.drop ((ji15) : Int).toNat)).bind fun bt270 => ((spec_CostOk.f bt270.2.2.2.2.1 bt270.2.2.2.2.2.1 bt270.2.2.2.2.2.2).bind fun t279 => (if t279 = true then ((impl_EstLearn.f k1 x267000_1 x267001_1 x267002_1 x267003_1 bt270.2.2.2.2.1 bt270.2.2.2.2.2.1 bt270.2.2.2.2.2.2).bind fun bt280 => ((spec_VecMost.f x269000_1 x269001_1 x269002_1 bt270.2.2.2.2.1 bt270.2.2.2.2.2.1 bt270.2.2.2.2.2.2).bind fun bt284 => ((impl_EstTell.f k1 bt280.1 bt280.2.1 bt280.2.2.1 bt280.2.2.2 1 1 1).bind fun bt287 => (laws_FnEstWithin.l1 k1 l0 x6_1 0 bt280.1 bt280.2.1 bt280.2.2.1 bt280.2.2.2 (mn x268000_1 bt270.2.2.2.2.1) (mn x268001_1 bt270.2.2.2.2.2.1) (mn x268002_1 bt270.2.2.2.2.2.2) bt284.1 bt284.2.1 bt284.2.2 bt287.1 bt287.2.1 bt287.2.2)))) else (laws_FnEstWithin.l0 k1 l0 (wrap64 (x6_1 + 1)) x267000_1 x267001_1 x267002_1 x267003_1 x268000_1 x268001_1 x268002_1 x269000_1 x269001_1 x269002_1)))) else (none)) else (none)) = some r := by first | (rw [hji15] at H; exact H) | (simp only [hji15] at H ⊢; exact H)
     have hji15_ : (if (wrap64 (3 * x6_1)) < (l0.length : Int) then (wrap64 (3 * x6_1)) else (l0.length : Int)) = ji15 := hji15
     by_cases c16 : 0 ≤ (ji15)
     ·rw [if_pos c16] at H
      have c16b0 := eq_true c16
      have c16b1 : decide (0 ≤ (ji15)) = true := decide_eq_true c16
      clear c16
      by_cases c17 : (ji15) ≤ (l0.length : Int)
      ·rw [if_pos c17] at H
       have c17b0 := eq_true c17
       have c17b1 : decide ((ji15) ≤ (l0.length : Int)) = true := decide_eq_true c17
       clear c17
       replace H := Option.bind_eq_some_iff.mp H
       obtain ⟨⟨t270, t271, t272, t273, t274, t275, t276⟩, A180, H⟩ := H
       replace H : ((spec_CostOk.f t274 t275 t276).bind fun t279 => (if t279 = true then ((impl_EstLearn.f k1 x267000_1 x267001_1 x267002_1 x267003_1 t274 t275 t276).bind fun bt280 => ((spec_VecMost.f x269000_1 x269001_1 x269002_1 t274 t275 t276).bind fun bt284 => ((impl_EstTell.f k1 bt280.1 bt280.2.1 bt280.2.2.1 bt280.2.2.2 1 1 1).bind fun bt287 => (laws_FnEstWithin.l1 k1 l0 x6_1 0 bt280.1 bt280.2.1 bt280.2.2.1 bt280.2.2.2 (mn x268000_1 t274) (mn x268001_1 t275) (mn x268002_1 t276) bt284.1 bt284.2.1 bt284.2.2 bt287.1 bt287.2.1 bt287.2.2)))) else (laws_FnEstWithin.l0 k1 l0 (wrap64 (x6_1 + 1)) x267000_1 x267001_1 x267002_1 x267003_1 x268000_1 x268001_1 x268002_1 x269000_1 x269001_1 x269002_1))) = some r := H
       have A18 := Aside0.mk A180
       clear A180
       replace H := Option.bind_eq_some_iff.mp H
       obtain ⟨t279, A190, H⟩ := H
       replace H : (if t279 = true then ((impl_EstLearn.f k1 x267000_1 x267001_1 x267002_1 x267003_1 t274 t275 t276).bind fun bt280 => ((spec_VecMost.f x269000_1 x269001_1 x269002_1 t274 t275 t276).bind fun bt284 => ((impl_EstTell.f k1 bt280.1 bt280.2.1 bt280.2.2.1 bt280.2.2.2 1 1 1).bind fun bt287 => (laws_FnEstWithin.l1 k1 l0 x6_1 0 bt280.1 bt280.2.1 bt280.2.2.1 bt280.2.2.2 (mn x268000_1 t274) (mn x268001_1 t275) (mn x268002_1 t276) bt284.1 bt284.2.1 bt284.2.2 bt287.1 bt287.2.1 bt287.2.2)))) else (laws_FnEstWithin.l0 k1 l0 (wrap64 (x6_1 + 1)) x267000_1 x267001_1 x267002_1 x267003_1 x268000_1 x268001_1 x268002_1 x269000_1 x269001_1 x269002_1)) = some r := H
       have A19 := Aside0.mk A190
       clear A190
       by_cases c20 : t279 = true
       ·subst c20
        have H1 : ((impl_EstLearn.f k1 x267000_1 x267001_1 x267002_1 x267003_1 t274 t275 t276).bind fun bt280 => ((spec_VecMost.f x269000_1 x269001_1 x269002_1 t274 t275 t276).bind fun bt284 => ((impl_EstTell.f k1 bt280.1 bt280.2.1 bt280.2.2.1 bt280.2.2.2 1 1 1).bind fun bt287 => (laws_FnEstWithin.l1 k1 l0 x6_1 0 bt280.1 bt280.2.1 bt280.2.2.1 bt280.2.2.2 (mn x268000_1 t274) (mn x268001_1 t275) (mn x268002_1 t276) bt284.1 bt284.2.1 bt284.2.2 bt287.1 bt287.2.1 bt287.2.2)))) = some r := by rw [if_pos rfl] at H; exact H
        clear H
        have H := H1
        clear H1
        replace H := Option.bind_eq_some_iff.mp H
        obtain ⟨⟨t280, t281, t282, t283⟩, A210, H⟩ := H
        replace H : ((spec_VecMost.f x269000_1 x269001_1 x269002_1 t274 t275 t276).bind fun bt284 => ((impl_EstTell.f k1 t280 t281 t282 t283 1 1 1).bind fun bt287 => (laws_FnEstWithin.l1 k1 l0 x6_1 0 t280 t281 t282 t283 (mn x268000_1 t274) (mn x268001_1 t275) (mn x268002_1 t276) bt284.1 bt284.2.1 bt284.2.2 bt287.1 bt287.2.1 bt287.2.2))) = some r := H
        have A21 := Aside0.mk A210
        clear A210
        obtain ⟨ji22, hji22⟩ : ∃ j_ : Int, (mn x268000_1 t274) = j_ := ⟨_, rfl⟩
        replace H : ((spec_VecMost.f x269000_1 x269001_1 x269002_1 t274 t275 t276).bind fun bt284 => ((impl_EstTell.f k1 t280 t281 t282 t283 1 1 1).bind fun bt287 => (laws_FnEstWithin.l1 k1 l0 x6_1 0 t280 t281 t282 t283 ji22 (mn x268001_1 t275) (mn x268002_1 t276) bt284.1 bt284.2.1 bt284.2.2 bt287.1 bt287.2.1 bt287.2.2))) = some r := by first | (rw [hji22] at H; exact H) | (simp only [hji22] at H ⊢; exact H)
        (try rw [hji22] at A18)
        (try rw [hji22] at A19)
        (try rw [hji22] at A21)
        have hji22_ : (if t274 < x268000_1 then t274 else x268000_1) = ji22 := hji22
        obtain ⟨ji23, hji23⟩ : ∃ j_ : Int, (mn x268001_1 t275) = j_ := ⟨_, rfl⟩
        replace H : ((spec_VecMost.f x269000_1 x269001_1 x269002_1 t274 t275 t276).bind fun bt284 => ((impl_EstTell.f k1 t280 t281 t282 t283 1 1 1).bind fun bt287 => (laws_FnEstWithin.l1 k1 l0 x6_1 0 t280 t281 t282 t283 ji22 ji23 (mn x268002_1 t276) bt284.1 bt284.2.1 bt284.2.2 bt287.1 bt287.2.1 bt287.2.2))) = some r := by first | (rw [hji23] at H; exact H) | (simp only [hji23] at H ⊢; exact H)
        (try rw [hji23] at A18)
        (try rw [hji23] at A19)
        (try rw [hji23] at A21)
        have hji23_ : (if t275 < x268001_1 then t275 else x268001_1) = ji23 := hji23
        obtain ⟨ji24, hji24⟩ : ∃ j_ : Int, (mn x268002_1 t276) = j_ := ⟨_, rfl⟩
        replace H : ((spec_VecMost.f x269000_1 x269001_1 x269002_1 t274 t275 t276).bind fun bt284 => ((impl_EstTell.f k1 t280 t281 t282 t283 1 1 1).bind fun bt287 => (laws_FnEstWithin.l1 k1 l0 x6_1 0 t280 t281 t282 t283 ji22 ji23 ji24 bt284.1 bt284.2.1 bt284.2.2 bt287.1 bt287.2.1 bt287.2.2))) = some r := by first | (rw [hji24] at H; exact H) | (simp only [hji24] at H ⊢; exact H)
        (try rw [hji24] at A18)
        (try rw [hji24] at A19)
        (try rw [hji24] at A21)
        have hji24_ : (if t276 < x268002_1 then t276 else x268002_1) = ji24 := hji24
        replace H := Option.bind_eq_some_iff.mp H
        obtain ⟨⟨t284, t285, t286⟩, A250, H⟩ := H
        replace H : ((impl_EstTell.f k1 t280 t281 t282 t283 1 1 1).bind fun bt287 => (laws_FnEstWithin.l1 k1 l0 x6_1 0 t280 t281 t282 t283 ji22 ji23 ji24 t284 t285 t286 bt287.1 bt287.2.1 bt287.2.2)) = some r := H
        have A25 := Aside0.mk A250
        clear A250
        replace H := Option.bind_eq_some_iff.mp H
        obtain ⟨⟨t287, t288, t289⟩, A260, H⟩ := H
        replace H : (laws_FnEstWithin.l1 k1 l0 x6_1 0 t280 t281 t282 t283 ji22 ji23 ji24 t284 t285 t286 t287 t288 t289) = some r := H
        have A26 := Aside0.mk A260
        clear A260
        have H' := Aside0.mk H
        clear H
        obtain ⟨i027, hi027, _, hsz27, _⟩ := info_parts info5
        obtain ⟨A27, hcut27, hA27, hC27⟩ := print_drop_of (P := Try.prog) (Value.int .u8) 0 28 5 .i64 Try.underlying28 hi027 hsz27 A0 c0 l0 (ji15) (of_decide_eq_true (by first | (with_reducible assumption) | assumption)) (of_decide_eq_true (by first | (with_reducible assumption) | assumption)) HC0.out
        have HR269 := Aside0.mk (Kd.C_of_reads (h1 := fun _ => rfl) (hA27 _ (Kd.reads_of_C HR0.out)))
        have HC269 := Aside0.mk hC27
        clear hA27 hC27 hi027 hsz27
        go_wp2_with (first | ((with_reducible refine gate_callee (f := 52) rfl ?_); refine goesL_ (some 33) rfl rfl Try.func52 (by kernel_rfl) rfl #[.slice A27 (l0.drop ((ji15) : Int).toNat).length (c0 - (ji15).toNat)] rfl (by (try simp only [List.map_toArray, List.map_cons, List.map_nil]); first | done | (rw [show (l0.drop ((ji15) : Int).toNat).length = (l0.length - (ji15).toNat) from List.length_drop] <;> rfl) | (simp only [hji15]; rfl) | rfl | (simp only [List.length_drop, List.length_take]; rfl)) ?_; (with_reducible refine (spec_DrawEstLearn.calls k1 _ _ (l0.drop ((ji15) : Int).toNat) t270 t271 t272 t273 t274 t275 t276 _ ?side1 ?side2 A18.out).mono ?_); (case side1 => repeat (first | exact (Kd.C_below HR269.out HB.out) | (with_reducible refine Kd.C_alloc ?_ _) | (with_reducible refine Kd.C_drewN ?_ _) | (with_reducible refine Kd.C_drew ?_))); (case side2 => exact HC269.out); rintro e w28 ⟨rfl, hb⟩; refine ⟨_, rfl, ?_⟩; have n0_ := Aside0.mk (blk_below (g := gb266) (o := .cells #[.bool x267000_1, .int .i64 x267001_1, .int .i64 x267002_1, .int .i64 x267003_1] 54 (0, 0)) (bk_ BK266) hb); have n1_ := Aside0.mk (blk_below (g := gb267) (o := .cells #[.int .i64 x268000_1, .int .i64 x268001_1, .int .i64 x268002_1] 35 (0, 0)) (bk_ BK267) hb); have n2_ := Aside0.mk (blk_below (g := gb268) (o := .cells #[.int .i64 x269000_1, .int .i64 x269001_1, .int .i64 x269002_1] 35 (0, 0)) (bk_ BK268) hb); have n3_ := Aside0.mk (below_step (by repeat (first | (with_reducible first | exact HB.out | apply below_alloc | apply pw_below_drewN | apply below_drew1 | refine below_set ?_ GE266.out | refine below_set ?_ GE267.out | refine below_set ?_ GE268.out) | exact HB.out)) hb); clear BK266; clear BK267; clear BK268; clear HB; have BK266 := n0_; have BK267 := n1_; have BK268 := n2_; have HB := n3_; clear n0_ n1_ n2_ n3_; (try clear hb); (try clear hb2); (try clear hk); (try clear hi)) | ((with_reducible refine gate_dst (N := 7) rfl ?_); refine box_event ?hg (N := 7) ?hd (cs := #[.bool false, .int .i64 0, .int .i64 0, .int .i64 0]) (t := 54) ?hr ?_; (case hd => rfl); (case hg => rfl); (case hr => first | (go_simp; done) | (go_simp; rfl)); intro gb277 hg w29 hbox hb; have n0_ := Aside0.mk (blk_below (g := gb266) (o := .cells #[.bool x267000_1, .int .i64 x267001_1, .int .i64 x267002_1, .int .i64 x267003_1] 54 (0, 0)) (bk_ BK266) hb); have n1_ := Aside0.mk (blk_below (g := gb267) (o := .cells #[.int .i64 x268000_1, .int .i64 x268001_1, .int .i64 x268002_1] 35 (0, 0)) (bk_ BK267) hb); have n2_ := Aside0.mk (blk_below (g := gb268) (o := .cells #[.int .i64 x269000_1, .int .i64 x269001_1, .int .i64 x269002_1] 35 (0, 0)) (bk_ BK268) hb); have n3_ := Aside0.mk (below_step (by repeat (first | (with_reducible first | exact HB.out | apply below_alloc | apply pw_below_drewN | apply below_drew1 | refine below_set ?_ GE266.out | refine below_set ?_ GE267.out | refine below_set ?_ GE268.out) | exact HB.out)) hb); have n4_ := Aside0.mk (hbox); have n5_ := Aside0.mk ((by rw [hg]; exact (below_size (by repeat (first | (with_reducible first | exact HB.out | apply below_alloc | apply pw_below_drewN | apply below_drew1 | refine below_set ?_ GE266.out | refine below_set ?_ GE267.out | refine below_set ?_ GE268.out) | exact HB.out))) : w.heap.size ≤ gb277)); have n6_ := Aside0.mk ((by rw [hg]; exact (below_size (by repeat (first | (with_reducible first | exact HB.out | apply below_alloc | apply pw_below_drewN | apply below_drew1 | refine below_set ?_ GE266.out | refine below_set ?_ GE267.out | refine below_set ?_ GE268.out) | exact HB.out))) : w.heap.size ≤ gb277)); have n7_ := Aside0.mk ((by rw [hg]; exact Nat.ne_of_lt (blk_lt (g := gb266) (o := .cells #[.bool x267000_1, .int .i64 x267001_1, .int .i64 x267002_1, .int .i64 x267003_1] 54 (0, 0)) (bk_ BK266)) : gb266 ≠ gb277)); have n8_ := Aside0.mk ((by rw [hg]; exact Nat.ne_of_gt (blk_lt (g := gb266) (o := .cells #[.bool x267000_1, .int .i64 x267001_1, .int .i64 x267002_1, .int .i64 x267003_1] 54 (0, 0)) (bk_ BK266)) : gb277 ≠ gb266)); have n9_ := Aside0.mk ((by rw [hg]; exact Nat.ne_of_lt (blk_lt (g := gb267) (o := .cells #[.int .i64 x268000_1, .int .i64 x268001_1, .int .i64 x268002_1] 35 (0, 0)) (bk_ BK267)) : gb267 ≠ gb277)); have n10_ := Aside0.mk ((by rw [hg]; exact Nat.ne_of_gt (blk_lt (g := gb267) (o := .cells #[.int .i64 x268000_1, .int .i64 x268001_1, .int .i64 x268002_1] 35 (0, 0)) (bk_ BK267)) : gb277 ≠ gb267)); have n11_ := Aside0.mk ((by rw [hg]; exact Nat.ne_of_lt (blk_lt (g := gb268) (o := .cells #[.int .i64 x269000_1, .int .i64 x269001_1, .int .i64 x269002_1] 35 (0, 0)) (bk_ BK268)) : gb268 ≠ gb277)); have n12_ := Aside0.mk ((by rw [hg]; exact Nat.ne_of_gt (blk_lt (g := gb268) (o := .cells #[.int .i64 x269000_1, .int .i64 x269001_1, .int .i64 x269002_1] 35 (0, 0)) (bk_ BK268)) : gb277 ≠ gb268)); clear BK266; clear BK267; clear BK268; clear HB; have BK266 := n0_; have BK267 := n1_; have BK268 := n2_; have HB := n3_; have BK277 := n4_; have GW277 := n5_; have GE277 := n6_; have NB266_277 := n7_; have NB277_266 := n8_; have NB267_277 := n9_; have NB277_267 := n10_; have NB268_277 := n11_; have NB277_268 := n12_; clear n0_ n1_ n2_ n3_ n4_ n5_ n6_ n7_ n8_ n9_ n10_ n11_ n12_; clear hb hbox hg) | ((with_reducible refine gate_dst (N := 8) rfl ?_); refine box_event ?hg (N := 8) ?hd (cs := #[.int .i64 0, .int .i64 0, .int .i64 0]) (t := 35) ?hr ?_; (case hd => rfl); (case hg => rfl); (case hr => first | (go_simp; done) | (go_simp; rfl)); intro gb278 hg w30 hbox hb; have n0_ := Aside0.mk (blk_below (g := gb266) (o := .cells #[.bool x267000_1, .int .i64 x267001_1, .int .i64 x267002_1, .int .i64 x267003_1] 54 (0, 0)) (bk_ BK266) hb); have n1_ := Aside0.mk (blk_below (g := gb267) (o := .cells #[.int .i64 x268000_1, .int .i64 x268001_1, .int .i64 x268002_1] 35 (0, 0)) (bk_ BK267) hb); have n2_ := Aside0.mk (blk_below (g := gb268) (o := .cells #[.int .i64 x269000_1, .int .i64 x269001_1, .int .i64 x269002_1] 35 (0, 0)) (bk_ BK268) hb); have n3_ := Aside0.mk (blk_below (g := gb277) (o := .cells #[.bool false, .int .i64 0, .int .i64 0, .int .i64 0] 54 (0, 0)) (bk_ BK277) hb); have n4_ := Aside0.mk (below_step (by repeat (first | (with_reducible first | exact HB.out | apply below_alloc | apply pw_below_drewN | apply below_drew1 | refine below_set ?_ GE266.out | refine below_set ?_ GE267.out | refine below_set ?_ GE268.out | refine below_set ?_ GE277.out) | exact HB.out)) hb); have n5_ := Aside0.mk (hbox); have n6_ := Aside0.mk ((by rw [hg]; exact (below_size (by repeat (first | (with_reducible first | exact HB.out | apply below_alloc | apply pw_below_drewN | apply below_drew1 | refine below_set ?_ GE266.out | refine below_set ?_ GE267.out | refine below_set ?_ GE268.out | refine below_set ?_ GE277.out) | exact HB.out))) : w.heap.size ≤ gb278)); have n7_ := Aside0.mk ((by rw [hg]; exact (below_size (by repeat (first | (with_reducible first | exact HB.out | apply below_alloc | apply pw_below_drewN | apply below_drew1 | refine below_set ?_ GE266.out | refine below_set ?_ GE267.out | refine below_set ?_ GE268.out | refine below_set ?_ GE277.out) | exact HB.out))) : w.heap.size ≤ gb278)); have n8_ := Aside0.mk ((by rw [hg]; exact Nat.ne_of_lt (blk_lt (g := gb266) (o := .cells #[.bool x267000_1, .int .i64 x267001_1, .int .i64 x267002_1, .int .i64 x267003_1] 54 (0, 0)) (bk_ BK266)) : gb266 ≠ gb278)); have n9_ := Aside0.mk ((by rw [hg]; exact Nat.ne_of_gt (blk_lt (g := gb266) (o := .cells #[.bool x267000_1, .int .i64 x267001_1, .int .i64 x267002_1, .int .i64 x267003_1] 54 (0, 0)) (bk_ BK266)) : gb278 ≠ gb266)); have n10_ := Aside0.mk ((by rw [hg]; exact Nat.ne_of_lt (blk_lt (g := gb267) (o := .cells #[.int .i64 x268000_1, .int .i64 x268001_1, .int .i64 x268002_1] 35 (0, 0)) (bk_ BK267)) : gb267 ≠ gb278)); have n11_ := Aside0.mk ((by rw [hg]; exact Nat.ne_of_gt (blk_lt (g := gb267) (o := .cells #[.int .i64 x268000_1, .int .i64 x268001_1, .int .i64 x268002_1] 35 (0, 0)) (bk_ BK267)) : gb278 ≠ gb267)); have n12_ := Aside0.mk ((by rw [hg]; exact Nat.ne_of_lt (blk_lt (g := gb268) (o := .cells #[.int .i64 x269000_1, .int .i64 x269001_1, .int .i64 x269002_1] 35 (0, 0)) (bk_ BK268)) : gb268 ≠ gb278)); have n13_ := Aside0.mk ((by rw [hg]; exact Nat.ne_of_gt (blk_lt (g := gb268) (o := .cells #[.int .i64 x269000_1, .int .i64 x269001_1, .int .i64 x269002_1] 35 (0, 0)) (bk_ BK268)) : gb278 ≠ gb268)); have n14_ := Aside0.mk ((by rw [hg]; exact Nat.ne_of_lt (blk_lt (g := gb277) (o := .cells #[.bool false, .int .i64 0, .int .i64 0, .int .i64 0] 54 (0, 0)) (bk_ BK277)) : gb277 ≠ gb278)); have n15_ := Aside0.mk ((by rw [hg]; exact Nat.ne_of_gt (blk_lt (g := gb277) (o := .cells #[.bool false, .int .i64 0, .int .i64 0, .int .i64 0] 54 (0, 0)) (bk_ BK277)) : gb278 ≠ gb277)); clear BK266; clear BK267; clear BK268; clear BK277; clear HB; have BK266 := n0_; have BK267 := n1_; have BK268 := n2_; have BK277 := n3_; have HB := n4_; have BK278 := n5_; have GW278 := n6_; have GE278 := n7_; have NB266_278 := n8_; have NB278_266 := n9_; have NB267_278 := n10_; have NB278_267 := n11_; have NB268_278 := n12_; have NB278_268 := n13_; have NB277_278 := n14_; have NB278_277 := n15_; clear n0_ n1_ n2_ n3_ n4_ n5_ n6_ n7_ n8_ n9_ n10_ n11_ n12_ n13_ n14_ n15_; clear hb hbox hg; have hnb31 := NB277_266.out; have hnc31 := NB266_277.out; have hnb32 := NB277_267.out; have hnc32 := NB267_277.out; have hnb33 := NB277_268.out; have hnc33 := NB268_277.out; have hnb34 := NB277_278.out; have hnc34 := NB278_277.out; have hcz35_0 : w30.cell? ⟨gb277, 0, none⟩ = some (.bool false) := (blk_cell BK277.out 0).trans rfl; have hcz35_1 : w30.cell? ⟨gb277, 1, none⟩ = some (.int .i64 0) := (blk_cell BK277.out 1).trans rfl; have hcz35_2 : w30.cell? ⟨gb277, 2, none⟩ = some (.int .i64 0) := (blk_cell BK277.out 2).trans rfl; have hcz35_3 : w30.cell? ⟨gb277, 3, none⟩ = some (.int .i64 0) := (blk_cell BK277.out 3).trans rfl; have hfz35_0 := blk_frozen BK277.out 0; have hfz35_1 := blk_frozen BK277.out 1; have hfz35_2 := blk_frozen BK277.out 2; have hfz35_3 := blk_frozen BK277.out 3; have hnb36 := NB278_266.out; have hnc36 := NB266_278.out; have hnb37 := NB278_267.out; have hnc37 := NB267_278.out; have hnb38 := NB278_268.out; have hnc38 := NB268_278.out; have hcz39_0 : w30.cell? ⟨gb278, 0, none⟩ = some (.int .i64 0) := (blk_cell BK278.out 0).trans rfl; have hcz39_1 : w30.cell? ⟨gb278, 1, none⟩ = some (.int .i64 0) := (blk_cell BK278.out 1).trans rfl; have hcz39_2 : w30.cell? ⟨gb278, 2, none⟩ = some (.int .i64 0) := (blk_cell BK278.out 2).trans rfl; have hfz39_0 := blk_frozen BK278.out 0; have hfz39_1 := blk_frozen BK278.out 1; have hfz39_2 := blk_frozen BK278.out 2) | ((with_reducible refine gate_callee (f := 33) rfl ?_); refine goesL_ (some 37) rfl rfl Try.func33 (by kernel_rfl) rfl #[.agg #[.int .i64 t274, .int .i64 t275, .int .i64 t276]] rfl mt_ ?_; (with_reducible refine (spec_CostOk.calls t274 t275 t276 true _ A19.out).mono ?_); rintro e w40 ⟨rfl, hb⟩; refine ⟨_, rfl, ?_⟩; have n0_ := Aside0.mk (blk_below (g := gb266) (o := .cells #[.bool x267000_1, .int .i64 x267001_1, .int .i64 x267002_1, .int .i64 x267003_1] 54 (0, 0)) (by (with_reducible repeat (first | refine blk_drewN ?_ _ | refine blk_drew ?_ | refine blk_alloc ?_ _)); refine blk_far ?_ NB266_278.out _; (with_reducible repeat (first | refine blk_drewN ?_ _ | refine blk_drew ?_ | refine blk_alloc ?_ _)); refine blk_far ?_ NB266_278.out _; (with_reducible repeat (first | refine blk_drewN ?_ _ | refine blk_drew ?_ | refine blk_alloc ?_ _)); refine blk_far ?_ NB266_278.out _; (with_reducible repeat (first | refine blk_drewN ?_ _ | refine blk_drew ?_ | refine blk_alloc ?_ _)); refine blk_far ?_ NB266_277.out _; (with_reducible repeat (first | refine blk_drewN ?_ _ | refine blk_drew ?_ | refine blk_alloc ?_ _)); refine blk_far ?_ NB266_277.out _; (with_reducible repeat (first | refine blk_drewN ?_ _ | refine blk_drew ?_ | refine blk_alloc ?_ _)); refine blk_far ?_ NB266_277.out _; (with_reducible repeat (first | refine blk_drewN ?_ _ | refine blk_drew ?_ | refine blk_alloc ?_ _)); refine blk_far ?_ NB266_277.out _; exact bk_ BK266) hb); have n1_ := Aside0.mk (blk_below (g := gb267) (o := .cells #[.int .i64 x268000_1, .int .i64 x268001_1, .int .i64 x268002_1] 35 (0, 0)) (by (with_reducible repeat (first | refine blk_drewN ?_ _ | refine blk_drew ?_ | refine blk_alloc ?_ _)); refine blk_far ?_ NB267_278.out _; (with_reducible repeat (first | refine blk_drewN ?_ _ | refine blk_drew ?_ | refine blk_alloc ?_ _)); refine blk_far ?_ NB267_278.out _; (with_reducible repeat (first | refine blk_drewN ?_ _ | refine blk_drew ?_ | refine blk_alloc ?_ _)); refine blk_far ?_ NB267_278.out _; (with_reducible repeat (first | refine blk_drewN ?_ _ | refine blk_drew ?_ | refine blk_alloc ?_ _)); refine blk_far ?_ NB267_277.out _; (with_reducible repeat (first | refine blk_drewN ?_ _ | refine blk_drew ?_ | refine blk_alloc ?_ _)); refine blk_far ?_ NB267_277.out _; (with_reducible repeat (first | refine blk_drewN ?_ _ | refine blk_drew ?_ | refine blk_alloc ?_ _)); refine blk_far ?_ NB267_277.out _; (with_reducible repeat (first | refine blk_drewN ?_ _ | refine blk_drew ?_ | refine blk_alloc ?_ _)); refine blk_far ?_ NB267_277.out _; exact bk_ BK267) hb); have n2_ := Aside0.mk (blk_below (g := gb268) (o := .cells #[.int .i64 x269000_1, .int .i64 x269001_1, .int .i64 x269002_1] 35 (0, 0)) (by (with_reducible repeat (first | refine blk_drewN ?_ _ | refine blk_drew ?_ | refine blk_alloc ?_ _)); refine blk_far ?_ NB268_278.out _; (with_reducible repeat (first | refine blk_drewN ?_ _ | refine blk_drew ?_ | refine blk_alloc ?_ _)); refine blk_far ?_ NB268_278.out _; (with_reducible repeat (first | refine blk_drewN ?_ _ | refine blk_drew ?_ | refine blk_alloc ?_ _)); refine blk_far ?_ NB268_278.out _; (with_reducible repeat (first | refine blk_drewN ?_ _ | refine blk_drew ?_ | refine blk_alloc ?_ _)); refine blk_far ?_ NB268_277.out _; (with_reducible repeat (first | refine blk_drewN ?_ _ | refine blk_drew ?_ | refine blk_alloc ?_ _)); refine blk_far ?_ NB268_277.out _; (with_reducible repeat (first | refine blk_drewN ?_ _ | refine blk_drew ?_ | refine blk_alloc ?_ _)); refine blk_far ?_ NB268_277.out _; (with_reducible repeat (first | refine blk_drewN ?_ _ | refine blk_drew ?_ | refine blk_alloc ?_ _)); refine blk_far ?_ NB268_277.out _; exact bk_ BK268) hb); have n3_ := Aside0.mk (blk_below (g := gb277) (o := .cells #[.bool t270, .int .i64 t271, .int .i64 t272, .int .i64 t273] 54 (0, 0)) (by (with_reducible repeat (first | refine blk_drewN ?_ _ | refine blk_drew ?_ | refine blk_alloc ?_ _)); refine blk_far ?_ NB277_278.out _; (with_reducible repeat (first | refine blk_drewN ?_ _ | refine blk_drew ?_ | refine blk_alloc ?_ _)); refine blk_far ?_ NB277_278.out _; (with_reducible repeat (first | refine blk_drewN ?_ _ | refine blk_drew ?_ | refine blk_alloc ?_ _)); refine blk_far ?_ NB277_278.out _; (with_reducible repeat (first | refine blk_drewN ?_ _ | refine blk_drew ?_ | refine blk_alloc ?_ _)); refine blk_put (cs := #[.bool t270, .int .i64 t271, .int .i64 t272, .int .i64 0]) ?_ 3 _ rfl; (with_reducible repeat (first | refine blk_drewN ?_ _ | refine blk_drew ?_ | refine blk_alloc ?_ _)); refine blk_put (cs := #[.bool t270, .int .i64 t271, .int .i64 0, .int .i64 0]) ?_ 2 _ rfl; (with_reducible repeat (first | refine blk_drewN ?_ _ | refine blk_drew ?_ | refine blk_alloc ?_ _)); refine blk_put (cs := #[.bool t270, .int .i64 0, .int .i64 0, .int .i64 0]) ?_ 1 _ rfl; (with_reducible repeat (first | refine blk_drewN ?_ _ | refine blk_drew ?_ | refine blk_alloc ?_ _)); refine blk_put (cs := #[.bool false, .int .i64 0, .int .i64 0, .int .i64 0]) ?_ 0 _ rfl; exact bk_ BK277) hb); have n4_ := Aside0.mk (blk_below (g := gb278) (o := .cells #[.int .i64 t274, .int .i64 t275, .int .i64 t276] 35 (0, 0)) (by (with_reducible repeat (first | refine blk_drewN ?_ _ | refine blk_drew ?_ | refine blk_alloc ?_ _)); refine blk_put (cs := #[.int .i64 t274, .int .i64 t275, .int .i64 0]) ?_ 2 _ rfl; (with_reducible repeat (first | refine blk_drewN ?_ _ | refine blk_drew ?_ | refine blk_alloc ?_ _)); refine blk_put (cs := #[.int .i64 t274, .int .i64 0, .int .i64 0]) ?_ 1 _ rfl; (with_reducible repeat (first | refine blk_drewN ?_ _ | refine blk_drew ?_ | refine blk_alloc ?_ _)); refine blk_put (cs := #[.int .i64 0, .int .i64 0, .int .i64 0]) ?_ 0 _ rfl; (with_reducible repeat (first | refine blk_drewN ?_ _ | refine blk_drew ?_ | refine blk_alloc ?_ _)); refine blk_far ?_ NB278_277.out _; (with_reducible repeat (first | refine blk_drewN ?_ _ | refine blk_drew ?_ | refine blk_alloc ?_ _)); refine blk_far ?_ NB278_277.out _; (with_reducible repeat (first | refine blk_drewN ?_ _ | refine blk_drew ?_ | refine blk_alloc ?_ _)); refine blk_far ?_ NB278_277.out _; (with_reducible repeat (first | refine blk_drewN ?_ _ | refine blk_drew ?_ | refine blk_alloc ?_ _)); refine blk_far ?_ NB278_277.out _; exact bk_ BK278) hb); have n5_ := Aside0.mk (below_step (by repeat (first | (with_reducible first | exact HB.out | apply below_alloc | apply pw_below_drewN | apply below_drew1 | refine below_set ?_ GE266.out | refine below_set ?_ GE267.out | refine below_set ?_ GE268.out | refine below_set ?_ GE277.out | refine below_set ?_ GE278.out) | exact HB.out)) hb); clear BK266; clear BK267; clear BK268; clear BK277; clear BK278; clear HB; have BK266 := n0_; have BK267 := n1_; have BK268 := n2_; have BK277 := n3_; have BK278 := n4_; have HB := n5_; clear n0_ n1_ n2_ n3_ n4_ n5_; (try clear hb); (try clear hb2); (try clear hk); (try clear hi); have hnb41 := NB266_267.out; have hnc41 := NB267_266.out; have hnb42 := NB266_268.out; have hnc42 := NB268_266.out; have hcz43_0 : w40.cell? ⟨gb266, 0, none⟩ = some (.bool x267000_1) := (blk_cell BK266.out 0).trans rfl; have hcz43_1 : w40.cell? ⟨gb266, 1, none⟩ = some (.int .i64 x267001_1) := (blk_cell BK266.out 1).trans rfl; have hcz43_2 : w40.cell? ⟨gb266, 2, none⟩ = some (.int .i64 x267002_1) := (blk_cell BK266.out 2).trans rfl; have hcz43_3 : w40.cell? ⟨gb266, 3, none⟩ = some (.int .i64 x267003_1) := (blk_cell BK266.out 3).trans rfl; have hfz43_0 := blk_frozen BK266.out 0; have hfz43_1 := blk_frozen BK266.out 1; have hfz43_2 := blk_frozen BK266.out 2; have hfz43_3 := blk_frozen BK266.out 3; have hcz44_0 : w40.cell? ⟨gb278, 0, none⟩ = some (.int .i64 t274) := (blk_cell BK278.out 0).trans rfl; have hcz44_1 : w40.cell? ⟨gb278, 1, none⟩ = some (.int .i64 t275) := (blk_cell BK278.out 1).trans rfl; have hcz44_2 : w40.cell? ⟨gb278, 2, none⟩ = some (.int .i64 t276) := (blk_cell BK278.out 2).trans rfl; have hfz44_0 := blk_frozen BK278.out 0; have hfz44_1 := blk_frozen BK278.out 1; have hfz44_2 := blk_frozen BK278.out 2) | ((with_reducible refine gate_callee (f := 53) rfl ?_); refine goesL_ (some 41) rfl rfl Try.func53 (by kernel_rfl) rfl #[.agg #[.bool x267000_1, .int .i64 x267001_1, .int .i64 x267002_1, .int .i64 x267003_1], .agg #[.int .i64 t274, .int .i64 t275, .int .i64 t276]] rfl mt_ ?_; (with_reducible refine (impl_EstLearn.calls k1 x267000_1 x267001_1 x267002_1 x267003_1 t274 t275 t276 t280 t281 t282 t283 _ A21.out).mono ?_); rintro e w45 ⟨rfl, hb⟩; refine ⟨_, rfl, ?_⟩; have n0_ := Aside0.mk (blk_below (g := gb266) (o := .cells #[.bool x267000_1, .int .i64 x267001_1, .int .i64 x267002_1, .int .i64 x267003_1] 54 (0, 0)) (bk_ BK266) hb); have n1_ := Aside0.mk (blk_below (g := gb267) (o := .cells #[.int .i64 x268000_1, .int .i64 x268001_1, .int .i64 x268002_1] 35 (0, 0)) (bk_ BK267) hb); have n2_ := Aside0.mk (blk_below (g := gb268) (o := .cells #[.int .i64 x269000_1, .int .i64 x269001_1, .int .i64 x269002_1] 35 (0, 0)) (bk_ BK268) hb); have n3_ := Aside0.mk (blk_below (g := gb277) (o := .cells #[.bool t270, .int .i64 t271, .int .i64 t272, .int .i64 t273] 54 (0, 0)) (bk_ BK277) hb); have n4_ := Aside0.mk (blk_below (g := gb278) (o := .cells #[.int .i64 t274, .int .i64 t275, .int .i64 t276] 35 (0, 0)) (bk_ BK278) hb); have n5_ := Aside0.mk (below_step (by repeat (first | (with_reducible first | exact HB.out | apply below_alloc | apply pw_below_drewN | apply below_drew1 | refine below_set ?_ GE266.out | refine below_set ?_ GE267.out | refine below_set ?_ GE268.out | refine below_set ?_ GE277.out | refine below_set ?_ GE278.out) | exact HB.out)) hb); clear BK266; clear BK267; clear BK268; clear BK277; clear BK278; clear HB; have BK266 := n0_; have BK267 := n1_; have BK268 := n2_; have BK277 := n3_; have BK278 := n4_; have HB := n5_; clear n0_ n1_ n2_ n3_ n4_ n5_; (try clear hb); (try clear hb2); (try clear hk); (try clear hi); have hcz46_0 : w45.cell? ⟨gb266, 0, none⟩ = some (.bool x267000_1) := (blk_cell BK266.out 0).trans rfl; have hcz46_1 : w45.cell? ⟨gb266, 1, none⟩ = some (.int .i64 x267001_1) := (blk_cell BK266.out 1).trans rfl; have hcz46_2 : w45.cell? ⟨gb266, 2, none⟩ = some (.int .i64 x267002_1) := (blk_cell BK266.out 2).trans rfl; have hcz46_3 : w45.cell? ⟨gb266, 3, none⟩ = some (.int .i64 x267003_1) := (blk_cell BK266.out 3).trans rfl; have hfz46_0 := blk_frozen BK266.out 0; have hfz46_1 := blk_frozen BK266.out 1; have hfz46_2 := blk_frozen BK266.out 2; have hfz46_3 := blk_frozen BK266.out 3; have hnb47 := NB267_268.out; have hnc47 := NB268_267.out; have hcz48_0 : w45.cell? ⟨gb267, 0, none⟩ = some (.int .i64 x268000_1) := (blk_cell BK267.out 0).trans rfl; have hcz48_1 : w45.cell? ⟨gb267, 1, none⟩ = some (.int .i64 x268001_1) := (blk_cell BK267.out 1).trans rfl; have hcz48_2 : w45.cell? ⟨gb267, 2, none⟩ = some (.int .i64 x268002_1) := (blk_cell BK267.out 2).trans rfl; have hfz48_0 := blk_frozen BK267.out 0; have hfz48_1 := blk_frozen BK267.out 1; have hfz48_2 := blk_frozen BK267.out 2; have hcz49_0 : w45.cell? ⟨gb278, 0, none⟩ = some (.int .i64 t274) := (blk_cell BK278.out 0).trans rfl; have hcz49_1 : w45.cell? ⟨gb278, 1, none⟩ = some (.int .i64 t275) := (blk_cell BK278.out 1).trans rfl; have hcz49_2 : w45.cell? ⟨gb278, 2, none⟩ = some (.int .i64 t276) := (blk_cell BK278.out 2).trans rfl; have hfz49_0 := blk_frozen BK278.out 0; have hfz49_1 := blk_frozen BK278.out 1; have hfz49_2 := blk_frozen BK278.out 2; have hcz50_0 : w45.cell? ⟨gb268, 0, none⟩ = some (.int .i64 x269000_1) := (blk_cell BK268.out 0).trans rfl; have hcz50_1 : w45.cell? ⟨gb268, 1, none⟩ = some (.int .i64 x269001_1) := (blk_cell BK268.out 1).trans rfl; have hcz50_2 : w45.cell? ⟨gb268, 2, none⟩ = some (.int .i64 x269002_1) := (blk_cell BK268.out 2).trans rfl; have hfz50_0 := blk_frozen BK268.out 0; have hfz50_1 := blk_frozen BK268.out 1; have hfz50_2 := blk_frozen BK268.out 2) | ((with_reducible refine gate_callee (f := 45) rfl ?_); refine goesL_ (some 60) rfl rfl Try.func45 (by kernel_rfl) rfl #[.agg #[.int .i64 x269000_1, .int .i64 x269001_1, .int .i64 x269002_1], .agg #[.int .i64 t274, .int .i64 t275, .int .i64 t276]] rfl mt_ ?_; (with_reducible refine (spec_VecMost.calls x269000_1 x269001_1 x269002_1 t274 t275 t276 t284 t285 t286 _ A25.out).mono ?_); rintro e w51 ⟨rfl, hb⟩; refine ⟨_, rfl, ?_⟩; have n0_ := Aside0.mk (blk_below (g := gb266) (o := .cells #[.bool t280, .int .i64 t281, .int .i64 t282, .int .i64 t283] 54 (0, 0)) (by (with_reducible repeat (first | refine blk_drewN ?_ _ | refine blk_drew ?_ | refine blk_alloc ?_ _)); refine blk_far ?_ NB266_267.out _; (with_reducible repeat (first | refine blk_drewN ?_ _ | refine blk_drew ?_ | refine blk_alloc ?_ _)); refine blk_far ?_ NB266_267.out _; (with_reducible repeat (first | refine blk_drewN ?_ _ | refine blk_drew ?_ | refine blk_alloc ?_ _)); refine blk_far ?_ NB266_267.out _; (with_reducible repeat (first | refine blk_drewN ?_ _ | refine blk_drew ?_ | refine blk_alloc ?_ _)); refine blk_put (cs := #[.bool t280, .int .i64 t281, .int .i64 t282, .int .i64 x267003_1]) ?_ 3 _ rfl; (with_reducible repeat (first | refine blk_drewN ?_ _ | refine blk_drew ?_ | refine blk_alloc ?_ _)); refine blk_put (cs := #[.bool t280, .int .i64 t281, .int .i64 x267002_1, .int .i64 x267003_1]) ?_ 2 _ rfl; (with_reducible repeat (first | refine blk_drewN ?_ _ | refine blk_drew ?_ | refine blk_alloc ?_ _)); refine blk_put (cs := #[.bool t280, .int .i64 x267001_1, .int .i64 x267002_1, .int .i64 x267003_1]) ?_ 1 _ rfl; (with_reducible repeat (first | refine blk_drewN ?_ _ | refine blk_drew ?_ | refine blk_alloc ?_ _)); refine blk_put (cs := #[.bool x267000_1, .int .i64 x267001_1, .int .i64 x267002_1, .int .i64 x267003_1]) ?_ 0 _ rfl; exact bk_ BK266) hb); have n1_ := Aside0.mk (blk_below (g := gb267) (o := .cells #[.int .i64 ji22, .int .i64 ji23, .int .i64 ji24] 35 (0, 0)) (by (with_reducible repeat (first | refine blk_drewN ?_ _ | refine blk_drew ?_ | refine blk_alloc ?_ _)); refine blk_put (cs := #[.int .i64 ji22, .int .i64 ji23, .int .i64 x268002_1]) ?_ 2 _ rfl; (with_reducible repeat (first | refine blk_drewN ?_ _ | refine blk_drew ?_ | refine blk_alloc ?_ _)); refine blk_put (cs := #[.int .i64 ji22, .int .i64 x268001_1, .int .i64 x268002_1]) ?_ 1 _ rfl; (with_reducible repeat (first | refine blk_drewN ?_ _ | refine blk_drew ?_ | refine blk_alloc ?_ _)); refine blk_put (cs := #[.int .i64 x268000_1, .int .i64 x268001_1, .int .i64 x268002_1]) ?_ 0 _ rfl; (with_reducible repeat (first | refine blk_drewN ?_ _ | refine blk_drew ?_ | refine blk_alloc ?_ _)); refine blk_far ?_ NB267_266.out _; (with_reducible repeat (first | refine blk_drewN ?_ _ | refine blk_drew ?_ | refine blk_alloc ?_ _)); refine blk_far ?_ NB267_266.out _; (with_reducible repeat (first | refine blk_drewN ?_ _ | refine blk_drew ?_ | refine blk_alloc ?_ _)); refine blk_far ?_ NB267_266.out _; (with_reducible repeat (first | refine blk_drewN ?_ _ | refine blk_drew ?_ | refine blk_alloc ?_ _)); refine blk_far ?_ NB267_266.out _; exact bk_ BK267) hb); have n2_ := Aside0.mk (blk_below (g := gb268) (o := .cells #[.int .i64 x269000_1, .int .i64 x269001_1, .int .i64 x269002_1] 35 (0, 0)) (by (with_reducible repeat (first | refine blk_drewN ?_ _ | refine blk_drew ?_ | refine blk_alloc ?_ _)); refine blk_far ?_ NB268_267.out _; (with_reducible repeat (first | refine blk_drewN ?_ _ | refine blk_drew ?_ | refine blk_alloc ?_ _)); refine blk_far ?_ NB268_267.out _; (with_reducible repeat (first | refine blk_drewN ?_ _ | refine blk_drew ?_ | refine blk_alloc ?_ _)); refine blk_far ?_ NB268_267.out _; (with_reducible repeat (first | refine blk_drewN ?_ _ | refine blk_drew ?_ | refine blk_alloc ?_ _)); refine blk_far ?_ NB268_266.out _; (with_reducible repeat (first | refine blk_drewN ?_ _ | refine blk_drew ?_ | refine blk_alloc ?_ _)); refine blk_far ?_ NB268_266.out _; (with_reducible repeat (first | refine blk_drewN ?_ _ | refine blk_drew ?_ | refine blk_alloc ?_ _)); refine blk_far ?_ NB268_266.out _; (with_reducible repeat (first | refine blk_drewN ?_ _ | refine blk_drew ?_ | refine blk_alloc ?_ _)); refine blk_far ?_ NB268_266.out _; exact bk_ BK268) hb); have n3_ := Aside0.mk (blk_below (g := gb277) (o := .cells #[.bool t270, .int .i64 t271, .int .i64 t272, .int .i64 t273] 54 (0, 0)) (by (with_reducible repeat (first | refine blk_drewN ?_ _ | refine blk_drew ?_ | refine blk_alloc ?_ _)); refine blk_far ?_ NB277_267.out _; (with_reducible repeat (first | refine blk_drewN ?_ _ | refine blk_drew ?_ | refine blk_alloc ?_ _)); refine blk_far ?_ NB277_267.out _; (with_reducible repeat (first | refine blk_drewN ?_ _ | refine blk_drew ?_ | refine blk_alloc ?_ _)); refine blk_far ?_ NB277_267.out _; (with_reducible repeat (first | refine blk_drewN ?_ _ | refine blk_drew ?_ | refine blk_alloc ?_ _)); refine blk_far ?_ NB277_266.out _; (with_reducible repeat (first | refine blk_drewN ?_ _ | refine blk_drew ?_ | refine blk_alloc ?_ _)); refine blk_far ?_ NB277_266.out _; (with_reducible repeat (first | refine blk_drewN ?_ _ | refine blk_drew ?_ | refine blk_alloc ?_ _)); refine blk_far ?_ NB277_266.out _; (with_reducible repeat (first | refine blk_drewN ?_ _ | refine blk_drew ?_ | refine blk_alloc ?_ _)); refine blk_far ?_ NB277_266.out _; exact bk_ BK277) hb); have n4_ := Aside0.mk (blk_below (g := gb278) (o := .cells #[.int .i64 t274, .int .i64 t275, .int .i64 t276] 35 (0, 0)) (by (with_reducible repeat (first | refine blk_drewN ?_ _ | refine blk_drew ?_ | refine blk_alloc ?_ _)); refine blk_far ?_ NB278_267.out _; (with_reducible repeat (first | refine blk_drewN ?_ _ | refine blk_drew ?_ | refine blk_alloc ?_ _)); refine blk_far ?_ NB278_267.out _; (with_reducible repeat (first | refine blk_drewN ?_ _ | refine blk_drew ?_ | refine blk_alloc ?_ _)); refine blk_far ?_ NB278_267.out _; (with_reducible repeat (first | refine blk_drewN ?_ _ | refine blk_drew ?_ | refine blk_alloc ?_ _)); refine blk_far ?_ NB278_266.out _; (with_reducible repeat (first | refine blk_drewN ?_ _ | refine blk_drew ?_ | refine blk_alloc ?_ _)); refine blk_far ?_ NB278_266.out _; (with_reducible repeat (first | refine blk_drewN ?_ _ | refine blk_drew ?_ | refine blk_alloc ?_ _)); refine blk_far ?_ NB278_266.out _; (with_reducible repeat (first | refine blk_drewN ?_ _ | refine blk_drew ?_ | refine blk_alloc ?_ _)); refine blk_far ?_ NB278_266.out _; exact bk_ BK278) hb); have n5_ := Aside0.mk (below_step (by repeat (first | (with_reducible first | exact HB.out | apply below_alloc | apply pw_below_drewN | apply below_drew1 | refine below_set ?_ GE266.out | refine below_set ?_ GE267.out | refine below_set ?_ GE268.out | refine below_set ?_ GE277.out | refine below_set ?_ GE278.out) | exact HB.out)) hb); clear BK266; clear BK267; clear BK268; clear BK277; clear BK278; clear HB; have BK266 := n0_; have BK267 := n1_; have BK268 := n2_; have BK277 := n3_; have BK278 := n4_; have HB := n5_; clear n0_ n1_ n2_ n3_ n4_ n5_; (try clear hb); (try clear hb2); (try clear hk); (try clear hi); have hcz52_0 : w51.cell? ⟨gb268, 0, none⟩ = some (.int .i64 x269000_1) := (blk_cell BK268.out 0).trans rfl; have hcz52_1 : w51.cell? ⟨gb268, 1, none⟩ = some (.int .i64 x269001_1) := (blk_cell BK268.out 1).trans rfl; have hcz52_2 : w51.cell? ⟨gb268, 2, none⟩ = some (.int .i64 x269002_1) := (blk_cell BK268.out 2).trans rfl; have hfz52_0 := blk_frozen BK268.out 0; have hfz52_1 := blk_frozen BK268.out 1; have hfz52_2 := blk_frozen BK268.out 2; have hcz53_0 : w51.cell? ⟨gb266, 0, none⟩ = some (.bool t280) := (blk_cell BK266.out 0).trans rfl; have hcz53_1 : w51.cell? ⟨gb266, 1, none⟩ = some (.int .i64 t281) := (blk_cell BK266.out 1).trans rfl; have hcz53_2 : w51.cell? ⟨gb266, 2, none⟩ = some (.int .i64 t282) := (blk_cell BK266.out 2).trans rfl; have hcz53_3 : w51.cell? ⟨gb266, 3, none⟩ = some (.int .i64 t283) := (blk_cell BK266.out 3).trans rfl; have hfz53_0 := blk_frozen BK266.out 0; have hfz53_1 := blk_frozen BK266.out 1; have hfz53_2 := blk_frozen BK266.out 2; have hfz53_3 := blk_frozen BK266.out 3) | ((with_reducible refine gate_callee (f := 54) rfl ?_); refine goesL_ (some 63) rfl rfl Try.func54 (by kernel_rfl) rfl #[.agg #[.bool t280, .int .i64 t281, .int .i64 t282, .int .i64 t283], .agg #[.int .i64 1, .int .i64 1, .int .i64 1]] rfl mt_ ?_; (with_reducible refine (impl_EstTell.calls k1 t280 t281 t282 t283 1 1 1 t287 t288 t289 _ A26.out).mono ?_); rintro e w54 ⟨rfl, hb⟩; refine ⟨_, rfl, ?_⟩; have n0_ := Aside0.mk (blk_below (g := gb266) (o := .cells #[.bool t280, .int .i64 t281, .int .i64 t282, .int .i64 t283] 54 (0, 0)) (by (with_reducible repeat (first | refine blk_drewN ?_ _ | refine blk_drew ?_ | refine blk_alloc ?_ _)); refine blk_far ?_ NB266_268.out _; (with_reducible repeat (first | refine blk_drewN ?_ _ | refine blk_drew ?_ | refine blk_alloc ?_ _)); refine blk_far ?_ NB266_268.out _; (with_reducible repeat (first | refine blk_drewN ?_ _ | refine blk_drew ?_ | refine blk_alloc ?_ _)); refine blk_far ?_ NB266_268.out _; exact bk_ BK266) hb); have n1_ := Aside0.mk (blk_below (g := gb267) (o := .cells #[.int .i64 ji22, .int .i64 ji23, .int .i64 ji24] 35 (0, 0)) (by (with_reducible repeat (first | refine blk_drewN ?_ _ | refine blk_drew ?_ | refine blk_alloc ?_ _)); refine blk_far ?_ NB267_268.out _; (with_reducible repeat (first | refine blk_drewN ?_ _ | refine blk_drew ?_ | refine blk_alloc ?_ _)); refine blk_far ?_ NB267_268.out _; (with_reducible repeat (first | refine blk_drewN ?_ _ | refine blk_drew ?_ | refine blk_alloc ?_ _)); refine blk_far ?_ NB267_268.out _; exact bk_ BK267) hb); have n2_ := Aside0.mk (blk_below (g := gb268) (o := .cells #[.int .i64 t284, .int .i64 t285, .int .i64 t286] 35 (0, 0)) (by (with_reducible repeat (first | refine blk_drewN ?_ _ | refine blk_drew ?_ | refine blk_alloc ?_ _)); refine blk_put (cs := #[.int .i64 t284, .int .i64 t285, .int .i64 x269002_1]) ?_ 2 _ rfl; (with_reducible repeat (first | refine blk_drewN ?_ _ | refine blk_drew ?_ | refine blk_alloc ?_ _)); refine blk_put (cs := #[.int .i64 t284, .int .i64 x269001_1, .int .i64 x269002_1]) ?_ 1 _ rfl; (with_reducible repeat (first | refine blk_drewN ?_ _ | refine blk_drew ?_ | refine blk_alloc ?_ _)); refine blk_put (cs := #[.int .i64 x269000_1, .int .i64 x269001_1, .int .i64 x269002_1]) ?_ 0 _ rfl; exact bk_ BK268) hb); have n3_ := Aside0.mk (blk_below (g := gb277) (o := .cells #[.bool t270, .int .i64 t271, .int .i64 t272, .int .i64 t273] 54 (0, 0)) (by (with_reducible repeat (first | refine blk_drewN ?_ _ | refine blk_drew ?_ | refine blk_alloc ?_ _)); refine blk_far ?_ NB277_268.out _; (with_reducible repeat (first | refine blk_drewN ?_ _ | refine blk_drew ?_ | refine blk_alloc ?_ _)); refine blk_far ?_ NB277_268.out _; (with_reducible repeat (first | refine blk_drewN ?_ _ | refine blk_drew ?_ | refine blk_alloc ?_ _)); refine blk_far ?_ NB277_268.out _; exact bk_ BK277) hb); have n4_ := Aside0.mk (blk_below (g := gb278) (o := .cells #[.int .i64 t274, .int .i64 t275, .int .i64 t276] 35 (0, 0)) (by (with_reducible repeat (first | refine blk_drewN ?_ _ | refine blk_drew ?_ | refine blk_alloc ?_ _)); refine blk_far ?_ NB278_268.out _; (with_reducible repeat (first | refine blk_drewN ?_ _ | refine blk_drew ?_ | refine blk_alloc ?_ _)); refine blk_far ?_ NB278_268.out _; (with_reducible repeat (first | refine blk_drewN ?_ _ | refine blk_drew ?_ | refine blk_alloc ?_ _)); refine blk_far ?_ NB278_268.out _; exact bk_ BK278) hb); have n5_ := Aside0.mk (below_step (by repeat (first | (with_reducible first | exact HB.out | apply below_alloc | apply pw_below_drewN | apply below_drew1 | refine below_set ?_ GE266.out | refine below_set ?_ GE267.out | refine below_set ?_ GE268.out | refine below_set ?_ GE277.out | refine below_set ?_ GE278.out) | exact HB.out)) hb); clear BK266; clear BK267; clear BK268; clear BK277; clear BK278; clear HB; have BK266 := n0_; have BK267 := n1_; have BK268 := n2_; have BK277 := n3_; have BK278 := n4_; have HB := n5_; clear n0_ n1_ n2_ n3_ n4_ n5_; (try clear hb); (try clear hb2); (try clear hk); (try clear hi)) | ((with_reducible refine gate_dst (N := 9) rfl ?_); refine box_event ?hg (N := 9) ?hd (cs := #[.int .i64 0, .int .i64 0, .int .i64 0]) (t := 35) ?hr ?_; (case hd => rfl); (case hg => rfl); (case hr => first | (go_simp; done) | (go_simp; rfl)); intro gb290 hg w55 hbox hb; have n0_ := Aside0.mk (blk_below (g := gb266) (o := .cells #[.bool t280, .int .i64 t281, .int .i64 t282, .int .i64 t283] 54 (0, 0)) (bk_ BK266) hb); have n1_ := Aside0.mk (blk_below (g := gb267) (o := .cells #[.int .i64 ji22, .int .i64 ji23, .int .i64 ji24] 35 (0, 0)) (bk_ BK267) hb); have n2_ := Aside0.mk (blk_below (g := gb268) (o := .cells #[.int .i64 t284, .int .i64 t285, .int .i64 t286] 35 (0, 0)) (bk_ BK268) hb); have n3_ := Aside0.mk (blk_below (g := gb277) (o := .cells #[.bool t270, .int .i64 t271, .int .i64 t272, .int .i64 t273] 54 (0, 0)) (bk_ BK277) hb); have n4_ := Aside0.mk (blk_below (g := gb278) (o := .cells #[.int .i64 t274, .int .i64 t275, .int .i64 t276] 35 (0, 0)) (bk_ BK278) hb); have n5_ := Aside0.mk (below_step (by repeat (first | (with_reducible first | exact HB.out | apply below_alloc | apply pw_below_drewN | apply below_drew1 | refine below_set ?_ GE266.out | refine below_set ?_ GE267.out | refine below_set ?_ GE268.out | refine below_set ?_ GE277.out | refine below_set ?_ GE278.out) | exact HB.out)) hb); have n6_ := Aside0.mk (hbox); have n7_ := Aside0.mk ((by rw [hg]; exact (below_size (by repeat (first | (with_reducible first | exact HB.out | apply below_alloc | apply pw_below_drewN | apply below_drew1 | refine below_set ?_ GE266.out | refine below_set ?_ GE267.out | refine below_set ?_ GE268.out | refine below_set ?_ GE277.out | refine below_set ?_ GE278.out) | exact HB.out))) : w.heap.size ≤ gb290)); have n8_ := Aside0.mk ((by rw [hg]; exact (below_size (by repeat (first | (with_reducible first | exact HB.out | apply below_alloc | apply pw_below_drewN | apply below_drew1 | refine below_set ?_ GE266.out | refine below_set ?_ GE267.out | refine below_set ?_ GE268.out | refine below_set ?_ GE277.out | refine below_set ?_ GE278.out) | exact HB.out))) : w.heap.size ≤ gb290)); have n9_ := Aside0.mk ((by rw [hg]; exact Nat.ne_of_lt (blk_lt (g := gb266) (o := .cells #[.bool t280, .int .i64 t281, .int .i64 t282, .int .i64 t283] 54 (0, 0)) (bk_ BK266)) : gb266 ≠ gb290)); have n10_ := Aside0.mk ((by rw [hg]; exact Nat.ne_of_gt (blk_lt (g := gb266) (o := .cells #[.bool t280, .int .i64 t281, .int .i64 t282, .int .i64 t283] 54 (0, 0)) (bk_ BK266)) : gb290 ≠ gb266)); have n11_ := Aside0.mk ((by rw [hg]; exact Nat.ne_of_lt (blk_lt (g := gb267) (o := .cells #[.int .i64 ji22, .int .i64 ji23, .int .i64 ji24] 35 (0, 0)) (bk_ BK267)) : gb267 ≠ gb290)); have n12_ := Aside0.mk ((by rw [hg]; exact Nat.ne_of_gt (blk_lt (g := gb267) (o := .cells #[.int .i64 ji22, .int .i64 ji23, .int .i64 ji24] 35 (0, 0)) (bk_ BK267)) : gb290 ≠ gb267)); have n13_ := Aside0.mk ((by rw [hg]; exact Nat.ne_of_lt (blk_lt (g := gb268) (o := .cells #[.int .i64 t284, .int .i64 t285, .int .i64 t286] 35 (0, 0)) (bk_ BK268)) : gb268 ≠ gb290)); have n14_ := Aside0.mk ((by rw [hg]; exact Nat.ne_of_gt (blk_lt (g := gb268) (o := .cells #[.int .i64 t284, .int .i64 t285, .int .i64 t286] 35 (0, 0)) (bk_ BK268)) : gb290 ≠ gb268)); have n15_ := Aside0.mk ((by rw [hg]; exact Nat.ne_of_lt (blk_lt (g := gb277) (o := .cells #[.bool t270, .int .i64 t271, .int .i64 t272, .int .i64 t273] 54 (0, 0)) (bk_ BK277)) : gb277 ≠ gb290)); have n16_ := Aside0.mk ((by rw [hg]; exact Nat.ne_of_gt (blk_lt (g := gb277) (o := .cells #[.bool t270, .int .i64 t271, .int .i64 t272, .int .i64 t273] 54 (0, 0)) (bk_ BK277)) : gb290 ≠ gb277)); have n17_ := Aside0.mk ((by rw [hg]; exact Nat.ne_of_lt (blk_lt (g := gb278) (o := .cells #[.int .i64 t274, .int .i64 t275, .int .i64 t276] 35 (0, 0)) (bk_ BK278)) : gb278 ≠ gb290)); have n18_ := Aside0.mk ((by rw [hg]; exact Nat.ne_of_gt (blk_lt (g := gb278) (o := .cells #[.int .i64 t274, .int .i64 t275, .int .i64 t276] 35 (0, 0)) (bk_ BK278)) : gb290 ≠ gb278)); clear BK266; clear BK267; clear BK268; clear BK277; clear BK278; clear HB; have BK266 := n0_; have BK267 := n1_; have BK268 := n2_; have BK277 := n3_; have BK278 := n4_; have HB := n5_; have BK290 := n6_; have GW290 := n7_; have GE290 := n8_; have NB266_290 := n9_; have NB290_266 := n10_; have NB267_290 := n11_; have NB290_267 := n12_; have NB268_290 := n13_; have NB290_268 := n14_; have NB277_290 := n15_; have NB290_277 := n16_; have NB278_290 := n17_; have NB290_278 := n18_; clear n0_ n1_ n2_ n3_ n4_ n5_ n6_ n7_ n8_ n9_ n10_ n11_ n12_ n13_ n14_ n15_ n16_ n17_ n18_; clear hb hbox hg; have hnb56 := NB290_266.out; have hnc56 := NB266_290.out; have hnb57 := NB290_267.out; have hnc57 := NB267_290.out; have hnb58 := NB290_268.out; have hnc58 := NB268_290.out; have hnb59 := NB290_277.out; have hnc59 := NB277_290.out; have hnb60 := NB290_278.out; have hnc60 := NB278_290.out; have hcz61_0 : w55.cell? ⟨gb290, 0, none⟩ = some (.int .i64 0) := (blk_cell BK290.out 0).trans rfl; have hcz61_1 : w55.cell? ⟨gb290, 1, none⟩ = some (.int .i64 0) := (blk_cell BK290.out 1).trans rfl; have hcz61_2 : w55.cell? ⟨gb290, 2, none⟩ = some (.int .i64 0) := (blk_cell BK290.out 2).trans rfl; have hfz61_0 := blk_frozen BK290.out 0; have hfz61_1 := blk_frozen BK290.out 1; have hfz61_2 := blk_frozen BK290.out 2))
        go_loopg [10] k1 (fun kq v10 w' => ∃ (x10_2 : Int), v10 = .int .i64 x10_2 ∧ Aside0 (laws_FnEstWithin.l1 kq l0 x6_1 x10_2 t280 t281 t282 t283 ji22 ji23 ji24 t284 t285 t286 t287 t288 t289 = some r) ∧ Aside0 (kq ≤ k1) ∧ Aside0 (w'.heap[gb266]? = some (.cells #[.bool t280, .int .i64 t281, .int .i64 t282, .int .i64 t283] 54 (0, 0))) ∧ Aside0 (w'.heap[gb267]? = some (.cells #[.int .i64 ji22, .int .i64 ji23, .int .i64 ji24] 35 (0, 0))) ∧ Aside0 (w'.heap[gb268]? = some (.cells #[.int .i64 t284, .int .i64 t285, .int .i64 t286] 35 (0, 0))) ∧ Aside0 (w'.heap[gb277]? = some (.cells #[.bool t270, .int .i64 t271, .int .i64 t272, .int .i64 t273] 54 (0, 0))) ∧ Aside0 (w'.heap[gb278]? = some (.cells #[.int .i64 t274, .int .i64 t275, .int .i64 t276] 35 (0, 0))) ∧ Aside0 (w'.heap[gb290]? = some (.cells #[.int .i64 t287, .int .i64 t288, .int .i64 t289] 35 (0, 0))) ∧ Aside0 (Below w.heap.size w w'))
        case atStart => exact ⟨(0), (by first | rfl | (simp; done) | (simp [*]; done)), H', ⟨Nat.le_refl _⟩, ⟨by (with_reducible repeat (first | refine blk_drewN ?_ _ | refine blk_drew ?_ | refine blk_alloc ?_ _)); refine blk_far ?_ NB266_290.out _; (with_reducible repeat (first | refine blk_drewN ?_ _ | refine blk_drew ?_ | refine blk_alloc ?_ _)); refine blk_far ?_ NB266_290.out _; (with_reducible repeat (first | refine blk_drewN ?_ _ | refine blk_drew ?_ | refine blk_alloc ?_ _)); refine blk_far ?_ NB266_290.out _; exact bk_ BK266⟩, ⟨by (with_reducible repeat (first | refine blk_drewN ?_ _ | refine blk_drew ?_ | refine blk_alloc ?_ _)); refine blk_far ?_ NB267_290.out _; (with_reducible repeat (first | refine blk_drewN ?_ _ | refine blk_drew ?_ | refine blk_alloc ?_ _)); refine blk_far ?_ NB267_290.out _; (with_reducible repeat (first | refine blk_drewN ?_ _ | refine blk_drew ?_ | refine blk_alloc ?_ _)); refine blk_far ?_ NB267_290.out _; exact bk_ BK267⟩, ⟨by (with_reducible repeat (first | refine blk_drewN ?_ _ | refine blk_drew ?_ | refine blk_alloc ?_ _)); refine blk_far ?_ NB268_290.out _; (with_reducible repeat (first | refine blk_drewN ?_ _ | refine blk_drew ?_ | refine blk_alloc ?_ _)); refine blk_far ?_ NB268_290.out _; (with_reducible repeat (first | refine blk_drewN ?_ _ | refine blk_drew ?_ | refine blk_alloc ?_ _)); refine blk_far ?_ NB268_290.out _; exact bk_ BK268⟩, ⟨by (with_reducible repeat (first | refine blk_drewN ?_ _ | refine blk_drew ?_ | refine blk_alloc ?_ _)); refine blk_far ?_ NB277_290.out _; (with_reducible repeat (first | refine blk_drewN ?_ _ | refine blk_drew ?_ | refine blk_alloc ?_ _)); refine blk_far ?_ NB277_290.out _; (with_reducible repeat (first | refine blk_drewN ?_ _ | refine blk_drew ?_ | refine blk_alloc ?_ _)); refine blk_far ?_ NB277_290.out _; exact bk_ BK277⟩, ⟨by (with_reducible repeat (first | refine blk_drewN ?_ _ | refine blk_drew ?_ | refine blk_alloc ?_ _)); refine blk_far ?_ NB278_290.out _; (with_reducible repeat (first | refine blk_drewN ?_ _ | refine blk_drew ?_ | refine blk_alloc ?_ _)); refine blk_far ?_ NB278_290.out _; (with_reducible repeat (first | refine blk_drewN ?_ _ | refine blk_drew ?_ | refine blk_alloc ?_ _)); refine blk_far ?_ NB278_290.out _; exact bk_ BK278⟩, ⟨by (with_reducible repeat (first | refine blk_drewN ?_ _ | refine blk_drew ?_ | refine blk_alloc ?_ _)); refine blk_put (cs := #[.int .i64 t287, .int .i64 t288, .int .i64 0]) ?_ 2 _ rfl; (with_reducible repeat (first | refine blk_drewN ?_ _ | refine blk_drew ?_ | refine blk_alloc ?_ _)); refine blk_put (cs := #[.int .i64 t287, .int .i64 0, .int .i64 0]) ?_ 1 _ rfl; (with_reducible repeat (first | refine blk_drewN ?_ _ | refine blk_drew ?_ | refine blk_alloc ?_ _)); refine blk_put (cs := #[.int .i64 0, .int .i64 0, .int .i64 0]) ?_ 0 _ rfl; exact bk_ BK290⟩, ⟨by repeat (first | (with_reducible first | exact HB.out | apply below_alloc | apply pw_below_drewN | apply below_drew1 | refine below_set ?_ GE266.out | refine below_set ?_ GE267.out | refine below_set ?_ GE268.out | refine below_set ?_ GE277.out | refine below_set ?_ GE278.out | refine below_set ?_ GE290.out) | exact HB.out)⟩⟩
        case round =>
         clear H'
         try clear c1
         try clear c2
         try clear p2
         try clear c3
         try clear c4
         try clear c5
         try clear c6
         try clear p6
         try clear c7
         try clear c10
         try clear c11
         try clear c14
         try clear c14b0
         try clear c16
         try clear c16b0
         try clear c16b1
         try clear c17
         try clear c17b0
         try clear c17b1
         try clear c18
         try clear c20
         try clear c31
         try clear c32
         try clear c33
         try clear c34
         try clear c36
         try clear c37
         try clear c38
         try clear c41
         try clear c42
         try clear c45
         try clear c47
         try clear c52
         try clear c53
         try clear c54
         try clear c56
         try clear c57
         try clear c58
         try clear c59
         try clear c60
         try clear hcz12_0
         try clear hcz12_1
         try clear hcz12_2
         try clear hcz35_0
         try clear hcz35_1
         try clear hcz35_2
         try clear hcz35_3
         try clear hcz39_0
         try clear hcz39_1
         try clear hcz39_2
         try clear hcz43_0
         try clear hcz43_1
         try clear hcz43_2
         try clear hcz43_3
         try clear hcz44_0
         try clear hcz44_1
         try clear hcz44_2
         try clear hcz46_0
         try clear hcz46_1
         try clear hcz46_2
         try clear hcz46_3
         try clear hcz48_0
         try clear hcz48_1
         try clear hcz48_2
         try clear hcz49_0
         try clear hcz49_1
         try clear hcz49_2
         try clear hcz50_0
         try clear hcz50_1
         try clear hcz50_2
         try clear hcz52_0
         try clear hcz52_1
         try clear hcz52_2
         try clear hcz53_0
         try clear hcz53_1
         try clear hcz53_2
         try clear hcz53_3
         try clear hcz5_0
         try clear hcz5_1
         try clear hcz5_2
         try clear hcz5_3
         try clear hcz61_0
         try clear hcz61_1
         try clear hcz61_2
         try clear hcz8_0
         try clear hcz8_1
         try clear hcz8_2
         try clear hfz12_0
         try clear hfz12_1
         try clear hfz12_2
         try clear hfz35_0
         try clear hfz35_1
         try clear hfz35_2
         try clear hfz35_3
         try clear hfz39_0
         try clear hfz39_1
         try clear hfz39_2
         try clear hfz43_0
         try clear hfz43_1
         try clear hfz43_2
         try clear hfz43_3
         try clear hfz44_0
         try clear hfz44_1
         try clear hfz44_2
         try clear hfz46_0
         try clear hfz46_1
         try clear hfz46_2
         try clear hfz46_3
         try clear hfz48_0
         try clear hfz48_1
         try clear hfz48_2
         try clear hfz49_0
         try clear hfz49_1
         try clear hfz49_2
         try clear hfz50_0
         try clear hfz50_1
         try clear hfz50_2
         try clear hfz52_0
         try clear hfz52_1
         try clear hfz52_2
         try clear hfz53_0
         try clear hfz53_1
         try clear hfz53_2
         try clear hfz53_3
         try clear hfz5_0
         try clear hfz5_1
         try clear hfz5_2
         try clear hfz5_3
         try clear hfz61_0
         try clear hfz61_1
         try clear hfz61_2
         try clear hfz8_0
         try clear hfz8_1
         try clear hfz8_2
         try clear p2
         obtain ⟨x10_2, rfl, HA, HK2, BK266, BK267, BK268, BK277, BK278, BK290, HB⟩ := hrel
         cases gk with
         | zero => exact absurd HA.out (by simp [laws_FnEstWithin.l1])
         | succ k2 =>
          have H := HA.out
          clear HA
          simp only [laws_FnEstWithin.l1] at H
          by_cases c62 : x10_2 < 3
          ·rw [if_pos c62] at H
           have c62b0 : decide (x10_2 < 3) = true := decide_eq_true c62
           clear c62
           replace H := Option.bind_eq_some_iff.mp H
           obtain ⟨t292, A630, H⟩ := H
           replace H : ((laws_vec.f ji22 ji23 ji24 x10_2).bind fun t293 => (if t292 < t293 then (some false) else ((laws_vec.f t287 t288 t289 x10_2).bind fun t294 => ((laws_vec.f t284 t285 t286 x10_2).bind fun t295 => (if t294 > t295 then (some false) else (laws_FnEstWithin.l1 k2 l0 x6_1 (wrap64 (x10_2 + 1)) t280 t281 t282 t283 ji22 ji23 ji24 t284 t285 t286 t287 t288 t289)))))) = some r := H
           have A63 := Aside0.mk A630
           clear A630
           replace H := Option.bind_eq_some_iff.mp H
           obtain ⟨t293, A640, H⟩ := H
           replace H : (if t292 < t293 then (some false) else ((laws_vec.f t287 t288 t289 x10_2).bind fun t294 => ((laws_vec.f t284 t285 t286 x10_2).bind fun t295 => (if t294 > t295 then (some false) else (laws_FnEstWithin.l1 k2 l0 x6_1 (wrap64 (x10_2 + 1)) t280 t281 t282 t283 ji22 ji23 ji24 t284 t285 t286 t287 t288 t289))))) = some r := H
           have A64 := Aside0.mk A640
           clear A640
           by_cases c65 : t292 < t293
           ·rw [if_pos c65] at H
            have c65b0 : decide (t292 < t293) = true := decide_eq_true c65
            clear c65
            obtain rfl := Option.some.inj H
            try go_wp2
            have n0_ := Aside0.mk (blk_drew BK266.out)
            have n1_ := Aside0.mk (blk_drew BK267.out)
            have n2_ := Aside0.mk (blk_drew BK268.out)
            have n3_ := Aside0.mk (blk_drew BK277.out)
            have n4_ := Aside0.mk (blk_drew BK278.out)
            have n5_ := Aside0.mk (blk_drew BK290.out)
            have n6_ := Aside0.mk (below_drew1 HB.out)
            clear BK266
            clear BK267
            clear BK268
            clear BK277
            clear BK278
            clear BK290
            clear HB
            have BK266 := n0_
            have BK267 := n1_
            have BK268 := n2_
            have BK277 := n3_
            have BK278 := n4_
            have BK290 := n5_
            have HB := n6_
            clear n0_ n1_ n2_ n3_ n4_ n5_ n6_
            refine start_ (n := 16) (S := fun w' => w'.cell? ⟨gb290, 0, none⟩ = some (.int .i64 t287) ∧ w'.cell? ⟨gb290, 1, none⟩ = some (.int .i64 t288) ∧ w'.cell? ⟨gb290, 2, none⟩ = some (.int .i64 t289) ∧ w'.cell? ⟨gb267, 0, none⟩ = some (.int .i64 ji22) ∧ w'.cell? ⟨gb267, 1, none⟩ = some (.int .i64 ji23) ∧ w'.cell? ⟨gb267, 2, none⟩ = some (.int .i64 ji24)) (ds := []) (bs 16 0) (by kernel_rfl) rfl rfl ⟨(blk_cell BK290.out 0).trans rfl, (blk_cell BK290.out 1).trans rfl, (blk_cell BK290.out 2).trans rfl, (blk_cell BK267.out 0).trans rfl, (blk_cell BK267.out 1).trans rfl, (blk_cell BK267.out 2).trans rfl⟩ (fun hHeld => ?_); refine with_tabW laws_FnEstWithin.tab18 laws_FnEstWithin.bits18 (fun HT_ HW_ => ?_)
            generalize wr.drew = w66 at BK266 BK267 BK268 BK277 BK278 BK290 HB hHeld ⊢
            refine pure_s (i := 1) (N := some 69) #[oF,oT,oF,oF,oF,oF,oF,oF,oF,oF,oF,oF,oF,oF,oF,oF] (any_of HT_.out (by kernel_rfl)) (h := ?_)
            refine pure_s (i := 4) (N := some 72) #[oF,oT,oF,oF,oT,oF,oF,oF,oF,oF,oF,oF,oF,oF,oF,oF] (any_of HT_.out (by kernel_rfl)) (h := ?_)
            refine take_ (i := 0) (N := some 68) (v := ?_) (a' := ?_) #[oT,oT,oF,oF,oT,oF,oF,oF,oF,oF,oF,oF,oF,oF,oF,oF] rfl rfl (take_ofW HT_.out HW_.out (by kernel_rfl)) (fun _ _ _ h => h) (Or.inl ⟨by rfl, ?_⟩) hHeld ?_ ?_
            rotate_left
            ·rintro w' ⟨s0, s1, s2, s3, s4, s5⟩
             go_simp
             with_reducible rfl
            rotate_left
            ·simp only [Act.put, List.setIfInBounds_toArray, List.set_cons_zero, List.set_cons_succ, i64_w, i32_w]
             rfl
            refine take_ (i := 3) (N := some 71) (v := ?_) (a' := ?_) #[oT,oT,oF,oT,oT,oF,oF,oF,oF,oF,oF,oF,oF,oF,oF,oF] rfl rfl (take_ofW HT_.out HW_.out (by kernel_rfl)) (fun _ _ _ h => h) (Or.inl ⟨by rfl, ?_⟩) hHeld ?_ ?_
            rotate_left
            ·rintro w' ⟨s0, s1, s2, s3, s4, s5⟩
             go_simp
             with_reducible rfl
            rotate_left
            ·simp only [Act.put, List.setIfInBounds_toArray, List.set_cons_zero, List.set_cons_succ, i64_w, i32_w]
             rfl
            refine one_ (i := 2) (N := some 70) (bs 16 5) rfl rfl (one_of HT_.out (by kernel_rfl)) (by decide) (fun K hK => ?_)
            refine goes_ Try.func35 (by kernel_rfl) rfl #[.agg #[.int .i64 t287, .int .i64 t288, .int .i64 t289], .int .i64 x10_2] (by rfl) rfl rfl mt_ ?_
            with_reducible refine (laws_vec.calls t287 t288 t289 x10_2 t292 _ A63.out).mono ?_
            rintro e w67 ⟨rfl, hb⟩
            refine ⟨_, rfl, ?_⟩
            have n0_ := Aside0.mk (blk_below (g := gb266) (o := .cells #[.bool t280, .int .i64 t281, .int .i64 t282, .int .i64 t283] 54 (0, 0)) (bk_ BK266) hb)
            have n1_ := Aside0.mk (blk_below (g := gb267) (o := .cells #[.int .i64 ji22, .int .i64 ji23, .int .i64 ji24] 35 (0, 0)) (bk_ BK267) hb)
            have n2_ := Aside0.mk (blk_below (g := gb268) (o := .cells #[.int .i64 t284, .int .i64 t285, .int .i64 t286] 35 (0, 0)) (bk_ BK268) hb)
            have n3_ := Aside0.mk (blk_below (g := gb277) (o := .cells #[.bool t270, .int .i64 t271, .int .i64 t272, .int .i64 t273] 54 (0, 0)) (bk_ BK277) hb)
            have n4_ := Aside0.mk (blk_below (g := gb278) (o := .cells #[.int .i64 t274, .int .i64 t275, .int .i64 t276] 35 (0, 0)) (bk_ BK278) hb)
            have n5_ := Aside0.mk (blk_below (g := gb290) (o := .cells #[.int .i64 t287, .int .i64 t288, .int .i64 t289] 35 (0, 0)) (bk_ BK290) hb)
            have n6_ := Aside0.mk (below_step (by repeat (first | (with_reducible first | exact HB.out | apply below_alloc | apply pw_below_drewN | apply below_drew1 | refine below_set ?_ GE266.out | refine below_set ?_ GE267.out | refine below_set ?_ GE268.out | refine below_set ?_ GE277.out | refine below_set ?_ GE278.out | refine below_set ?_ GE290.out) | exact HB.out)) hb)
            clear BK266
            clear BK267
            clear BK268
            clear BK277
            clear BK278
            clear BK290
            clear HB
            have BK266 := n0_
            have BK267 := n1_
            have BK268 := n2_
            have BK277 := n3_
            have BK278 := n4_
            have BK290 := n5_
            have HB := n6_
            clear n0_ n1_ n2_ n3_ n4_ n5_ n6_
            (try clear hb)
            (try clear hb2)
            (try clear hk)
            (try clear hi)
            refine hK.out _ _ ⟨(blk_cell BK290.out 0).trans rfl, (blk_cell BK290.out 1).trans rfl, (blk_cell BK290.out 2).trans rfl, (blk_cell BK267.out 0).trans rfl, (blk_cell BK267.out 1).trans rfl, (blk_cell BK267.out 2).trans rfl⟩ (fun hHeld => ?_)
            clear hK K
            refine norm_ (a' := ?_) ?_ ?_
            rotate_left
            ·show Act.put _ (some 70) _ = _
             simp only [Act.put, List.setIfInBounds_toArray, List.set_cons_zero, List.set_cons_succ, i64_w, i32_w]
             rfl
            refine one_ (i := 5) (N := some 73) (bs 16 6) rfl rfl (one_of HT_.out (by kernel_rfl)) (by decide) (fun K hK => ?_)
            refine goes_ Try.func35 (by kernel_rfl) rfl #[.agg #[.int .i64 ji22, .int .i64 ji23, .int .i64 ji24], .int .i64 x10_2] (by rfl) rfl rfl (by (try simp only [List.map_toArray, List.map_cons, List.map_nil]); first | done | (simp only [hji22, hji23, hji24]; rfl) | rfl | (simp only [List.length_drop, List.length_take]; rfl)) ?_
            with_reducible refine (laws_vec.calls ji22 ji23 ji24 x10_2 t293 _ A64.out).mono ?_
            rintro e w68 ⟨rfl, hb⟩
            refine ⟨_, rfl, ?_⟩
            have n0_ := Aside0.mk (blk_below (g := gb266) (o := .cells #[.bool t280, .int .i64 t281, .int .i64 t282, .int .i64 t283] 54 (0, 0)) (bk_ BK266) hb)
            have n1_ := Aside0.mk (blk_below (g := gb267) (o := .cells #[.int .i64 ji22, .int .i64 ji23, .int .i64 ji24] 35 (0, 0)) (bk_ BK267) hb)
            have n2_ := Aside0.mk (blk_below (g := gb268) (o := .cells #[.int .i64 t284, .int .i64 t285, .int .i64 t286] 35 (0, 0)) (bk_ BK268) hb)
            have n3_ := Aside0.mk (blk_below (g := gb277) (o := .cells #[.bool t270, .int .i64 t271, .int .i64 t272, .int .i64 t273] 54 (0, 0)) (bk_ BK277) hb)
            have n4_ := Aside0.mk (blk_below (g := gb278) (o := .cells #[.int .i64 t274, .int .i64 t275, .int .i64 t276] 35 (0, 0)) (bk_ BK278) hb)
            have n5_ := Aside0.mk (blk_below (g := gb290) (o := .cells #[.int .i64 t287, .int .i64 t288, .int .i64 t289] 35 (0, 0)) (bk_ BK290) hb)
            have n6_ := Aside0.mk (below_step (by repeat (first | (with_reducible first | exact HB.out | apply below_alloc | apply pw_below_drewN | apply below_drew1 | refine below_set ?_ GE266.out | refine below_set ?_ GE267.out | refine below_set ?_ GE268.out | refine below_set ?_ GE277.out | refine below_set ?_ GE278.out | refine below_set ?_ GE290.out) | exact HB.out)) hb)
            clear BK266
            clear BK267
            clear BK268
            clear BK277
            clear BK278
            clear BK290
            clear HB
            have BK266 := n0_
            have BK267 := n1_
            have BK268 := n2_
            have BK277 := n3_
            have BK278 := n4_
            have BK290 := n5_
            have HB := n6_
            clear n0_ n1_ n2_ n3_ n4_ n5_ n6_
            (try clear hb)
            (try clear hb2)
            (try clear hk)
            (try clear hi)
            refine hK.out _ _ ⟨(blk_cell BK290.out 0).trans rfl, (blk_cell BK290.out 1).trans rfl, (blk_cell BK290.out 2).trans rfl, (blk_cell BK267.out 0).trans rfl, (blk_cell BK267.out 1).trans rfl, (blk_cell BK267.out 2).trans rfl⟩ (fun hHeld => ?_)
            clear hK K
            refine norm_ (a' := ?_) ?_ ?_
            rotate_left
            ·show Act.put _ (some 73) _ = _
             simp only [Act.put, List.setIfInBounds_toArray, List.set_cons_zero, List.set_cons_succ, i64_w, i32_w]
             rfl
            refine pure_s (i := 6) (N := some 74) (bs 16 7) (any_of HT_.out (by kernel_rfl)) (h := ?_)
            refine pure_s (i := 7) (N := some 75) (bs 16 8) (any_of HT_.out (by kernel_rfl)) (h := ?_)
            refine pure_u (i := 8) (N := some 76) (bs 16 9) (any_of HT_.out (by kernel_rfl)) (h := ?_)
            refine pure_u (i := 9) (N := some 77) (bs 16 10) (any_of HT_.out (by kernel_rfl)) (h := ?_)
            refine pure_u (i := 10) (N := some 78) (bs 16 11) (any_of HT_.out (by kernel_rfl)) (h := ?_)
            refine pure_u (i := 11) (N := some 79) (bs 16 12) (any_of HT_.out (by kernel_rfl)) (h := ?_)
            refine pure_u (i := 12) (N := some 80) (bs 16 13) (any_of HT_.out (by kernel_rfl)) (h := ?_)
            refine pure_u (i := 13) (N := some 81) (bs 16 14) (any_of HT_.out (by kernel_rfl)) (h := ?_)
            refine pure_u (i := 14) (N := some 82) (bs 16 15) (any_of HT_.out (by kernel_rfl)) (h := ?_)
            refine pure_s (i := 15) (N := some 83) (bs 16 16) (any_of HT_.out (by kernel_rfl)) (h := ?_)
            refine done_ (done_of HT_.out (by kernel_rfl)) ?_
            try go_wp2
            go_ret
            exact ⟨by first | rfl | (simp [errW_none, errW_some] <;> rfl) | (simp only [← hji13, ← hji15, ← hji22, ← hji23, ← hji24]; first | rfl | (simp [errW_none, errW_some] <;> rfl)) | (simp [*, errW_none, errW_some] <;> rfl), by repeat (first | (with_reducible first | exact HB.out | apply below_alloc | apply pw_below_drewN | apply below_drew1 | refine below_set ?_ GE266.out | refine below_set ?_ GE267.out | refine below_set ?_ GE268.out | refine below_set ?_ GE277.out | refine below_set ?_ GE278.out | refine below_set ?_ GE290.out) | exact HB.out)⟩
           ·rw [if_neg c65] at H
            have c65b0 : decide (t292 < t293) = false := decide_eq_false c65
            clear c65
            replace H := Option.bind_eq_some_iff.mp H
            obtain ⟨t294, A690, H⟩ := H
            replace H : ((laws_vec.f t284 t285 t286 x10_2).bind fun t295 => (if t294 > t295 then (some false) else (laws_FnEstWithin.l1 k2 l0 x6_1 (wrap64 (x10_2 + 1)) t280 t281 t282 t283 ji22 ji23 ji24 t284 t285 t286 t287 t288 t289))) = some r := H
            have A69 := Aside0.mk A690
            clear A690
            replace H := Option.bind_eq_some_iff.mp H
            obtain ⟨t295, A700, H⟩ := H
            replace H : (if t294 > t295 then (some false) else (laws_FnEstWithin.l1 k2 l0 x6_1 (wrap64 (x10_2 + 1)) t280 t281 t282 t283 ji22 ji23 ji24 t284 t285 t286 t287 t288 t289)) = some r := H
            have A70 := Aside0.mk A700
            clear A700
            by_cases c71 : t294 > t295
            ·rw [if_pos c71] at H
             have c71b0 : decide (t295 < t294) = true := decide_eq_true c71
             clear c71
             obtain rfl := Option.some.inj H
             try go_wp2
             have n0_ := Aside0.mk (blk_drew BK266.out)
             have n1_ := Aside0.mk (blk_drew BK267.out)
             have n2_ := Aside0.mk (blk_drew BK268.out)
             have n3_ := Aside0.mk (blk_drew BK277.out)
             have n4_ := Aside0.mk (blk_drew BK278.out)
             have n5_ := Aside0.mk (blk_drew BK290.out)
             have n6_ := Aside0.mk (below_drew1 HB.out)
             clear BK266
             clear BK267
             clear BK268
             clear BK277
             clear BK278
             clear BK290
             clear HB
             have BK266 := n0_
             have BK267 := n1_
             have BK268 := n2_
             have BK277 := n3_
             have BK278 := n4_
             have BK290 := n5_
             have HB := n6_
             clear n0_ n1_ n2_ n3_ n4_ n5_ n6_
             refine start_ (n := 16) (S := fun w' => w'.cell? ⟨gb290, 0, none⟩ = some (.int .i64 t287) ∧ w'.cell? ⟨gb290, 1, none⟩ = some (.int .i64 t288) ∧ w'.cell? ⟨gb290, 2, none⟩ = some (.int .i64 t289) ∧ w'.cell? ⟨gb267, 0, none⟩ = some (.int .i64 ji22) ∧ w'.cell? ⟨gb267, 1, none⟩ = some (.int .i64 ji23) ∧ w'.cell? ⟨gb267, 2, none⟩ = some (.int .i64 ji24) ∧ w'.cell? ⟨gb268, 0, none⟩ = some (.int .i64 t284) ∧ w'.cell? ⟨gb268, 1, none⟩ = some (.int .i64 t285) ∧ w'.cell? ⟨gb268, 2, none⟩ = some (.int .i64 t286)) (ds := []) (bs 16 0) (by kernel_rfl) rfl rfl ⟨(blk_cell BK290.out 0).trans rfl, (blk_cell BK290.out 1).trans rfl, (blk_cell BK290.out 2).trans rfl, (blk_cell BK267.out 0).trans rfl, (blk_cell BK267.out 1).trans rfl, (blk_cell BK267.out 2).trans rfl, (blk_cell BK268.out 0).trans rfl, (blk_cell BK268.out 1).trans rfl, (blk_cell BK268.out 2).trans rfl⟩ (fun hHeld => ?_); refine with_tabW laws_FnEstWithin.tab18 laws_FnEstWithin.bits18 (fun HT_ HW_ => ?_)
             generalize wr.drew = w72 at BK266 BK267 BK268 BK277 BK278 BK290 HB hHeld ⊢
             refine pure_s (i := 1) (N := some 69) #[oF,oT,oF,oF,oF,oF,oF,oF,oF,oF,oF,oF,oF,oF,oF,oF] (any_of HT_.out (by kernel_rfl)) (h := ?_)
             refine pure_s (i := 4) (N := some 72) #[oF,oT,oF,oF,oT,oF,oF,oF,oF,oF,oF,oF,oF,oF,oF,oF] (any_of HT_.out (by kernel_rfl)) (h := ?_)
             refine take_ (i := 0) (N := some 68) (v := ?_) (a' := ?_) #[oT,oT,oF,oF,oT,oF,oF,oF,oF,oF,oF,oF,oF,oF,oF,oF] rfl rfl (take_ofW HT_.out HW_.out (by kernel_rfl)) (fun _ _ _ h => h) (Or.inl ⟨by rfl, ?_⟩) hHeld ?_ ?_
             rotate_left
             ·rintro w' ⟨s0, s1, s2, s3, s4, s5, s6, s7, s8⟩
              go_simp
              with_reducible rfl
             rotate_left
             ·simp only [Act.put, List.setIfInBounds_toArray, List.set_cons_zero, List.set_cons_succ, i64_w, i32_w]
              rfl
             refine take_ (i := 3) (N := some 71) (v := ?_) (a' := ?_) #[oT,oT,oF,oT,oT,oF,oF,oF,oF,oF,oF,oF,oF,oF,oF,oF] rfl rfl (take_ofW HT_.out HW_.out (by kernel_rfl)) (fun _ _ _ h => h) (Or.inl ⟨by rfl, ?_⟩) hHeld ?_ ?_
             rotate_left
             ·rintro w' ⟨s0, s1, s2, s3, s4, s5, s6, s7, s8⟩
              go_simp
              with_reducible rfl
             rotate_left
             ·simp only [Act.put, List.setIfInBounds_toArray, List.set_cons_zero, List.set_cons_succ, i64_w, i32_w]
              rfl
             refine one_ (i := 2) (N := some 70) (bs 16 5) rfl rfl (one_of HT_.out (by kernel_rfl)) (by decide) (fun K hK => ?_)
             refine goes_ Try.func35 (by kernel_rfl) rfl #[.agg #[.int .i64 t287, .int .i64 t288, .int .i64 t289], .int .i64 x10_2] (by rfl) rfl rfl mt_ ?_
             with_reducible refine (laws_vec.calls t287 t288 t289 x10_2 t292 _ A63.out).mono ?_
             rintro e w73 ⟨rfl, hb⟩
             refine ⟨_, rfl, ?_⟩
             have n0_ := Aside0.mk (blk_below (g := gb266) (o := .cells #[.bool t280, .int .i64 t281, .int .i64 t282, .int .i64 t283] 54 (0, 0)) (bk_ BK266) hb)
             have n1_ := Aside0.mk (blk_below (g := gb267) (o := .cells #[.int .i64 ji22, .int .i64 ji23, .int .i64 ji24] 35 (0, 0)) (bk_ BK267) hb)
             have n2_ := Aside0.mk (blk_below (g := gb268) (o := .cells #[.int .i64 t284, .int .i64 t285, .int .i64 t286] 35 (0, 0)) (bk_ BK268) hb)
             have n3_ := Aside0.mk (blk_below (g := gb277) (o := .cells #[.bool t270, .int .i64 t271, .int .i64 t272, .int .i64 t273] 54 (0, 0)) (bk_ BK277) hb)
             have n4_ := Aside0.mk (blk_below (g := gb278) (o := .cells #[.int .i64 t274, .int .i64 t275, .int .i64 t276] 35 (0, 0)) (bk_ BK278) hb)
             have n5_ := Aside0.mk (blk_below (g := gb290) (o := .cells #[.int .i64 t287, .int .i64 t288, .int .i64 t289] 35 (0, 0)) (bk_ BK290) hb)
             have n6_ := Aside0.mk (below_step (by repeat (first | (with_reducible first | exact HB.out | apply below_alloc | apply pw_below_drewN | apply below_drew1 | refine below_set ?_ GE266.out | refine below_set ?_ GE267.out | refine below_set ?_ GE268.out | refine below_set ?_ GE277.out | refine below_set ?_ GE278.out | refine below_set ?_ GE290.out) | exact HB.out)) hb)
             clear BK266
             clear BK267
             clear BK268
             clear BK277
             clear BK278
             clear BK290
             clear HB
             have BK266 := n0_
             have BK267 := n1_
             have BK268 := n2_
             have BK277 := n3_
             have BK278 := n4_
             have BK290 := n5_
             have HB := n6_
             clear n0_ n1_ n2_ n3_ n4_ n5_ n6_
             (try clear hb)
             (try clear hb2)
             (try clear hk)
             (try clear hi)
             refine hK.out _ _ ⟨(blk_cell BK290.out 0).trans rfl, (blk_cell BK290.out 1).trans rfl, (blk_cell BK290.out 2).trans rfl, (blk_cell BK267.out 0).trans rfl, (blk_cell BK267.out 1).trans rfl, (blk_cell BK267.out 2).trans rfl, (blk_cell BK268.out 0).trans rfl, (blk_cell BK268.out 1).trans rfl, (blk_cell BK268.out 2).trans rfl⟩ (fun hHeld => ?_)
             clear hK K
             refine norm_ (a' := ?_) ?_ ?_
             rotate_left
             ·show Act.put _ (some 70) _ = _
              simp only [Act.put, List.setIfInBounds_toArray, List.set_cons_zero, List.set_cons_succ, i64_w, i32_w]
              rfl
             refine one_ (i := 5) (N := some 73) (bs 16 6) rfl rfl (one_of HT_.out (by kernel_rfl)) (by decide) (fun K hK => ?_)
             refine goes_ Try.func35 (by kernel_rfl) rfl #[.agg #[.int .i64 ji22, .int .i64 ji23, .int .i64 ji24], .int .i64 x10_2] (by rfl) rfl rfl (by (try simp only [List.map_toArray, List.map_cons, List.map_nil]); first | done | (simp only [hji22, hji23, hji24]; rfl) | rfl | (simp only [List.length_drop, List.length_take]; rfl)) ?_
             with_reducible refine (laws_vec.calls ji22 ji23 ji24 x10_2 t293 _ A64.out).mono ?_
             rintro e w74 ⟨rfl, hb⟩
             refine ⟨_, rfl, ?_⟩
             have n0_ := Aside0.mk (blk_below (g := gb266) (o := .cells #[.bool t280, .int .i64 t281, .int .i64 t282, .int .i64 t283] 54 (0, 0)) (bk_ BK266) hb)
             have n1_ := Aside0.mk (blk_below (g := gb267) (o := .cells #[.int .i64 ji22, .int .i64 ji23, .int .i64 ji24] 35 (0, 0)) (bk_ BK267) hb)
             have n2_ := Aside0.mk (blk_below (g := gb268) (o := .cells #[.int .i64 t284, .int .i64 t285, .int .i64 t286] 35 (0, 0)) (bk_ BK268) hb)
             have n3_ := Aside0.mk (blk_below (g := gb277) (o := .cells #[.bool t270, .int .i64 t271, .int .i64 t272, .int .i64 t273] 54 (0, 0)) (bk_ BK277) hb)
             have n4_ := Aside0.mk (blk_below (g := gb278) (o := .cells #[.int .i64 t274, .int .i64 t275, .int .i64 t276] 35 (0, 0)) (bk_ BK278) hb)
             have n5_ := Aside0.mk (blk_below (g := gb290) (o := .cells #[.int .i64 t287, .int .i64 t288, .int .i64 t289] 35 (0, 0)) (bk_ BK290) hb)
             have n6_ := Aside0.mk (below_step (by repeat (first | (with_reducible first | exact HB.out | apply below_alloc | apply pw_below_drewN | apply below_drew1 | refine below_set ?_ GE266.out | refine below_set ?_ GE267.out | refine below_set ?_ GE268.out | refine below_set ?_ GE277.out | refine below_set ?_ GE278.out | refine below_set ?_ GE290.out) | exact HB.out)) hb)
             clear BK266
             clear BK267
             clear BK268
             clear BK277
             clear BK278
             clear BK290
             clear HB
             have BK266 := n0_
             have BK267 := n1_
             have BK268 := n2_
             have BK277 := n3_
             have BK278 := n4_
             have BK290 := n5_
             have HB := n6_
             clear n0_ n1_ n2_ n3_ n4_ n5_ n6_
             (try clear hb)
             (try clear hb2)
             (try clear hk)
             (try clear hi)
             refine hK.out _ _ ⟨(blk_cell BK290.out 0).trans rfl, (blk_cell BK290.out 1).trans rfl, (blk_cell BK290.out 2).trans rfl, (blk_cell BK267.out 0).trans rfl, (blk_cell BK267.out 1).trans rfl, (blk_cell BK267.out 2).trans rfl, (blk_cell BK268.out 0).trans rfl, (blk_cell BK268.out 1).trans rfl, (blk_cell BK268.out 2).trans rfl⟩ (fun hHeld => ?_)
             clear hK K
             refine norm_ (a' := ?_) ?_ ?_
             rotate_left
             ·show Act.put _ (some 73) _ = _
              simp only [Act.put, List.setIfInBounds_toArray, List.set_cons_zero, List.set_cons_succ, i64_w, i32_w]
              rfl
             refine pure_s (i := 6) (N := some 74) (bs 16 7) (any_of HT_.out (by kernel_rfl)) (h := ?_)
             refine pure_s (i := 7) (N := some 75) (bs 16 8) (any_of HT_.out (by kernel_rfl)) (h := ?_)
             refine pure_s (i := 9) (N := some 77) #[oT,oT,oT,oT,oT,oT,oT,oT,oF,oT,oF,oF,oF,oF,oF,oF] (any_of HT_.out (by kernel_rfl)) (h := ?_)
             refine pure_s (i := 12) (N := some 80) #[oT,oT,oT,oT,oT,oT,oT,oT,oF,oT,oF,oF,oT,oF,oF,oF] (any_of HT_.out (by kernel_rfl)) (h := ?_)
             refine take_ (i := 8) (N := some 76) (v := ?_) (a' := ?_) #[oT,oT,oT,oT,oT,oT,oT,oT,oT,oT,oF,oF,oT,oF,oF,oF] rfl rfl (take_ofW HT_.out HW_.out (by kernel_rfl)) (fun _ _ _ h => h) (Or.inl ⟨by rfl, ?_⟩) hHeld ?_ ?_
             rotate_left
             ·rintro w' ⟨s0, s1, s2, s3, s4, s5, s6, s7, s8⟩
              go_simp
              with_reducible rfl
             rotate_left
             ·simp only [Act.put, List.setIfInBounds_toArray, List.set_cons_zero, List.set_cons_succ, i64_w, i32_w]
              rfl
             refine take_ (i := 11) (N := some 79) (v := ?_) (a' := ?_) #[oT,oT,oT,oT,oT,oT,oT,oT,oT,oT,oF,oT,oT,oF,oF,oF] rfl rfl (take_ofW HT_.out HW_.out (by kernel_rfl)) (fun _ _ _ h => h) (Or.inl ⟨by rfl, ?_⟩) hHeld ?_ ?_
             rotate_left
             ·rintro w' ⟨s0, s1, s2, s3, s4, s5, s6, s7, s8⟩
              go_simp
              with_reducible rfl
             rotate_left
             ·simp only [Act.put, List.setIfInBounds_toArray, List.set_cons_zero, List.set_cons_succ, i64_w, i32_w]
              rfl
             refine one_ (i := 10) (N := some 78) (bs 16 13) rfl rfl (one_of HT_.out (by kernel_rfl)) (by decide) (fun K hK => ?_)
             refine goes_ Try.func35 (by kernel_rfl) rfl #[.agg #[.int .i64 t287, .int .i64 t288, .int .i64 t289], .int .i64 x10_2] (by rfl) rfl rfl mt_ ?_
             with_reducible refine (laws_vec.calls t287 t288 t289 x10_2 t294 _ A69.out).mono ?_
             rintro e w75 ⟨rfl, hb⟩
             refine ⟨_, rfl, ?_⟩
             have n0_ := Aside0.mk (blk_below (g := gb266) (o := .cells #[.bool t280, .int .i64 t281, .int .i64 t282, .int .i64 t283] 54 (0, 0)) (bk_ BK266) hb)
             have n1_ := Aside0.mk (blk_below (g := gb267) (o := .cells #[.int .i64 ji22, .int .i64 ji23, .int .i64 ji24] 35 (0, 0)) (bk_ BK267) hb)
             have n2_ := Aside0.mk (blk_below (g := gb268) (o := .cells #[.int .i64 t284, .int .i64 t285, .int .i64 t286] 35 (0, 0)) (bk_ BK268) hb)
             have n3_ := Aside0.mk (blk_below (g := gb277) (o := .cells #[.bool t270, .int .i64 t271, .int .i64 t272, .int .i64 t273] 54 (0, 0)) (bk_ BK277) hb)
             have n4_ := Aside0.mk (blk_below (g := gb278) (o := .cells #[.int .i64 t274, .int .i64 t275, .int .i64 t276] 35 (0, 0)) (bk_ BK278) hb)
             have n5_ := Aside0.mk (blk_below (g := gb290) (o := .cells #[.int .i64 t287, .int .i64 t288, .int .i64 t289] 35 (0, 0)) (bk_ BK290) hb)
             have n6_ := Aside0.mk (below_step (by repeat (first | (with_reducible first | exact HB.out | apply below_alloc | apply pw_below_drewN | apply below_drew1 | refine below_set ?_ GE266.out | refine below_set ?_ GE267.out | refine below_set ?_ GE268.out | refine below_set ?_ GE277.out | refine below_set ?_ GE278.out | refine below_set ?_ GE290.out) | exact HB.out)) hb)
             clear BK266
             clear BK267
             clear BK268
             clear BK277
             clear BK278
             clear BK290
             clear HB
             have BK266 := n0_
             have BK267 := n1_
             have BK268 := n2_
             have BK277 := n3_
             have BK278 := n4_
             have BK290 := n5_
             have HB := n6_
             clear n0_ n1_ n2_ n3_ n4_ n5_ n6_
             (try clear hb)
             (try clear hb2)
             (try clear hk)
             (try clear hi)
             refine hK.out _ _ ⟨(blk_cell BK290.out 0).trans rfl, (blk_cell BK290.out 1).trans rfl, (blk_cell BK290.out 2).trans rfl, (blk_cell BK267.out 0).trans rfl, (blk_cell BK267.out 1).trans rfl, (blk_cell BK267.out 2).trans rfl, (blk_cell BK268.out 0).trans rfl, (blk_cell BK268.out 1).trans rfl, (blk_cell BK268.out 2).trans rfl⟩ (fun hHeld => ?_)
             clear hK K
             refine norm_ (a' := ?_) ?_ ?_
             rotate_left
             ·show Act.put _ (some 78) _ = _
              simp only [Act.put, List.setIfInBounds_toArray, List.set_cons_zero, List.set_cons_succ, i64_w, i32_w]
              rfl
             refine one_ (i := 13) (N := some 81) (bs 16 14) rfl rfl (one_of HT_.out (by kernel_rfl)) (by decide) (fun K hK => ?_)
             refine goes_ Try.func35 (by kernel_rfl) rfl #[.agg #[.int .i64 t284, .int .i64 t285, .int .i64 t286], .int .i64 x10_2] (by rfl) rfl rfl mt_ ?_
             with_reducible refine (laws_vec.calls t284 t285 t286 x10_2 t295 _ A70.out).mono ?_
             rintro e w76 ⟨rfl, hb⟩
             refine ⟨_, rfl, ?_⟩
             have n0_ := Aside0.mk (blk_below (g := gb266) (o := .cells #[.bool t280, .int .i64 t281, .int .i64 t282, .int .i64 t283] 54 (0, 0)) (bk_ BK266) hb)
             have n1_ := Aside0.mk (blk_below (g := gb267) (o := .cells #[.int .i64 ji22, .int .i64 ji23, .int .i64 ji24] 35 (0, 0)) (bk_ BK267) hb)
             have n2_ := Aside0.mk (blk_below (g := gb268) (o := .cells #[.int .i64 t284, .int .i64 t285, .int .i64 t286] 35 (0, 0)) (bk_ BK268) hb)
             have n3_ := Aside0.mk (blk_below (g := gb277) (o := .cells #[.bool t270, .int .i64 t271, .int .i64 t272, .int .i64 t273] 54 (0, 0)) (bk_ BK277) hb)
             have n4_ := Aside0.mk (blk_below (g := gb278) (o := .cells #[.int .i64 t274, .int .i64 t275, .int .i64 t276] 35 (0, 0)) (bk_ BK278) hb)
             have n5_ := Aside0.mk (blk_below (g := gb290) (o := .cells #[.int .i64 t287, .int .i64 t288, .int .i64 t289] 35 (0, 0)) (bk_ BK290) hb)
             have n6_ := Aside0.mk (below_step (by repeat (first | (with_reducible first | exact HB.out | apply below_alloc | apply pw_below_drewN | apply below_drew1 | refine below_set ?_ GE266.out | refine below_set ?_ GE267.out | refine below_set ?_ GE268.out | refine below_set ?_ GE277.out | refine below_set ?_ GE278.out | refine below_set ?_ GE290.out) | exact HB.out)) hb)
             clear BK266
             clear BK267
             clear BK268
             clear BK277
             clear BK278
             clear BK290
             clear HB
             have BK266 := n0_
             have BK267 := n1_
             have BK268 := n2_
             have BK277 := n3_
             have BK278 := n4_
             have BK290 := n5_
             have HB := n6_
             clear n0_ n1_ n2_ n3_ n4_ n5_ n6_
             (try clear hb)
             (try clear hb2)
             (try clear hk)
             (try clear hi)
             refine hK.out _ _ ⟨(blk_cell BK290.out 0).trans rfl, (blk_cell BK290.out 1).trans rfl, (blk_cell BK290.out 2).trans rfl, (blk_cell BK267.out 0).trans rfl, (blk_cell BK267.out 1).trans rfl, (blk_cell BK267.out 2).trans rfl, (blk_cell BK268.out 0).trans rfl, (blk_cell BK268.out 1).trans rfl, (blk_cell BK268.out 2).trans rfl⟩ (fun hHeld => ?_)
             clear hK K
             refine norm_ (a' := ?_) ?_ ?_
             rotate_left
             ·show Act.put _ (some 81) _ = _
              simp only [Act.put, List.setIfInBounds_toArray, List.set_cons_zero, List.set_cons_succ, i64_w, i32_w]
              rfl
             refine pure_s (i := 14) (N := some 82) (bs 16 15) (any_of HT_.out (by kernel_rfl)) (h := ?_)
             refine pure_s (i := 15) (N := some 83) (bs 16 16) (any_of HT_.out (by kernel_rfl)) (h := ?_)
             refine done_ (done_of HT_.out (by kernel_rfl)) ?_
             try go_wp2
             go_ret
             exact ⟨by first | rfl | (simp [errW_none, errW_some] <;> rfl) | (simp only [← hji13, ← hji15, ← hji22, ← hji23, ← hji24]; first | rfl | (simp [errW_none, errW_some] <;> rfl)) | (simp [*, errW_none, errW_some] <;> rfl), by repeat (first | (with_reducible first | exact HB.out | apply below_alloc | apply pw_below_drewN | apply below_drew1 | refine below_set ?_ GE266.out | refine below_set ?_ GE267.out | refine below_set ?_ GE268.out | refine below_set ?_ GE277.out | refine below_set ?_ GE278.out | refine below_set ?_ GE290.out) | exact HB.out)⟩
            ·rw [if_neg c71] at H
             have c71b0 : decide (t295 < t294) = false := decide_eq_false c71
             clear c71
             have H' := Aside0.mk H
             clear H
             try go_wp2
             have n0_ := Aside0.mk (blk_drew BK266.out)
             have n1_ := Aside0.mk (blk_drew BK267.out)
             have n2_ := Aside0.mk (blk_drew BK268.out)
             have n3_ := Aside0.mk (blk_drew BK277.out)
             have n4_ := Aside0.mk (blk_drew BK278.out)
             have n5_ := Aside0.mk (blk_drew BK290.out)
             have n6_ := Aside0.mk (below_drew1 HB.out)
             clear BK266
             clear BK267
             clear BK268
             clear BK277
             clear BK278
             clear BK290
             clear HB
             have BK266 := n0_
             have BK267 := n1_
             have BK268 := n2_
             have BK277 := n3_
             have BK278 := n4_
             have BK290 := n5_
             have HB := n6_
             clear n0_ n1_ n2_ n3_ n4_ n5_ n6_
             refine start_ (n := 16) (S := fun w' => w'.cell? ⟨gb290, 0, none⟩ = some (.int .i64 t287) ∧ w'.cell? ⟨gb290, 1, none⟩ = some (.int .i64 t288) ∧ w'.cell? ⟨gb290, 2, none⟩ = some (.int .i64 t289) ∧ w'.cell? ⟨gb267, 0, none⟩ = some (.int .i64 ji22) ∧ w'.cell? ⟨gb267, 1, none⟩ = some (.int .i64 ji23) ∧ w'.cell? ⟨gb267, 2, none⟩ = some (.int .i64 ji24) ∧ w'.cell? ⟨gb268, 0, none⟩ = some (.int .i64 t284) ∧ w'.cell? ⟨gb268, 1, none⟩ = some (.int .i64 t285) ∧ w'.cell? ⟨gb268, 2, none⟩ = some (.int .i64 t286)) (ds := []) (bs 16 0) (by kernel_rfl) rfl rfl ⟨(blk_cell BK290.out 0).trans rfl, (blk_cell BK290.out 1).trans rfl, (blk_cell BK290.out 2).trans rfl, (blk_cell BK267.out 0).trans rfl, (blk_cell BK267.out 1).trans rfl, (blk_cell BK267.out 2).trans rfl, (blk_cell BK268.out 0).trans rfl, (blk_cell BK268.out 1).trans rfl, (blk_cell BK268.out 2).trans rfl⟩ (fun hHeld => ?_); refine with_tabW laws_FnEstWithin.tab18 laws_FnEstWithin.bits18 (fun HT_ HW_ => ?_)
             generalize wr.drew = w77 at BK266 BK267 BK268 BK277 BK278 BK290 HB hHeld ⊢
             refine pure_s (i := 1) (N := some 69) #[oF,oT,oF,oF,oF,oF,oF,oF,oF,oF,oF,oF,oF,oF,oF,oF] (any_of HT_.out (by kernel_rfl)) (h := ?_)
             refine pure_s (i := 4) (N := some 72) #[oF,oT,oF,oF,oT,oF,oF,oF,oF,oF,oF,oF,oF,oF,oF,oF] (any_of HT_.out (by kernel_rfl)) (h := ?_)
             refine take_ (i := 0) (N := some 68) (v := ?_) (a' := ?_) #[oT,oT,oF,oF,oT,oF,oF,oF,oF,oF,oF,oF,oF,oF,oF,oF] rfl rfl (take_ofW HT_.out HW_.out (by kernel_rfl)) (fun _ _ _ h => h) (Or.inl ⟨by rfl, ?_⟩) hHeld ?_ ?_
             rotate_left
             ·rintro w' ⟨s0, s1, s2, s3, s4, s5, s6, s7, s8⟩
              go_simp
              with_reducible rfl
             rotate_left
             ·simp only [Act.put, List.setIfInBounds_toArray, List.set_cons_zero, List.set_cons_succ, i64_w, i32_w]
              rfl
             refine take_ (i := 3) (N := some 71) (v := ?_) (a' := ?_) #[oT,oT,oF,oT,oT,oF,oF,oF,oF,oF,oF,oF,oF,oF,oF,oF] rfl rfl (take_ofW HT_.out HW_.out (by kernel_rfl)) (fun _ _ _ h => h) (Or.inl ⟨by rfl, ?_⟩) hHeld ?_ ?_
             rotate_left
             ·rintro w' ⟨s0, s1, s2, s3, s4, s5, s6, s7, s8⟩
              go_simp
              with_reducible rfl
             rotate_left
             ·simp only [Act.put, List.setIfInBounds_toArray, List.set_cons_zero, List.set_cons_succ, i64_w, i32_w]
              rfl
             refine one_ (i := 2) (N := some 70) (bs 16 5) rfl rfl (one_of HT_.out (by kernel_rfl)) (by decide) (fun K hK => ?_)
             refine goes_ Try.func35 (by kernel_rfl) rfl #[.agg #[.int .i64 t287, .int .i64 t288, .int .i64 t289], .int .i64 x10_2] (by rfl) rfl rfl mt_ ?_
             with_reducible refine (laws_vec.calls t287 t288 t289 x10_2 t292 _ A63.out).mono ?_
             rintro e w78 ⟨rfl, hb⟩
             refine ⟨_, rfl, ?_⟩
             have n0_ := Aside0.mk (blk_below (g := gb266) (o := .cells #[.bool t280, .int .i64 t281, .int .i64 t282, .int .i64 t283] 54 (0, 0)) (bk_ BK266) hb)
             have n1_ := Aside0.mk (blk_below (g := gb267) (o := .cells #[.int .i64 ji22, .int .i64 ji23, .int .i64 ji24] 35 (0, 0)) (bk_ BK267) hb)
             have n2_ := Aside0.mk (blk_below (g := gb268) (o := .cells #[.int .i64 t284, .int .i64 t285, .int .i64 t286] 35 (0, 0)) (bk_ BK268) hb)
             have n3_ := Aside0.mk (blk_below (g := gb277) (o := .cells #[.bool t270, .int .i64 t271, .int .i64 t272, .int .i64 t273] 54 (0, 0)) (bk_ BK277) hb)
             have n4_ := Aside0.mk (blk_below (g := gb278) (o := .cells #[.int .i64 t274, .int .i64 t275, .int .i64 t276] 35 (0, 0)) (bk_ BK278) hb)
             have n5_ := Aside0.mk (blk_below (g := gb290) (o := .cells #[.int .i64 t287, .int .i64 t288, .int .i64 t289] 35 (0, 0)) (bk_ BK290) hb)
             have n6_ := Aside0.mk (below_step (by repeat (first | (with_reducible first | exact HB.out | apply below_alloc | apply pw_below_drewN | apply below_drew1 | refine below_set ?_ GE266.out | refine below_set ?_ GE267.out | refine below_set ?_ GE268.out | refine below_set ?_ GE277.out | refine below_set ?_ GE278.out | refine below_set ?_ GE290.out) | exact HB.out)) hb)
             clear BK266
             clear BK267
             clear BK268
             clear BK277
             clear BK278
             clear BK290
             clear HB
             have BK266 := n0_
             have BK267 := n1_
             have BK268 := n2_
             have BK277 := n3_
             have BK278 := n4_
             have BK290 := n5_
             have HB := n6_
             clear n0_ n1_ n2_ n3_ n4_ n5_ n6_
             (try clear hb)
             (try clear hb2)
             (try clear hk)
             (try clear hi)
             refine hK.out _ _ ⟨(blk_cell BK290.out 0).trans rfl, (blk_cell BK290.out 1).trans rfl, (blk_cell BK290.out 2).trans rfl, (blk_cell BK267.out 0).trans rfl, (blk_cell BK267.out 1).trans rfl, (blk_cell BK267.out 2).trans rfl, (blk_cell BK268.out 0).trans rfl, (blk_cell BK268.out 1).trans rfl, (blk_cell BK268.out 2).trans rfl⟩ (fun hHeld => ?_)
             clear hK K
             refine norm_ (a' := ?_) ?_ ?_
             rotate_left
             ·show Act.put _ (some 70) _ = _
              simp only [Act.put, List.setIfInBounds_toArray, List.set_cons_zero, List.set_cons_succ, i64_w, i32_w]
              rfl
             refine one_ (i := 5) (N := some 73) (bs 16 6) rfl rfl (one_of HT_.out (by kernel_rfl)) (by decide) (fun K hK => ?_)
             refine goes_ Try.func35 (by kernel_rfl) rfl #[.agg #[.int .i64 ji22, .int .i64 ji23, .int .i64 ji24], .int .i64 x10_2] (by rfl) rfl rfl (by (try simp only [List.map_toArray, List.map_cons, List.map_nil]); first | done | (simp only [hji22, hji23, hji24]; rfl) | rfl | (simp only [List.length_drop, List.length_take]; rfl)) ?_
             with_reducible refine (laws_vec.calls ji22 ji23 ji24 x10_2 t293 _ A64.out).mono ?_
             rintro e w79 ⟨rfl, hb⟩
             refine ⟨_, rfl, ?_⟩
             have n0_ := Aside0.mk (blk_below (g := gb266) (o := .cells #[.bool t280, .int .i64 t281, .int .i64 t282, .int .i64 t283] 54 (0, 0)) (bk_ BK266) hb)
             have n1_ := Aside0.mk (blk_below (g := gb267) (o := .cells #[.int .i64 ji22, .int .i64 ji23, .int .i64 ji24] 35 (0, 0)) (bk_ BK267) hb)
             have n2_ := Aside0.mk (blk_below (g := gb268) (o := .cells #[.int .i64 t284, .int .i64 t285, .int .i64 t286] 35 (0, 0)) (bk_ BK268) hb)
             have n3_ := Aside0.mk (blk_below (g := gb277) (o := .cells #[.bool t270, .int .i64 t271, .int .i64 t272, .int .i64 t273] 54 (0, 0)) (bk_ BK277) hb)
             have n4_ := Aside0.mk (blk_below (g := gb278) (o := .cells #[.int .i64 t274, .int .i64 t275, .int .i64 t276] 35 (0, 0)) (bk_ BK278) hb)
             have n5_ := Aside0.mk (blk_below (g := gb290) (o := .cells #[.int .i64 t287, .int .i64 t288, .int .i64 t289] 35 (0, 0)) (bk_ BK290) hb)
             have n6_ := Aside0.mk (below_step (by repeat (first | (with_reducible first | exact HB.out | apply below_alloc | apply pw_below_drewN | apply below_drew1 | refine below_set ?_ GE266.out | refine below_set ?_ GE267.out | refine below_set ?_ GE268.out | refine below_set ?_ GE277.out | refine below_set ?_ GE278.out | refine below_set ?_ GE290.out) | exact HB.out)) hb)
             clear BK266
             clear BK267
             clear BK268
             clear BK277
             clear BK278
             clear BK290
             clear HB
             have BK266 := n0_
             have BK267 := n1_
             have BK268 := n2_
             have BK277 := n3_
             have BK278 := n4_
             have BK290 := n5_
             have HB := n6_
             clear n0_ n1_ n2_ n3_ n4_ n5_ n6_
             (try clear hb)
             (try clear hb2)
             (try clear hk)
             (try clear hi)
             refine hK.out _ _ ⟨(blk_cell BK290.out 0).trans rfl, (blk_cell BK290.out 1).trans rfl, (blk_cell BK290.out 2).trans rfl, (blk_cell BK267.out 0).trans rfl, (blk_cell BK267.out 1).trans rfl, (blk_cell BK267.out 2).trans rfl, (blk_cell BK268.out 0).trans rfl, (blk_cell BK268.out 1).trans rfl, (blk_cell BK268.out 2).trans rfl⟩ (fun hHeld => ?_)
             clear hK K
             refine norm_ (a' := ?_) ?_ ?_
             rotate_left
             ·show Act.put _ (some 73) _ = _
              simp only [Act.put, List.setIfInBounds_toArray, List.set_cons_zero, List.set_cons_succ, i64_w, i32_w]
              rfl
             refine pure_s (i := 6) (N := some 74) (bs 16 7) (any_of HT_.out (by kernel_rfl)) (h := ?_)
             refine pure_s (i := 7) (N := some 75) (bs 16 8) (any_of HT_.out (by kernel_rfl)) (h := ?_)
             refine pure_s (i := 9) (N := some 77) #[oT,oT,oT,oT,oT,oT,oT,oT,oF,oT,oF,oF,oF,oF,oF,oF] (any_of HT_.out (by kernel_rfl)) (h := ?_)
             refine pure_s (i := 12) (N := some 80) #[oT,oT,oT,oT,oT,oT,oT,oT,oF,oT,oF,oF,oT,oF,oF,oF] (any_of HT_.out (by kernel_rfl)) (h := ?_)
             refine take_ (i := 8) (N := some 76) (v := ?_) (a' := ?_) #[oT,oT,oT,oT,oT,oT,oT,oT,oT,oT,oF,oF,oT,oF,oF,oF] rfl rfl (take_ofW HT_.out HW_.out (by kernel_rfl)) (fun _ _ _ h => h) (Or.inl ⟨by rfl, ?_⟩) hHeld ?_ ?_
             rotate_left
             ·rintro w' ⟨s0, s1, s2, s3, s4, s5, s6, s7, s8⟩
              go_simp
              with_reducible rfl
             rotate_left
             ·simp only [Act.put, List.setIfInBounds_toArray, List.set_cons_zero, List.set_cons_succ, i64_w, i32_w]
              rfl
             refine take_ (i := 11) (N := some 79) (v := ?_) (a' := ?_) #[oT,oT,oT,oT,oT,oT,oT,oT,oT,oT,oF,oT,oT,oF,oF,oF] rfl rfl (take_ofW HT_.out HW_.out (by kernel_rfl)) (fun _ _ _ h => h) (Or.inl ⟨by rfl, ?_⟩) hHeld ?_ ?_
             rotate_left
             ·rintro w' ⟨s0, s1, s2, s3, s4, s5, s6, s7, s8⟩
              go_simp
              with_reducible rfl
             rotate_left
             ·simp only [Act.put, List.setIfInBounds_toArray, List.set_cons_zero, List.set_cons_succ, i64_w, i32_w]
              rfl
             refine one_ (i := 10) (N := some 78) (bs 16 13) rfl rfl (one_of HT_.out (by kernel_rfl)) (by decide) (fun K hK => ?_)
             refine goes_ Try.func35 (by kernel_rfl) rfl #[.agg #[.int .i64 t287, .int .i64 t288, .int .i64 t289], .int .i64 x10_2] (by rfl) rfl rfl mt_ ?_
             with_reducible refine (laws_vec.calls t287 t288 t289 x10_2 t294 _ A69.out).mono ?_
             rintro e w80 ⟨rfl, hb⟩
             refine ⟨_, rfl, ?_⟩
             have n0_ := Aside0.mk (blk_below (g := gb266) (o := .cells #[.bool t280, .int .i64 t281, .int .i64 t282, .int .i64 t283] 54 (0, 0)) (bk_ BK266) hb)
             have n1_ := Aside0.mk (blk_below (g := gb267) (o := .cells #[.int .i64 ji22, .int .i64 ji23, .int .i64 ji24] 35 (0, 0)) (bk_ BK267) hb)
             have n2_ := Aside0.mk (blk_below (g := gb268) (o := .cells #[.int .i64 t284, .int .i64 t285, .int .i64 t286] 35 (0, 0)) (bk_ BK268) hb)
             have n3_ := Aside0.mk (blk_below (g := gb277) (o := .cells #[.bool t270, .int .i64 t271, .int .i64 t272, .int .i64 t273] 54 (0, 0)) (bk_ BK277) hb)
             have n4_ := Aside0.mk (blk_below (g := gb278) (o := .cells #[.int .i64 t274, .int .i64 t275, .int .i64 t276] 35 (0, 0)) (bk_ BK278) hb)
             have n5_ := Aside0.mk (blk_below (g := gb290) (o := .cells #[.int .i64 t287, .int .i64 t288, .int .i64 t289] 35 (0, 0)) (bk_ BK290) hb)
             have n6_ := Aside0.mk (below_step (by repeat (first | (with_reducible first | exact HB.out | apply below_alloc | apply pw_below_drewN | apply below_drew1 | refine below_set ?_ GE266.out | refine below_set ?_ GE267.out | refine below_set ?_ GE268.out | refine below_set ?_ GE277.out | refine below_set ?_ GE278.out | refine below_set ?_ GE290.out) | exact HB.out)) hb)
             clear BK266
             clear BK267
             clear BK268
             clear BK277
             clear BK278
             clear BK290
             clear HB
             have BK266 := n0_
             have BK267 := n1_
             have BK268 := n2_
             have BK277 := n3_
             have BK278 := n4_
             have BK290 := n5_
             have HB := n6_
             clear n0_ n1_ n2_ n3_ n4_ n5_ n6_
             (try clear hb)
             (try clear hb2)
             (try clear hk)
             (try clear hi)
             refine hK.out _ _ ⟨(blk_cell BK290.out 0).trans rfl, (blk_cell BK290.out 1).trans rfl, (blk_cell BK290.out 2).trans rfl, (blk_cell BK267.out 0).trans rfl, (blk_cell BK267.out 1).trans rfl, (blk_cell BK267.out 2).trans rfl, (blk_cell BK268.out 0).trans rfl, (blk_cell BK268.out 1).trans rfl, (blk_cell BK268.out 2).trans rfl⟩ (fun hHeld => ?_)
             clear hK K
             refine norm_ (a' := ?_) ?_ ?_
             rotate_left
             ·show Act.put _ (some 78) _ = _
              simp only [Act.put, List.setIfInBounds_toArray, List.set_cons_zero, List.set_cons_succ, i64_w, i32_w]
              rfl
             refine one_ (i := 13) (N := some 81) (bs 16 14) rfl rfl (one_of HT_.out (by kernel_rfl)) (by decide) (fun K hK => ?_)
             refine goes_ Try.func35 (by kernel_rfl) rfl #[.agg #[.int .i64 t284, .int .i64 t285, .int .i64 t286], .int .i64 x10_2] (by rfl) rfl rfl mt_ ?_
             with_reducible refine (laws_vec.calls t284 t285 t286 x10_2 t295 _ A70.out).mono ?_
             rintro e w81 ⟨rfl, hb⟩
             refine ⟨_, rfl, ?_⟩
             have n0_ := Aside0.mk (blk_below (g := gb266) (o := .cells #[.bool t280, .int .i64 t281, .int .i64 t282, .int .i64 t283] 54 (0, 0)) (bk_ BK266) hb)
             have n1_ := Aside0.mk (blk_below (g := gb267) (o := .cells #[.int .i64 ji22, .int .i64 ji23, .int .i64 ji24] 35 (0, 0)) (bk_ BK267) hb)
             have n2_ := Aside0.mk (blk_below (g := gb268) (o := .cells #[.int .i64 t284, .int .i64 t285, .int .i64 t286] 35 (0, 0)) (bk_ BK268) hb)
             have n3_ := Aside0.mk (blk_below (g := gb277) (o := .cells #[.bool t270, .int .i64 t271, .int .i64 t272, .int .i64 t273] 54 (0, 0)) (bk_ BK277) hb)
             have n4_ := Aside0.mk (blk_below (g := gb278) (o := .cells #[.int .i64 t274, .int .i64 t275, .int .i64 t276] 35 (0, 0)) (bk_ BK278) hb)
             have n5_ := Aside0.mk (blk_below (g := gb290) (o := .cells #[.int .i64 t287, .int .i64 t288, .int .i64 t289] 35 (0, 0)) (bk_ BK290) hb)
             have n6_ := Aside0.mk (below_step (by repeat (first | (with_reducible first | exact HB.out | apply below_alloc | apply pw_below_drewN | apply below_drew1 | refine below_set ?_ GE266.out | refine below_set ?_ GE267.out | refine below_set ?_ GE268.out | refine below_set ?_ GE277.out | refine below_set ?_ GE278.out | refine below_set ?_ GE290.out) | exact HB.out)) hb)
             clear BK266
             clear BK267
             clear BK268
             clear BK277
             clear BK278
             clear BK290
             clear HB
             have BK266 := n0_
             have BK267 := n1_
             have BK268 := n2_
             have BK277 := n3_
             have BK278 := n4_
             have BK290 := n5_
             have HB := n6_
             clear n0_ n1_ n2_ n3_ n4_ n5_ n6_
             (try clear hb)
             (try clear hb2)
             (try clear hk)
             (try clear hi)
             refine hK.out _ _ ⟨(blk_cell BK290.out 0).trans rfl, (blk_cell BK290.out 1).trans rfl, (blk_cell BK290.out 2).trans rfl, (blk_cell BK267.out 0).trans rfl, (blk_cell BK267.out 1).trans rfl, (blk_cell BK267.out 2).trans rfl, (blk_cell BK268.out 0).trans rfl, (blk_cell BK268.out 1).trans rfl, (blk_cell BK268.out 2).trans rfl⟩ (fun hHeld => ?_)
             clear hK K
             refine norm_ (a' := ?_) ?_ ?_
             rotate_left
             ·show Act.put _ (some 81) _ = _
              simp only [Act.put, List.setIfInBounds_toArray, List.set_cons_zero, List.set_cons_succ, i64_w, i32_w]
              rfl
             refine pure_s (i := 14) (N := some 82) (bs 16 15) (any_of HT_.out (by kernel_rfl)) (h := ?_)
             refine pure_s (i := 15) (N := some 83) (bs 16 16) (any_of HT_.out (by kernel_rfl)) (h := ?_)
             refine done_ (done_of HT_.out (by kernel_rfl)) ?_
             try go_wp2
             go_roundg k2
             case measure => have := HK1.out; have := HK2.out; omega
             case rel => exact ⟨(wrap64 (x10_2 + 1)), (by first | rfl | (simp; done) | (simp [*]; done)), H', ⟨by have := HK1.out; have := HK2.out; omega⟩, ⟨bk_ BK266⟩, ⟨bk_ BK267⟩, ⟨bk_ BK268⟩, ⟨bk_ BK277⟩, ⟨bk_ BK278⟩, ⟨bk_ BK290⟩, ⟨by repeat (first | (with_reducible first | exact HB.out | apply below_alloc | apply pw_below_drewN | apply below_drew1 | refine below_set ?_ GE266.out | refine below_set ?_ GE267.out | refine below_set ?_ GE268.out | refine below_set ?_ GE277.out | refine below_set ?_ GE278.out | refine below_set ?_ GE290.out) | exact HB.out)⟩⟩
          ·rw [if_neg c62] at H
           have c62b0 : decide (x10_2 < 3) = false := decide_eq_false c62
           clear c62
           replace H := Option.bind_eq_some_iff.mp H
           obtain ⟨t291, A820, H⟩ := H
           replace H : (if t291 = true then (if t280 = true then (laws_FnEstWithin.l0 k2 l0 (wrap64 (x6_1 + 1)) t280 t281 t282 t283 ji22 ji23 ji24 t284 t285 t286) else (some false)) else (some false)) = some r := H
           have A82 := Aside0.mk A820
           clear A820
           by_cases c83 : t291 = true
           ·subst c83
            have H1 : (if t280 = true then (laws_FnEstWithin.l0 k2 l0 (wrap64 (x6_1 + 1)) t280 t281 t282 t283 ji22 ji23 ji24 t284 t285 t286) else (some false)) = some r := by rw [if_pos rfl] at H; exact H
            clear H
            have H := H1
            clear H1
            by_cases c84 : t280 = true
            ·subst c84
             have H1 : (laws_FnEstWithin.l0 k2 l0 (wrap64 (x6_1 + 1)) true t281 t282 t283 ji22 ji23 ji24 t284 t285 t286) = some r := by rw [if_pos rfl] at H; exact H
             clear H
             have H := H1
             clear H1
             have H' := Aside0.mk H
             clear H
             have hnb85 := NB266_267.out
             have hnc85 := NB267_266.out
             have hnb86 := NB266_268.out
             have hnc86 := NB268_266.out
             have hnb87 := NB266_277.out
             have hnc87 := NB277_266.out
             have hnb88 := NB266_278.out
             have hnc88 := NB278_266.out
             have hnb89 := NB266_290.out
             have hnc89 := NB290_266.out
             have hcz90_0 : wr.cell? ⟨gb266, 0, none⟩ = some (.bool true) := (blk_cell BK266.out 0).trans rfl
             have hcz90_1 : wr.cell? ⟨gb266, 1, none⟩ = some (.int .i64 t281) := (blk_cell BK266.out 1).trans rfl
             have hcz90_2 : wr.cell? ⟨gb266, 2, none⟩ = some (.int .i64 t282) := (blk_cell BK266.out 2).trans rfl
             have hcz90_3 : wr.cell? ⟨gb266, 3, none⟩ = some (.int .i64 t283) := (blk_cell BK266.out 3).trans rfl
             have hfz90_0 := blk_frozen BK266.out 0
             have hfz90_1 := blk_frozen BK266.out 1
             have hfz90_2 := blk_frozen BK266.out 2
             have hfz90_3 := blk_frozen BK266.out 3
             go_wp2_with (first | ((with_reducible refine gate_callee (f := 55) rfl ?_); refine goesL_ (some 85) rfl rfl Try.func55 (by kernel_rfl) rfl #[.agg #[.bool true, .int .i64 t281, .int .i64 t282, .int .i64 t283]] rfl mt_ ?_; (with_reducible refine (spec_EstOk.calls true t281 t282 t283 true _ A82.out).mono ?_); rintro e w91 ⟨rfl, hb⟩; refine ⟨_, rfl, ?_⟩; have n0_ := Aside0.mk (blk_below (g := gb266) (o := .cells #[.bool true, .int .i64 t281, .int .i64 t282, .int .i64 t283] 54 (0, 0)) (bk_ BK266) hb); have n1_ := Aside0.mk (blk_below (g := gb267) (o := .cells #[.int .i64 ji22, .int .i64 ji23, .int .i64 ji24] 35 (0, 0)) (bk_ BK267) hb); have n2_ := Aside0.mk (blk_below (g := gb268) (o := .cells #[.int .i64 t284, .int .i64 t285, .int .i64 t286] 35 (0, 0)) (bk_ BK268) hb); have n3_ := Aside0.mk (blk_below (g := gb277) (o := .cells #[.bool t270, .int .i64 t271, .int .i64 t272, .int .i64 t273] 54 (0, 0)) (bk_ BK277) hb); have n4_ := Aside0.mk (blk_below (g := gb278) (o := .cells #[.int .i64 t274, .int .i64 t275, .int .i64 t276] 35 (0, 0)) (bk_ BK278) hb); have n5_ := Aside0.mk (blk_below (g := gb290) (o := .cells #[.int .i64 t287, .int .i64 t288, .int .i64 t289] 35 (0, 0)) (bk_ BK290) hb); have n6_ := Aside0.mk (below_step (by repeat (first | (with_reducible first | exact HB.out | apply below_alloc | apply pw_below_drewN | apply below_drew1 | refine below_set ?_ GE266.out | refine below_set ?_ GE267.out | refine below_set ?_ GE268.out | refine below_set ?_ GE277.out | refine below_set ?_ GE278.out | refine below_set ?_ GE290.out) | exact HB.out)) hb); clear BK266; clear BK267; clear BK268; clear BK277; clear BK278; clear BK290; clear HB; have BK266 := n0_; have BK267 := n1_; have BK268 := n2_; have BK277 := n3_; have BK278 := n4_; have BK290 := n5_; have HB := n6_; clear n0_ n1_ n2_ n3_ n4_ n5_ n6_; (try clear hb); (try clear hb2); (try clear hk); (try clear hi); have hcz92_0 : w91.cell? ⟨gb266, 0, none⟩ = some (.bool true) := (blk_cell BK266.out 0).trans rfl; have hcz92_1 : w91.cell? ⟨gb266, 1, none⟩ = some (.int .i64 t281) := (blk_cell BK266.out 1).trans rfl; have hcz92_2 : w91.cell? ⟨gb266, 2, none⟩ = some (.int .i64 t282) := (blk_cell BK266.out 2).trans rfl; have hcz92_3 : w91.cell? ⟨gb266, 3, none⟩ = some (.int .i64 t283) := (blk_cell BK266.out 3).trans rfl; have hfz92_0 := blk_frozen BK266.out 0; have hfz92_1 := blk_frozen BK266.out 1; have hfz92_2 := blk_frozen BK266.out 2; have hfz92_3 := blk_frozen BK266.out 3))
             go_roundg k2
             case measure => have := HK1.out; have := HK2.out; omega
             case rel => exact ⟨(wrap64 (x6_1 + 1)), (true), (t281), (t282), (t283), (ji22), (ji23), (ji24), (t284), (t285), (t286), (by first | rfl | (simp; done) | (simp [*]; done)), H', ⟨by have := HK1.out; have := HK2.out; omega⟩, ⟨bk_ BK266⟩, ⟨bk_ BK267⟩, ⟨bk_ BK268⟩, ⟨by repeat (first | (with_reducible first | exact HB.out | apply below_alloc | apply pw_below_drewN | apply below_drew1 | refine below_set ?_ GE266.out | refine below_set ?_ GE267.out | refine below_set ?_ GE268.out | refine below_set ?_ GE277.out | refine below_set ?_ GE278.out | refine below_set ?_ GE290.out) | exact HB.out)⟩⟩
            ·replace c84 := Bool.eq_false_iff.mpr c84
             subst c84
             have H1 : (some false) = some r := by rw [if_neg (show ¬ (false = true) by decide)] at H; exact H
             clear H
             have H := H1
             clear H1
             obtain rfl := Option.some.inj H
             have hnb93 := NB266_267.out
             have hnc93 := NB267_266.out
             have hnb94 := NB266_268.out
             have hnc94 := NB268_266.out
             have hnb95 := NB266_277.out
             have hnc95 := NB277_266.out
             have hnb96 := NB266_278.out
             have hnc96 := NB278_266.out
             have hnb97 := NB266_290.out
             have hnc97 := NB290_266.out
             have hcz98_0 : wr.cell? ⟨gb266, 0, none⟩ = some (.bool false) := (blk_cell BK266.out 0).trans rfl
             have hcz98_1 : wr.cell? ⟨gb266, 1, none⟩ = some (.int .i64 t281) := (blk_cell BK266.out 1).trans rfl
             have hcz98_2 : wr.cell? ⟨gb266, 2, none⟩ = some (.int .i64 t282) := (blk_cell BK266.out 2).trans rfl
             have hcz98_3 : wr.cell? ⟨gb266, 3, none⟩ = some (.int .i64 t283) := (blk_cell BK266.out 3).trans rfl
             have hfz98_0 := blk_frozen BK266.out 0
             have hfz98_1 := blk_frozen BK266.out 1
             have hfz98_2 := blk_frozen BK266.out 2
             have hfz98_3 := blk_frozen BK266.out 3
             go_wp2_with (first | ((with_reducible refine gate_callee (f := 55) rfl ?_); refine goesL_ (some 85) rfl rfl Try.func55 (by kernel_rfl) rfl #[.agg #[.bool false, .int .i64 t281, .int .i64 t282, .int .i64 t283]] rfl mt_ ?_; (with_reducible refine (spec_EstOk.calls false t281 t282 t283 true _ A82.out).mono ?_); rintro e w99 ⟨rfl, hb⟩; refine ⟨_, rfl, ?_⟩; have n0_ := Aside0.mk (blk_below (g := gb266) (o := .cells #[.bool false, .int .i64 t281, .int .i64 t282, .int .i64 t283] 54 (0, 0)) (bk_ BK266) hb); have n1_ := Aside0.mk (blk_below (g := gb267) (o := .cells #[.int .i64 ji22, .int .i64 ji23, .int .i64 ji24] 35 (0, 0)) (bk_ BK267) hb); have n2_ := Aside0.mk (blk_below (g := gb268) (o := .cells #[.int .i64 t284, .int .i64 t285, .int .i64 t286] 35 (0, 0)) (bk_ BK268) hb); have n3_ := Aside0.mk (blk_below (g := gb277) (o := .cells #[.bool t270, .int .i64 t271, .int .i64 t272, .int .i64 t273] 54 (0, 0)) (bk_ BK277) hb); have n4_ := Aside0.mk (blk_below (g := gb278) (o := .cells #[.int .i64 t274, .int .i64 t275, .int .i64 t276] 35 (0, 0)) (bk_ BK278) hb); have n5_ := Aside0.mk (blk_below (g := gb290) (o := .cells #[.int .i64 t287, .int .i64 t288, .int .i64 t289] 35 (0, 0)) (bk_ BK290) hb); have n6_ := Aside0.mk (below_step (by repeat (first | (with_reducible first | exact HB.out | apply below_alloc | apply pw_below_drewN | apply below_drew1 | refine below_set ?_ GE266.out | refine below_set ?_ GE267.out | refine below_set ?_ GE268.out | refine below_set ?_ GE277.out | refine below_set ?_ GE278.out | refine below_set ?_ GE290.out) | exact HB.out)) hb); clear BK266; clear BK267; clear BK268; clear BK277; clear BK278; clear BK290; clear HB; have BK266 := n0_; have BK267 := n1_; have BK268 := n2_; have BK277 := n3_; have BK278 := n4_; have BK290 := n5_; have HB := n6_; clear n0_ n1_ n2_ n3_ n4_ n5_ n6_; (try clear hb); (try clear hb2); (try clear hk); (try clear hi); have hcz100_0 : w99.cell? ⟨gb266, 0, none⟩ = some (.bool false) := (blk_cell BK266.out 0).trans rfl; have hcz100_1 : w99.cell? ⟨gb266, 1, none⟩ = some (.int .i64 t281) := (blk_cell BK266.out 1).trans rfl; have hcz100_2 : w99.cell? ⟨gb266, 2, none⟩ = some (.int .i64 t282) := (blk_cell BK266.out 2).trans rfl; have hcz100_3 : w99.cell? ⟨gb266, 3, none⟩ = some (.int .i64 t283) := (blk_cell BK266.out 3).trans rfl; have hfz100_0 := blk_frozen BK266.out 0; have hfz100_1 := blk_frozen BK266.out 1; have hfz100_2 := blk_frozen BK266.out 2; have hfz100_3 := blk_frozen BK266.out 3))
             go_ret
             exact ⟨by first | rfl | (simp [errW_none, errW_some] <;> rfl) | (simp only [← hji13, ← hji15, ← hji22, ← hji23, ← hji24]; first | rfl | (simp [errW_none, errW_some] <;> rfl)) | (simp [*, errW_none, errW_some] <;> rfl), by repeat (first | (with_reducible first | exact HB.out | apply below_alloc | apply pw_below_drewN | apply below_drew1 | refine below_set ?_ GE266.out | refine below_set ?_ GE267.out | refine below_set ?_ GE268.out | refine below_set ?_ GE277.out | refine below_set ?_ GE278.out | refine below_set ?_ GE290.out) | exact HB.out)⟩
           ·replace c83 := Bool.eq_false_iff.mpr c83
            subst c83
            have H1 : (some false) = some r := by rw [if_neg (show ¬ (false = true) by decide)] at H; exact H
            clear H
            have H := H1
            clear H1
            obtain rfl := Option.some.inj H
            have hnb101 := NB266_267.out
            have hnc101 := NB267_266.out
            have hnb102 := NB266_268.out
            have hnc102 := NB268_266.out
            have hnb103 := NB266_277.out
            have hnc103 := NB277_266.out
            have hnb104 := NB266_278.out
            have hnc104 := NB278_266.out
            have hnb105 := NB266_290.out
            have hnc105 := NB290_266.out
            have hcz106_0 : wr.cell? ⟨gb266, 0, none⟩ = some (.bool t280) := (blk_cell BK266.out 0).trans rfl
            have hcz106_1 : wr.cell? ⟨gb266, 1, none⟩ = some (.int .i64 t281) := (blk_cell BK266.out 1).trans rfl
            have hcz106_2 : wr.cell? ⟨gb266, 2, none⟩ = some (.int .i64 t282) := (blk_cell BK266.out 2).trans rfl
            have hcz106_3 : wr.cell? ⟨gb266, 3, none⟩ = some (.int .i64 t283) := (blk_cell BK266.out 3).trans rfl
            have hfz106_0 := blk_frozen BK266.out 0
            have hfz106_1 := blk_frozen BK266.out 1
            have hfz106_2 := blk_frozen BK266.out 2
            have hfz106_3 := blk_frozen BK266.out 3
            go_wp2_with (first | ((with_reducible refine gate_callee (f := 55) rfl ?_); refine goesL_ (some 85) rfl rfl Try.func55 (by kernel_rfl) rfl #[.agg #[.bool t280, .int .i64 t281, .int .i64 t282, .int .i64 t283]] rfl mt_ ?_; (with_reducible refine (spec_EstOk.calls t280 t281 t282 t283 false _ A82.out).mono ?_); rintro e w107 ⟨rfl, hb⟩; refine ⟨_, rfl, ?_⟩; have n0_ := Aside0.mk (blk_below (g := gb266) (o := .cells #[.bool t280, .int .i64 t281, .int .i64 t282, .int .i64 t283] 54 (0, 0)) (bk_ BK266) hb); have n1_ := Aside0.mk (blk_below (g := gb267) (o := .cells #[.int .i64 ji22, .int .i64 ji23, .int .i64 ji24] 35 (0, 0)) (bk_ BK267) hb); have n2_ := Aside0.mk (blk_below (g := gb268) (o := .cells #[.int .i64 t284, .int .i64 t285, .int .i64 t286] 35 (0, 0)) (bk_ BK268) hb); have n3_ := Aside0.mk (blk_below (g := gb277) (o := .cells #[.bool t270, .int .i64 t271, .int .i64 t272, .int .i64 t273] 54 (0, 0)) (bk_ BK277) hb); have n4_ := Aside0.mk (blk_below (g := gb278) (o := .cells #[.int .i64 t274, .int .i64 t275, .int .i64 t276] 35 (0, 0)) (bk_ BK278) hb); have n5_ := Aside0.mk (blk_below (g := gb290) (o := .cells #[.int .i64 t287, .int .i64 t288, .int .i64 t289] 35 (0, 0)) (bk_ BK290) hb); have n6_ := Aside0.mk (below_step (by repeat (first | (with_reducible first | exact HB.out | apply below_alloc | apply pw_below_drewN | apply below_drew1 | refine below_set ?_ GE266.out | refine below_set ?_ GE267.out | refine below_set ?_ GE268.out | refine below_set ?_ GE277.out | refine below_set ?_ GE278.out | refine below_set ?_ GE290.out) | exact HB.out)) hb); clear BK266; clear BK267; clear BK268; clear BK277; clear BK278; clear BK290; clear HB; have BK266 := n0_; have BK267 := n1_; have BK268 := n2_; have BK277 := n3_; have BK278 := n4_; have BK290 := n5_; have HB := n6_; clear n0_ n1_ n2_ n3_ n4_ n5_ n6_; (try clear hb); (try clear hb2); (try clear hk); (try clear hi)))
            go_ret
            exact ⟨by first | rfl | (simp [errW_none, errW_some] <;> rfl) | (simp only [← hji13, ← hji15, ← hji22, ← hji23, ← hji24]; first | rfl | (simp [errW_none, errW_some] <;> rfl)) | (simp [*, errW_none, errW_some] <;> rfl), by repeat (first | (with_reducible first | exact HB.out | apply below_alloc | apply pw_below_drewN | apply below_drew1 | refine below_set ?_ GE266.out | refine below_set ?_ GE267.out | refine below_set ?_ GE268.out | refine below_set ?_ GE277.out | refine below_set ?_ GE278.out | refine below_set ?_ GE290.out) | exact HB.out)⟩
       ·replace c20 := Bool.eq_false_iff.mpr c20
        subst c20
        have H1 : (laws_FnEstWithin.l0 k1 l0 (wrap64 (x6_1 + 1)) x267000_1 x267001_1 x267002_1 x267003_1 x268000_1 x268001_1 x268002_1 x269000_1 x269001_1 x269002_1) = some r := by rw [if_neg (show ¬ (false = true) by decide)] at H; exact H
        clear H
        have H := H1
        clear H1
        have H' := Aside0.mk H
        clear H
        obtain ⟨i0108, hi0108, _, hsz108, _⟩ := info_parts info5
        obtain ⟨A108, hcut108, hA108, hC108⟩ := print_drop_of (P := Try.prog) (Value.int .u8) 0 28 5 .i64 Try.underlying28 hi0108 hsz108 A0 c0 l0 (ji15) (of_decide_eq_true (by first | (with_reducible assumption) | assumption)) (of_decide_eq_true (by first | (with_reducible assumption) | assumption)) HC0.out
        have HR269 := Aside0.mk (Kd.C_of_reads (h1 := fun _ => rfl) (hA108 _ (Kd.reads_of_C HR0.out)))
        have HC269 := Aside0.mk hC108
        clear hA108 hC108 hi0108 hsz108
        go_wp2_with (first | ((with_reducible refine gate_callee (f := 52) rfl ?_); refine goesL_ (some 33) rfl rfl Try.func52 (by kernel_rfl) rfl #[.slice A108 (l0.drop ((ji15) : Int).toNat).length (c0 - (ji15).toNat)] rfl (by (try simp only [List.map_toArray, List.map_cons, List.map_nil]); first | done | (rw [show (l0.drop ((ji15) : Int).toNat).length = (l0.length - (ji15).toNat) from List.length_drop] <;> rfl) | (simp only [hji15]; rfl) | rfl | (simp only [List.length_drop, List.length_take]; rfl)) ?_; (with_reducible refine (spec_DrawEstLearn.calls k1 _ _ (l0.drop ((ji15) : Int).toNat) t270 t271 t272 t273 t274 t275 t276 _ ?side1 ?side2 A18.out).mono ?_); (case side1 => repeat (first | exact (Kd.C_below HR269.out HB.out) | (with_reducible refine Kd.C_alloc ?_ _) | (with_reducible refine Kd.C_drewN ?_ _) | (with_reducible refine Kd.C_drew ?_))); (case side2 => exact HC269.out); rintro e w109 ⟨rfl, hb⟩; refine ⟨_, rfl, ?_⟩; have n0_ := Aside0.mk (blk_below (g := gb266) (o := .cells #[.bool x267000_1, .int .i64 x267001_1, .int .i64 x267002_1, .int .i64 x267003_1] 54 (0, 0)) (bk_ BK266) hb); have n1_ := Aside0.mk (blk_below (g := gb267) (o := .cells #[.int .i64 x268000_1, .int .i64 x268001_1, .int .i64 x268002_1] 35 (0, 0)) (bk_ BK267) hb); have n2_ := Aside0.mk (blk_below (g := gb268) (o := .cells #[.int .i64 x269000_1, .int .i64 x269001_1, .int .i64 x269002_1] 35 (0, 0)) (bk_ BK268) hb); have n3_ := Aside0.mk (below_step (by repeat (first | (with_reducible first | exact HB.out | apply below_alloc | apply pw_below_drewN | apply below_drew1 | refine below_set ?_ GE266.out | refine below_set ?_ GE267.out | refine below_set ?_ GE268.out) | exact HB.out)) hb); clear BK266; clear BK267; clear BK268; clear HB; have BK266 := n0_; have BK267 := n1_; have BK268 := n2_; have HB := n3_; clear n0_ n1_ n2_ n3_; (try clear hb); (try clear hb2); (try clear hk); (try clear hi)) | ((with_reducible refine gate_dst (N := 7) rfl ?_); refine box_event ?hg (N := 7) ?hd (cs := #[.bool false, .int .i64 0, .int .i64 0, .int .i64 0]) (t := 54) ?hr ?_; (case hd => rfl); (case hg => rfl); (case hr => first | (go_simp; done) | (go_simp; rfl)); intro gb277 hg w110 hbox hb; have n0_ := Aside0.mk (blk_below (g := gb266) (o := .cells #[.bool x267000_1, .int .i64 x267001_1, .int .i64 x267002_1, .int .i64 x267003_1] 54 (0, 0)) (bk_ BK266) hb); have n1_ := Aside0.mk (blk_below (g := gb267) (o := .cells #[.int .i64 x268000_1, .int .i64 x268001_1, .int .i64 x268002_1] 35 (0, 0)) (bk_ BK267) hb); have n2_ := Aside0.mk (blk_below (g := gb268) (o := .cells #[.int .i64 x269000_1, .int .i64 x269001_1, .int .i64 x269002_1] 35 (0, 0)) (bk_ BK268) hb); have n3_ := Aside0.mk (below_step (by repeat (first | (with_reducible first | exact HB.out | apply below_alloc | apply pw_below_drewN | apply below_drew1 | refine below_set ?_ GE266.out | refine below_set ?_ GE267.out | refine below_set ?_ GE268.out) | exact HB.out)) hb); have n4_ := Aside0.mk (hbox); have n5_ := Aside0.mk ((by rw [hg]; exact (below_size (by repeat (first | (with_reducible first | exact HB.out | apply below_alloc | apply pw_below_drewN | apply below_drew1 | refine below_set ?_ GE266.out | refine below_set ?_ GE267.out | refine below_set ?_ GE268.out) | exact HB.out))) : w.heap.size ≤ gb277)); have n6_ := Aside0.mk ((by rw [hg]; exact (below_size (by repeat (first | (with_reducible first | exact HB.out | apply below_alloc | apply pw_below_drewN | apply below_drew1 | refine below_set ?_ GE266.out | refine below_set ?_ GE267.out | refine below_set ?_ GE268.out) | exact HB.out))) : w.heap.size ≤ gb277)); have n7_ := Aside0.mk ((by rw [hg]; exact Nat.ne_of_lt (blk_lt (g := gb266) (o := .cells #[.bool x267000_1, .int .i64 x267001_1, .int .i64 x267002_1, .int .i64 x267003_1] 54 (0, 0)) (bk_ BK266)) : gb266 ≠ gb277)); have n8_ := Aside0.mk ((by rw [hg]; exact Nat.ne_of_gt (blk_lt (g := gb266) (o := .cells #[.bool x267000_1, .int .i64 x267001_1, .int .i64 x267002_1, .int .i64 x267003_1] 54 (0, 0)) (bk_ BK266)) : gb277 ≠ gb266)); have n9_ := Aside0.mk ((by rw [hg]; exact Nat.ne_of_lt (blk_lt (g := gb267) (o := .cells #[.int .i64 x268000_1, .int .i64 x268001_1, .int .i64 x268002_1] 35 (0, 0)) (bk_ BK267)) : gb267 ≠ gb277)); have n10_ := Aside0.mk ((by rw [hg]; exact Nat.ne_of_gt (blk_lt (g := gb267) (o := .cells #[.int .i64 x268000_1, .int .i64 x268001_1, .int .i64 x268002_1] 35 (0, 0)) (bk_ BK267)) : gb277 ≠ gb267)); have n11_ := Aside0.mk ((by rw [hg]; exact Nat.ne_of_lt (blk_lt (g := gb268) (o := .cells #[.int .i64 x269000_1, .int .i64 x269001_1, .int .i64 x269002_1] 35 (0, 0)) (bk_ BK268)) : gb268 ≠ gb277)); have n12_ := Aside0.mk ((by rw [hg]; exact Nat.ne_of_gt (blk_lt (g := gb268) (o := .cells #[.int .i64 x269000_1, .int .i64 x269001_1, .int .i64 x269002_1] 35 (0, 0)) (bk_ BK268)) : gb277 ≠ gb268)); clear BK266; clear BK267; clear BK268; clear HB; have BK266 := n0_; have BK267 := n1_; have BK268 := n2_; have HB := n3_; have BK277 := n4_; have GW277 := n5_; have GE277 := n6_; have NB266_277 := n7_; have NB277_266 := n8_; have NB267_277 := n9_; have NB277_267 := n10_; have NB268_277 := n11_; have NB277_268 := n12_; clear n0_ n1_ n2_ n3_ n4_ n5_ n6_ n7_ n8_ n9_ n10_ n11_ n12_; clear hb hbox hg) | ((with_reducible refine gate_dst (N := 8) rfl ?_); refine box_event ?hg (N := 8) ?hd (cs := #[.int .i64 0, .int .i64 0, .int .i64 0]) (t := 35) ?hr ?_; (case hd => rfl); (case hg => rfl); (case hr => first | (go_simp; done) | (go_simp; rfl)); intro gb278 hg w111 hbox hb; have n0_ := Aside0.mk (blk_below (g := gb266) (o := .cells #[.bool x267000_1, .int .i64 x267001_1, .int .i64 x267002_1, .int .i64 x267003_1] 54 (0, 0)) (bk_ BK266) hb); have n1_ := Aside0.mk (blk_below (g := gb267) (o := .cells #[.int .i64 x268000_1, .int .i64 x268001_1, .int .i64 x268002_1] 35 (0, 0)) (bk_ BK267) hb); have n2_ := Aside0.mk (blk_below (g := gb268) (o := .cells #[.int .i64 x269000_1, .int .i64 x269001_1, .int .i64 x269002_1] 35 (0, 0)) (bk_ BK268) hb); have n3_ := Aside0.mk (blk_below (g := gb277) (o := .cells #[.bool false, .int .i64 0, .int .i64 0, .int .i64 0] 54 (0, 0)) (bk_ BK277) hb); have n4_ := Aside0.mk (below_step (by repeat (first | (with_reducible first | exact HB.out | apply below_alloc | apply pw_below_drewN | apply below_drew1 | refine below_set ?_ GE266.out | refine below_set ?_ GE267.out | refine below_set ?_ GE268.out | refine below_set ?_ GE277.out) | exact HB.out)) hb); have n5_ := Aside0.mk (hbox); have n6_ := Aside0.mk ((by rw [hg]; exact (below_size (by repeat (first | (with_reducible first | exact HB.out | apply below_alloc | apply pw_below_drewN | apply below_drew1 | refine below_set ?_ GE266.out | refine below_set ?_ GE267.out | refine below_set ?_ GE268.out | refine below_set ?_ GE277.out) | exact HB.out))) : w.heap.size ≤ gb278)); have n7_ := Aside0.mk ((by rw [hg]; exact (below_size (by repeat (first | (with_reducible first | exact HB.out | apply below_alloc | apply pw_below_drewN | apply below_drew1 | refine below_set ?_ GE266.out | refine below_set ?_ GE267.out | refine below_set ?_ GE268.out | refine below_set ?_ GE277.out) | exact HB.out))) : w.heap.size ≤ gb278)); have n8_ := Aside0.mk ((by rw [hg]; exact Nat.ne_of_lt (blk_lt (g := gb266) (o := .cells #[.bool x267000_1, .int .i64 x267001_1, .int .i64 x267002_1, .int .i64 x267003_1] 54 (0, 0)) (bk_ BK266)) : gb266 ≠ gb278)); have n9_ := Aside0.mk ((by rw [hg]; exact Nat.ne_of_gt (blk_lt (g := gb266) (o := .cells #[.bool x267000_1, .int .i64 x267001_1, .int .i64 x267002_1, .int .i64 x267003_1] 54 (0, 0)) (bk_ BK266)) : gb278 ≠ gb266)); have n10_ := Aside0.mk ((by rw [hg]; exact Nat.ne_of_lt (blk_lt (g := gb267) (o := .cells #[.int .i64 x268000_1, .int .i64 x268001_1, .int .i64 x268002_1] 35 (0, 0)) (bk_ BK267)) : gb267 ≠ gb278)); have n11_ := Aside0.mk ((by rw [hg]; exact Nat.ne_of_gt (blk_lt (g := gb267) (o := .cells #[.int .i64 x268000_1, .int .i64 x268001_1, .int .i64 x268002_1] 35 (0, 0)) (bk_ BK267)) : gb278 ≠ gb267)); have n12_ := Aside0.mk ((by rw [hg]; exact Nat.ne_of_lt (blk_lt (g := gb268) (o := .cells #[.int .i64 x269000_1, .int .i64 x269001_1, .int .i64 x269002_1] 35 (0, 0)) (bk_ BK268)) : gb268 ≠ gb278)); have n13_ := Aside0.mk ((by rw [hg]; exact Nat.ne_of_gt (blk_lt (g := gb268) (o := .cells #[.int .i64 x269000_1, .int .i64 x269001_1, .int .i64 x269002_1] 35 (0, 0)) (bk_ BK268)) : gb278 ≠ gb268)); have n14_ := Aside0.mk ((by rw [hg]; exact Nat.ne_of_lt (blk_lt (g := gb277) (o := .cells #[.bool false, .int .i64 0, .int .i64 0, .int .i64 0] 54 (0, 0)) (bk_ BK277)) : gb277 ≠ gb278)); have n15_ := Aside0.mk ((by rw [hg]; exact Nat.ne_of_gt (blk_lt (g := gb277) (o := .cells #[.bool false, .int .i64 0, .int .i64 0, .int .i64 0] 54 (0, 0)) (bk_ BK277)) : gb278 ≠ gb277)); clear BK266; clear BK267; clear BK268; clear BK277; clear HB; have BK266 := n0_; have BK267 := n1_; have BK268 := n2_; have BK277 := n3_; have HB := n4_; have BK278 := n5_; have GW278 := n6_; have GE278 := n7_; have NB266_278 := n8_; have NB278_266 := n9_; have NB267_278 := n10_; have NB278_267 := n11_; have NB268_278 := n12_; have NB278_268 := n13_; have NB277_278 := n14_; have NB278_277 := n15_; clear n0_ n1_ n2_ n3_ n4_ n5_ n6_ n7_ n8_ n9_ n10_ n11_ n12_ n13_ n14_ n15_; clear hb hbox hg; have hnb112 := NB277_266.out; have hnc112 := NB266_277.out; have hnb113 := NB277_267.out; have hnc113 := NB267_277.out; have hnb114 := NB277_268.out; have hnc114 := NB268_277.out; have hnb115 := NB277_278.out; have hnc115 := NB278_277.out; have hcz116_0 : w111.cell? ⟨gb277, 0, none⟩ = some (.bool false) := (blk_cell BK277.out 0).trans rfl; have hcz116_1 : w111.cell? ⟨gb277, 1, none⟩ = some (.int .i64 0) := (blk_cell BK277.out 1).trans rfl; have hcz116_2 : w111.cell? ⟨gb277, 2, none⟩ = some (.int .i64 0) := (blk_cell BK277.out 2).trans rfl; have hcz116_3 : w111.cell? ⟨gb277, 3, none⟩ = some (.int .i64 0) := (blk_cell BK277.out 3).trans rfl; have hfz116_0 := blk_frozen BK277.out 0; have hfz116_1 := blk_frozen BK277.out 1; have hfz116_2 := blk_frozen BK277.out 2; have hfz116_3 := blk_frozen BK277.out 3; have hnb117 := NB278_266.out; have hnc117 := NB266_278.out; have hnb118 := NB278_267.out; have hnc118 := NB267_278.out; have hnb119 := NB278_268.out; have hnc119 := NB268_278.out; have hcz120_0 : w111.cell? ⟨gb278, 0, none⟩ = some (.int .i64 0) := (blk_cell BK278.out 0).trans rfl; have hcz120_1 : w111.cell? ⟨gb278, 1, none⟩ = some (.int .i64 0) := (blk_cell BK278.out 1).trans rfl; have hcz120_2 : w111.cell? ⟨gb278, 2, none⟩ = some (.int .i64 0) := (blk_cell BK278.out 2).trans rfl; have hfz120_0 := blk_frozen BK278.out 0; have hfz120_1 := blk_frozen BK278.out 1; have hfz120_2 := blk_frozen BK278.out 2) | ((with_reducible refine gate_callee (f := 33) rfl ?_); refine goesL_ (some 37) rfl rfl Try.func33 (by kernel_rfl) rfl #[.agg #[.int .i64 t274, .int .i64 t275, .int .i64 t276]] rfl mt_ ?_; (with_reducible refine (spec_CostOk.calls t274 t275 t276 false _ A19.out).mono ?_); rintro e w121 ⟨rfl, hb⟩; refine ⟨_, rfl, ?_⟩; have n0_ := Aside0.mk (blk_below (g := gb266) (o := .cells #[.bool x267000_1, .int .i64 x267001_1, .int .i64 x267002_1, .int .i64 x267003_1] 54 (0, 0)) (by (with_reducible repeat (first | refine blk_drewN ?_ _ | refine blk_drew ?_ | refine blk_alloc ?_ _)); refine blk_far ?_ NB266_278.out _; (with_reducible repeat (first | refine blk_drewN ?_ _ | refine blk_drew ?_ | refine blk_alloc ?_ _)); refine blk_far ?_ NB266_278.out _; (with_reducible repeat (first | refine blk_drewN ?_ _ | refine blk_drew ?_ | refine blk_alloc ?_ _)); refine blk_far ?_ NB266_278.out _; (with_reducible repeat (first | refine blk_drewN ?_ _ | refine blk_drew ?_ | refine blk_alloc ?_ _)); refine blk_far ?_ NB266_277.out _; (with_reducible repeat (first | refine blk_drewN ?_ _ | refine blk_drew ?_ | refine blk_alloc ?_ _)); refine blk_far ?_ NB266_277.out _; (with_reducible repeat (first | refine blk_drewN ?_ _ | refine blk_drew ?_ | refine blk_alloc ?_ _)); refine blk_far ?_ NB266_277.out _; (with_reducible repeat (first | refine blk_drewN ?_ _ | refine blk_drew ?_ | refine blk_alloc ?_ _)); refine blk_far ?_ NB266_277.out _; exact bk_ BK266) hb); have n1_ := Aside0.mk (blk_below (g := gb267) (o := .cells #[.int .i64 x268000_1, .int .i64 x268001_1, .int .i64 x268002_1] 35 (0, 0)) (by (with_reducible repeat (first | refine blk_drewN ?_ _ | refine blk_drew ?_ | refine blk_alloc ?_ _)); refine blk_far ?_ NB267_278.out _; (with_reducible repeat (first | refine blk_drewN ?_ _ | refine blk_drew ?_ | refine blk_alloc ?_ _)); refine blk_far ?_ NB267_278.out _; (with_reducible repeat (first | refine blk_drewN ?_ _ | refine blk_drew ?_ | refine blk_alloc ?_ _)); refine blk_far ?_ NB267_278.out _; (with_reducible repeat (first | refine blk_drewN ?_ _ | refine blk_drew ?_ | refine blk_alloc ?_ _)); refine blk_far ?_ NB267_277.out _; (with_reducible repeat (first | refine blk_drewN ?_ _ | refine blk_drew ?_ | refine blk_alloc ?_ _)); refine blk_far ?_ NB267_277.out _; (with_reducible repeat (first | refine blk_drewN ?_ _ | refine blk_drew ?_ | refine blk_alloc ?_ _)); refine blk_far ?_ NB267_277.out _; (with_reducible repeat (first | refine blk_drewN ?_ _ | refine blk_drew ?_ | refine blk_alloc ?_ _)); refine blk_far ?_ NB267_277.out _; exact bk_ BK267) hb); have n2_ := Aside0.mk (blk_below (g := gb268) (o := .cells #[.int .i64 x269000_1, .int .i64 x269001_1, .int .i64 x269002_1] 35 (0, 0)) (by (with_reducible repeat (first | refine blk_drewN ?_ _ | refine blk_drew ?_ | refine blk_alloc ?_ _)); refine blk_far ?_ NB268_278.out _; (with_reducible repeat (first | refine blk_drewN ?_ _ | refine blk_drew ?_ | refine blk_alloc ?_ _)); refine blk_far ?_ NB268_278.out _; (with_reducible repeat (first | refine blk_drewN ?_ _ | refine blk_drew ?_ | refine blk_alloc ?_ _)); refine blk_far ?_ NB268_278.out _; (with_reducible repeat (first | refine blk_drewN ?_ _ | refine blk_drew ?_ | refine blk_alloc ?_ _)); refine blk_far ?_ NB268_277.out _; (with_reducible repeat (first | refine blk_drewN ?_ _ | refine blk_drew ?_ | refine blk_alloc ?_ _)); refine blk_far ?_ NB268_277.out _; (with_reducible repeat (first | refine blk_drewN ?_ _ | refine blk_drew ?_ | refine blk_alloc ?_ _)); refine blk_far ?_ NB268_277.out _; (with_reducible repeat (first | refine blk_drewN ?_ _ | refine blk_drew ?_ | refine blk_alloc ?_ _)); refine blk_far ?_ NB268_277.out _; exact bk_ BK268) hb); have n3_ := Aside0.mk (blk_below (g := gb277) (o := .cells #[.bool t270, .int .i64 t271, .int .i64 t272, .int .i64 t273] 54 (0, 0)) (by (with_reducible repeat (first | refine blk_drewN ?_ _ | refine blk_drew ?_ | refine blk_alloc ?_ _)); refine blk_far ?_ NB277_278.out _; (with_reducible repeat (first | refine blk_drewN ?_ _ | refine blk_drew ?_ | refine blk_alloc ?_ _)); refine blk_far ?_ NB277_278.out _; (with_reducible repeat (first | refine blk_drewN ?_ _ | refine blk_drew ?_ | refine blk_alloc ?_ _)); refine blk_far ?_ NB277_278.out _; (with_reducible repeat (first | refine blk_drewN ?_ _ | refine blk_drew ?_ | refine blk_alloc ?_ _)); refine blk_put (cs := #[.bool t270, .int .i64 t271, .int .i64 t272, .int .i64 0]) ?_ 3 _ rfl; (with_reducible repeat (first | refine blk_drewN ?_ _ | refine blk_drew ?_ | refine blk_alloc ?_ _)); refine blk_put (cs := #[.bool t270, .int .i64 t271, .int .i64 0, .int .i64 0]) ?_ 2 _ rfl; (with_reducible repeat (first | refine blk_drewN ?_ _ | refine blk_drew ?_ | refine blk_alloc ?_ _)); refine blk_put (cs := #[.bool t270, .int .i64 0, .int .i64 0, .int .i64 0]) ?_ 1 _ rfl; (with_reducible repeat (first | refine blk_drewN ?_ _ | refine blk_drew ?_ | refine blk_alloc ?_ _)); refine blk_put (cs := #[.bool false, .int .i64 0, .int .i64 0, .int .i64 0]) ?_ 0 _ rfl; exact bk_ BK277) hb); have n4_ := Aside0.mk (blk_below (g := gb278) (o := .cells #[.int .i64 t274, .int .i64 t275, .int .i64 t276] 35 (0, 0)) (by (with_reducible repeat (first | refine blk_drewN ?_ _ | refine blk_drew ?_ | refine blk_alloc ?_ _)); refine blk_put (cs := #[.int .i64 t274, .int .i64 t275, .int .i64 0]) ?_ 2 _ rfl; (with_reducible repeat (first | refine blk_drewN ?_ _ | refine blk_drew ?_ | refine blk_alloc ?_ _)); refine blk_put (cs := #[.int .i64 t274, .int .i64 0, .int .i64 0]) ?_ 1 _ rfl; (with_reducible repeat (first | refine blk_drewN ?_ _ | refine blk_drew ?_ | refine blk_alloc ?_ _)); refine blk_put (cs := #[.int .i64 0, .int .i64 0, .int .i64 0]) ?_ 0 _ rfl; (with_reducible repeat (first | refine blk_drewN ?_ _ | refine blk_drew ?_ | refine blk_alloc ?_ _)); refine blk_far ?_ NB278_277.out _; (with_reducible repeat (first | refine blk_drewN ?_ _ | refine blk_drew ?_ | refine blk_alloc ?_ _)); refine blk_far ?_ NB278_277.out _; (with_reducible repeat (first | refine blk_drewN ?_ _ | refine blk_drew ?_ | refine blk_alloc ?_ _)); refine blk_far ?_ NB278_277.out _; (with_reducible repeat (first | refine blk_drewN ?_ _ | refine blk_drew ?_ | refine blk_alloc ?_ _)); refine blk_far ?_ NB278_277.out _; exact bk_ BK278) hb); have n5_ := Aside0.mk (below_step (by repeat (first | (with_reducible first | exact HB.out | apply below_alloc | apply pw_below_drewN | apply below_drew1 | refine below_set ?_ GE266.out | refine below_set ?_ GE267.out | refine below_set ?_ GE268.out | refine below_set ?_ GE277.out | refine below_set ?_ GE278.out) | exact HB.out)) hb); clear BK266; clear BK267; clear BK268; clear BK277; clear BK278; clear HB; have BK266 := n0_; have BK267 := n1_; have BK268 := n2_; have BK277 := n3_; have BK278 := n4_; have HB := n5_; clear n0_ n1_ n2_ n3_ n4_ n5_; (try clear hb); (try clear hb2); (try clear hk); (try clear hi)))
        go_roundg k1
        case measure => have := HK1.out; omega
        case rel => exact ⟨(wrap64 (x6_1 + 1)), (x267000_1), (x267001_1), (x267002_1), (x267003_1), (x268000_1), (x268001_1), (x268002_1), (x269000_1), (x269001_1), (x269002_1), (by first | rfl | (simp; done) | (simp [*]; done)), H', ⟨by have := HK1.out; omega⟩, ⟨bk_ BK266⟩, ⟨bk_ BK267⟩, ⟨bk_ BK268⟩, ⟨by repeat (first | (with_reducible first | exact HB.out | apply below_alloc | apply pw_below_drewN | apply below_drew1 | refine below_set ?_ GE266.out | refine below_set ?_ GE267.out | refine below_set ?_ GE268.out | refine below_set ?_ GE277.out | refine below_set ?_ GE278.out) | exact HB.out)⟩⟩
      ·rw [if_neg c17] at H
       exact absurd H (by simp)
     ·rw [if_neg c16] at H
      exact absurd H (by simp)
    ·rw [if_neg c14] at H
     have c14b0 : decide (x6_1 < (wrap64 (1 + (ji13)))) = false := decide_eq_false c14
     clear c14
     obtain rfl := Option.some.inj H
     go_wp2
     go_ret
     exact ⟨by first | rfl | (simp [errW_none, errW_some] <;> rfl) | (simp only [← hji13]; first | rfl | (simp [errW_none, errW_some] <;> rfl)) | (simp [*, errW_none, errW_some] <;> rfl), by repeat (first | (with_reducible first | exact HB.out | apply below_alloc | apply pw_below_drewN | apply below_drew1 | refine below_set ?_ GE266.out | refine below_set ?_ GE267.out | refine below_set ?_ GE268.out) | exact HB.out)⟩

/-- THE ONE PURE STATEMENT of laws_FnEstWithin: yours. -/
def laws_FnEstWithin.Pure : Prop := ∀ (l0 : List Int), l0.length ≤ maxLen → l0.length * 1 ≤ 140737488351232 → (∀ x ∈ l0, (Lit.int .u8 x).wf = true) → ∃ k, laws_FnEstWithin.f k l0 = some true
theorem laws_FnEstWithin.walk (P : laws_FnEstWithin.Pure) (a0 : Option Addr) (len0 cap0 : Nat) (z0 : List Int) (w : World) (w0 : (a0 = none ∧ len0 = 0 ∧ cap0 = 0 ∧ z0 = []) ∨ ∃ x, a0 = some x ∧ len0 ≤ cap0 ∧ cap0 ≤ maxLen ∧ z0.length = cap0 ∧ (∀ i, i < z0.length → w.cell? (x.add i) = some (.int .u8 (z0.getD i 0))) ∧ ∀ n ∈ z0, (Lit.int .u8 n).wf = true) (y0 : len0 * 1 ≤ 140737488351232) :
  Calls Try.prog 10 #[.slice a0 len0 cap0] w fun e w' => e = .returned (.bool true) ∧ Below w.heap.size w w' := by
 obtain ⟨l0, rfl, hr0, hm0, hw0, hc0⟩ := ReadsInt.ofRowC w0
 obtain ⟨k, h⟩ := P l0 hm0 y0 hw0
 refine (laws_FnEstWithin.calls k _ _ l0 true w (Kd.C_of_reads (d := (0 : Int)) (h1 := fun _ => rfl) hr0) hc0 h).mono ?_
 rintro e w' ⟨rfl, hd⟩
 exact ⟨rfl, hd⟩

end Go.Proofs.Ytbijdkmchdkgfaa.PFnEstWithin
