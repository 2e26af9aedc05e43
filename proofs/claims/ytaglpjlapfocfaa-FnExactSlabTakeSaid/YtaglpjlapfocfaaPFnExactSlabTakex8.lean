-- printed by a program of this session (wip/printx) out of the translation; Lean checks it
import Derived.Test.YtaglpjlapfocfaaPFnExactSlabTakex0
import Derived.Test.YtaglpjlapfocfaaPFnExactSlabTakex1
import Derived.Test.YtaglpjlapfocfaaPFnExactSlabTakex5
import Derived.Test.YtaglpjlapfocfaaPFnExactSlabTakex7
namespace Go.Proofs.Ytaglpjlapfocfaa.PFnExactSlabTake
open Go.RowKit Go.Proofs.YtaglpjlapfocfaaW.PrintWords Go.Proofs.YtaglpjlapfocfaaW.PrintLast Go.Proofs.YtaglpjlapfocfaaW.PrintMore
attribute [local go_sem] max2_int min2_int max_two min_two max_three min_three max_four min_four   -- for this text's walks alone
set_option linter.unusedVariables false
set_option linter.unusedSimpArgs false

/-! ### laws_FnExactSlabTake: function 10 -/
mutual
def laws_FnExactSlabTake.j0 : Nat → Int → Int → Int → Int → Int → Bool → Int → List Int → Int → List Int → Int → List Int → Int → List Int → Option (Bool)
  | 0, _, _, _, _, _, _, _, _, _, _, _, _, _, _ => none
  | k + 1, x1, x7, x8, x11, x12, x54, x222000, x222001, x234000, x234001, x239000, x239001, x246000, x246001 => if x54 = true then (some false) else ((laws_toSlab.f k x222000 x222001).bind fun bt247 => ((laws_eqSlab.f k x239000 x239001 bt247.1 bt247.2).bind fun t251 => (if t251 = true then ((laws_markSlab.f k x239000 x239001 1).bind fun bt252 => (if bt252.1 < 0 then (laws_FnExactSlabTake.j1 k x1 x7 x8 true x222000 x222001 x234000 x234001 x246000 x246001) else ((laws_eqSlab.f k x246000 x246001 x234000 x234001).bind fun t254 => (if t254 = true then (if x11 = x7 then (laws_FnExactSlabTake.j1 k x1 x7 x8 (x12 != x8) x222000 x222001 x234000 x234001 x246000 x246001) else (laws_FnExactSlabTake.j1 k x1 x7 x8 true x222000 x222001 x234000 x234001 x246000 x246001)) else (laws_FnExactSlabTake.j1 k x1 x7 x8 true x222000 x222001 x234000 x234001 x246000 x246001))))) else (some false))))
def laws_FnExactSlabTake.j1 : Nat → Int → Int → Int → Bool → Int → List Int → Int → List Int → Int → List Int → Option (Bool)
  | 0, _, _, _, _, _, _, _, _, _, _ => none
  | k + 1, x1, x7, x8, x80, x222000, x222001, x234000, x234001, x246000, x246001 => if x80 = true then (some false) else ((laws_markSlab.f k x246000 x246001 1).bind fun bt255 => ((laws_heldSlab.f k x246000 bt255.2 1).bind fun t257 => (if t257 < 0 then (some false) else (if t257 = bt255.1 then ((laws_toSlab.f k x222000 x222001).bind fun bt258 => ((impl_SlabTake.f k bt258.1 bt258.2 x1).bind fun bt262 => ((laws_eqSlab.f k bt262.1 bt262.2.1 x234000 x234001).bind fun t269 => (if t269 = true then (if bt262.2.2.1 = x7 then (laws_FnExactSlabTake.j2 k bt255.1 (bt262.2.2.2 != x8) x246000 bt255.2) else (laws_FnExactSlabTake.j2 k bt255.1 true x246000 bt255.2)) else (laws_FnExactSlabTake.j2 k bt255.1 true x246000 bt255.2))))) else (some false)))))
def laws_FnExactSlabTake.j2 : Nat → Int → Bool → Int → List Int → Option (Bool)
  | 0, _, _, _, _ => none
  | k + 1, x14, x113, x246000, x246001 => if x113 = true then (some false) else ((laws_heldSlab.f k x246000 x246001 1).bind fun t270 => (if t270 < 0 then (some false) else (if t270 = x14 then (some true) else (some false))))
end
def laws_FnExactSlabTake.f (k : Nat) (a0_0 : Int) (l0_1 : List Int) (a1 : Int) : Option (Bool) := (laws_szSlab.f a0_0 l0_1 1048576).bind fun t222 => (if t222 < 0 then (some true) else ((laws_toSlab.f k a0_0 l0_1).bind fun bt223 => ((spec_SlabTake.f k bt223.1 bt223.2 a1).bind fun bt227 => ((laws_toSlab.f k a0_0 l0_1).bind fun bt234 => ((impl_SlabTake.f k bt234.1 bt234.2 a1).bind fun bt239 => ((laws_eqSlab.f k bt239.1 bt239.2.1 bt227.1 bt227.2.1).bind fun t246 => (if t246 = true then (if bt239.2.2.1 = bt227.2.2.1 then (laws_FnExactSlabTake.j0 k a1 bt227.2.2.1 bt227.2.2.2 bt239.2.2.1 bt239.2.2.2 (bt239.2.2.2 != bt227.2.2.2) a0_0 l0_1 bt227.1 bt227.2.1 bt234.1 bt234.2 bt239.1 bt239.2.1) else (laws_FnExactSlabTake.j0 k a1 bt227.2.2.1 bt227.2.2.2 bt239.2.2.1 bt239.2.2.2 true a0_0 l0_1 bt227.1 bt227.2.1 bt234.1 bt234.2 bt239.1 bt239.2.1)) else (laws_FnExactSlabTake.j0 k a1 bt227.2.2.1 bt227.2.2.2 bt239.2.2.1 bt239.2.2.2 true a0_0 l0_1 bt227.1 bt227.2.1 bt234.1 bt234.2 bt239.1 bt239.2.1))))))))
theorem laws_FnExactSlabTake.mono_l : ∀ k, (∀ y0 y1 y2 y3 y4 y5 y6 y7 y8 y9 y10 y11 y12 y13, LeO (laws_FnExactSlabTake.j0 k y0 y1 y2 y3 y4 y5 y6 y7 y8 y9 y10 y11 y12 y13) (laws_FnExactSlabTake.j0 (k + 1) y0 y1 y2 y3 y4 y5 y6 y7 y8 y9 y10 y11 y12 y13)) ∧ (∀ y0 y1 y2 y3 y4 y5 y6 y7 y8 y9, LeO (laws_FnExactSlabTake.j1 k y0 y1 y2 y3 y4 y5 y6 y7 y8 y9) (laws_FnExactSlabTake.j1 (k + 1) y0 y1 y2 y3 y4 y5 y6 y7 y8 y9)) ∧ (∀ y0 y1 y2 y3, LeO (laws_FnExactSlabTake.j2 k y0 y1 y2 y3) (laws_FnExactSlabTake.j2 (k + 1) y0 y1 y2 y3))
 | 0 => ⟨fun _ _ _ _ _ _ _ _ _ _ _ _ _ _ r h => by simp [laws_FnExactSlabTake.j0] at h, fun _ _ _ _ _ _ _ _ _ _ r h => by simp [laws_FnExactSlabTake.j1] at h, fun _ _ _ _ r h => by simp [laws_FnExactSlabTake.j2] at h⟩
 | k + 1 => by
  obtain ⟨ih0, ih1, ih2⟩ := laws_FnExactSlabTake.mono_l k
  refine ⟨?_, ?_, ?_⟩
  ·intro y0 y1 y2 y3 y4 y5 y6 y7 y8 y9 y10 y11 y12 y13
   unfold laws_FnExactSlabTake.j0
   repeat' first
   | (with_reducible exact ih0 _ _ _ _ _ _ _ _ _ _ _ _ _ _)
   | (with_reducible exact ih1 _ _ _ _ _ _ _ _ _ _)
   | (with_reducible exact ih2 _ _ _ _)
   | (with_reducible exact impl_SlabTake.mono _ _ _ _)
   | (with_reducible exact laws_eqSlab.mono _ _ _ _ _)
   | (with_reducible exact laws_heldSlab.mono _ _ _ _)
   | (with_reducible exact laws_markSlab.mono _ _ _ _)
   | (with_reducible exact laws_toSlab.mono _ _ _)
   | (with_reducible exact spec_SlabTake.mono _ _ _ _)
   | (with_reducible exact LeO.refl _)
   | (with_reducible exact LeO.none _)
   | (with_reducible refine LeO.ite ?_ ?_)
   | (with_reducible refine LeO.bind ?_ (fun _ => ?_))
   | exact ih0 _ _ _ _ _ _ _ _ _ _ _ _ _ _
   | exact ih1 _ _ _ _ _ _ _ _ _ _
   | exact ih2 _ _ _ _
   | exact impl_SlabTake.mono _ _ _ _
   | exact laws_eqSlab.mono _ _ _ _ _
   | exact laws_heldSlab.mono _ _ _ _
   | exact laws_markSlab.mono _ _ _ _
   | exact laws_toSlab.mono _ _ _
   | exact spec_SlabTake.mono _ _ _ _
   | exact LeO.none _
   | refine LeO.ite ?_ ?_
   | refine LeO.bind ?_ (fun _ => ?_)
  ·intro y0 y1 y2 y3 y4 y5 y6 y7 y8 y9
   unfold laws_FnExactSlabTake.j1
   repeat' first
   | (with_reducible exact ih0 _ _ _ _ _ _ _ _ _ _ _ _ _ _)
   | (with_reducible exact ih1 _ _ _ _ _ _ _ _ _ _)
   | (with_reducible exact ih2 _ _ _ _)
   | (with_reducible exact impl_SlabTake.mono _ _ _ _)
   | (with_reducible exact laws_eqSlab.mono _ _ _ _ _)
   | (with_reducible exact laws_heldSlab.mono _ _ _ _)
   | (with_reducible exact laws_markSlab.mono _ _ _ _)
   | (with_reducible exact laws_toSlab.mono _ _ _)
   | (with_reducible exact spec_SlabTake.mono _ _ _ _)
   | (with_reducible exact LeO.refl _)
   | (with_reducible exact LeO.none _)
   | (with_reducible refine LeO.ite ?_ ?_)
   | (with_reducible refine LeO.bind ?_ (fun _ => ?_))
   | exact ih0 _ _ _ _ _ _ _ _ _ _ _ _ _ _
   | exact ih1 _ _ _ _ _ _ _ _ _ _
   | exact ih2 _ _ _ _
   | exact impl_SlabTake.mono _ _ _ _
   | exact laws_eqSlab.mono _ _ _ _ _
   | exact laws_heldSlab.mono _ _ _ _
   | exact laws_markSlab.mono _ _ _ _
   | exact laws_toSlab.mono _ _ _
   | exact spec_SlabTake.mono _ _ _ _
   | exact LeO.none _
   | refine LeO.ite ?_ ?_
   | refine LeO.bind ?_ (fun _ => ?_)
  ·intro y0 y1 y2 y3
   unfold laws_FnExactSlabTake.j2
   repeat' first
   | (with_reducible exact ih0 _ _ _ _ _ _ _ _ _ _ _ _ _ _)
   | (with_reducible exact ih1 _ _ _ _ _ _ _ _ _ _)
   | (with_reducible exact ih2 _ _ _ _)
   | (with_reducible exact impl_SlabTake.mono _ _ _ _)
   | (with_reducible exact laws_eqSlab.mono _ _ _ _ _)
   | (with_reducible exact laws_heldSlab.mono _ _ _ _)
   | (with_reducible exact laws_markSlab.mono _ _ _ _)
   | (with_reducible exact laws_toSlab.mono _ _ _)
   | (with_reducible exact spec_SlabTake.mono _ _ _ _)
   | (with_reducible exact LeO.refl _)
   | (with_reducible exact LeO.none _)
   | (with_reducible refine LeO.ite ?_ ?_)
   | (with_reducible refine LeO.bind ?_ (fun _ => ?_))
   | exact ih0 _ _ _ _ _ _ _ _ _ _ _ _ _ _
   | exact ih1 _ _ _ _ _ _ _ _ _ _
   | exact ih2 _ _ _ _
   | exact impl_SlabTake.mono _ _ _ _
   | exact laws_eqSlab.mono _ _ _ _ _
   | exact laws_heldSlab.mono _ _ _ _
   | exact laws_markSlab.mono _ _ _ _
   | exact laws_toSlab.mono _ _ _
   | exact spec_SlabTake.mono _ _ _ _
   | exact LeO.none _
   | refine LeO.ite ?_ ?_
   | refine LeO.bind ?_ (fun _ => ?_)
theorem laws_FnExactSlabTake.mono : ∀ a0 a1 a2 k, LeO (laws_FnExactSlabTake.f k a0 a1 a2) (laws_FnExactSlabTake.f (k + 1) a0 a1 a2) := by
 intro a0 a1 a2 k
 obtain ⟨ih0, ih1, ih2⟩ := laws_FnExactSlabTake.mono_l k
 unfold laws_FnExactSlabTake.f
 repeat' first
   | (with_reducible exact ih0 _ _ _ _ _ _ _ _ _ _ _ _ _ _)
   | (with_reducible exact ih1 _ _ _ _ _ _ _ _ _ _)
   | (with_reducible exact ih2 _ _ _ _)
   | (with_reducible exact impl_SlabTake.mono _ _ _ _)
   | (with_reducible exact laws_eqSlab.mono _ _ _ _ _)
   | (with_reducible exact laws_heldSlab.mono _ _ _ _)
   | (with_reducible exact laws_markSlab.mono _ _ _ _)
   | (with_reducible exact laws_toSlab.mono _ _ _)
   | (with_reducible exact spec_SlabTake.mono _ _ _ _)
   | (with_reducible exact LeO.refl _)
   | (with_reducible exact LeO.none _)
   | (with_reducible refine LeO.ite ?_ ?_)
   | (with_reducible refine LeO.bind ?_ (fun _ => ?_))
   | exact ih0 _ _ _ _ _ _ _ _ _ _ _ _ _ _
   | exact ih1 _ _ _ _ _ _ _ _ _ _
   | exact ih2 _ _ _ _
   | exact impl_SlabTake.mono _ _ _ _
   | exact laws_eqSlab.mono _ _ _ _ _
   | exact laws_heldSlab.mono _ _ _ _
   | exact laws_markSlab.mono _ _ _ _
   | exact laws_toSlab.mono _ _ _
   | exact spec_SlabTake.mono _ _ _ _
   | exact LeO.none _
   | refine LeO.ite ?_ ?_
   | refine LeO.bind ?_ (fun _ => ?_)
set_option maxHeartbeats 8000000 in
set_option maxRecDepth 100000 in
theorem laws_FnExactSlabTake.calls (k : Nat) (a0_0 : Int) (A0_1 : Option Addr) (c0_1 : Nat) (l0_1 : List Int) (a1 : Int) (r : Bool) (w : World) (hr0_1 : Kd.C (Kd.int .i64) w A0_1 l0_1.length l0_1) (hc0_1 : l0_1.length ≤ c0_1) (h : laws_FnExactSlabTake.f k a0_0 l0_1 a1 = some r) :
  Calls Try.prog 10 #[.agg #[.int .i64 a0_0, .slice A0_1 l0_1.length c0_1], .int .i64 a1] w fun e w' => e = .returned (.bool r) ∧ Below w.heap.size w w' := by
 have hu29 := Try.underlying29
 have hu24 := Try.underlying24
 have HR0_1 := Aside0.mk hr0_1
 have HC0_1 := Aside0.mk hc0_1
 clear hr0_1 hc0_1
 have HB := Aside0.mk (Below.refl w.heap.size w)
 have H : ((laws_szSlab.f a0_0 l0_1 1048576).bind fun t222 => (if t222 < 0 then (some true) else ((laws_toSlab.f k a0_0 l0_1).bind fun bt223 => ((spec_SlabTake.f k bt223.1 bt223.2 a1).bind fun bt227 => ((laws_toSlab.f k a0_0 l0_1).bind fun bt234 => ((impl_SlabTake.f k bt234.1 bt234.2 a1).bind fun bt239 => ((laws_eqSlab.f k bt239.1 bt239.2.1 bt227.1 bt227.2.1).bind fun t246 => (if t246 = true then (if bt239.2.2.1 = bt227.2.2.1 then (laws_FnExactSlabTake.j0 k a1 bt227.2.2.1 bt227.2.2.2 bt239.2.2.1 bt239.2.2.2 (bt239.2.2.2 != bt227.2.2.2) a0_0 l0_1 bt227.1 bt227.2.1 bt234.1 bt234.2 bt239.1 bt239.2.1) else (laws_FnExactSlabTake.j0 k a1 bt227.2.2.1 bt227.2.2.2 bt239.2.2.1 bt239.2.2.2 true a0_0 l0_1 bt227.1 bt227.2.1 bt234.1 bt234.2 bt239.1 bt239.2.1)) else (laws_FnExactSlabTake.j0 k a1 bt227.2.2.1 bt227.2.2.2 bt239.2.2.1 bt239.2.2.2 true a0_0 l0_1 bt227.1 bt227.2.1 bt234.1 bt234.2 bt239.1 bt239.2.1))))))))) = some r := h
 clear h
 replace H := Option.bind_eq_some_iff.mp H
 obtain ⟨t222, A30, H⟩ := H
 replace H : (if t222 < 0 then (some true) else ((laws_toSlab.f k a0_0 l0_1).bind fun bt223 => ((spec_SlabTake.f k bt223.1 bt223.2 a1).bind fun bt227 => ((laws_toSlab.f k a0_0 l0_1).bind fun bt234 => ((impl_SlabTake.f k bt234.1 bt234.2 a1).bind fun bt239 => ((laws_eqSlab.f k bt239.1 bt239.2.1 bt227.1 bt227.2.1).bind fun t246 => (if t246 = true then (if bt239.2.2.1 = bt227.2.2.1 then (laws_FnExactSlabTake.j0 k a1 bt227.2.2.1 bt227.2.2.2 bt239.2.2.1 bt239.2.2.2 (bt239.2.2.2 != bt227.2.2.2) a0_0 l0_1 bt227.1 bt227.2.1 bt234.1 bt234.2 bt239.1 bt239.2.1) else (laws_FnExactSlabTake.j0 k a1 bt227.2.2.1 bt227.2.2.2 bt239.2.2.1 bt239.2.2.2 true a0_0 l0_1 bt227.1 bt227.2.1 bt234.1 bt234.2 bt239.1 bt239.2.1)) else (laws_FnExactSlabTake.j0 k a1 bt227.2.2.1 bt227.2.2.2 bt239.2.2.1 bt239.2.2.2 true a0_0 l0_1 bt227.1 bt227.2.1 bt234.1 bt234.2 bt239.1 bt239.2.1)))))))) = some r := H
 have A3 := Aside0.mk A30
 clear A30
 by_cases c4 : t222 < 0
 ·rw [if_pos c4] at H
  have c4b0 : decide (t222 < 0) = true := decide_eq_true c4
  clear c4
  obtain rfl := Option.some.inj H
  go_enter Try.func10, Try.ntmps10
  go_wp2_with (first | ((with_reducible refine gate_dst (N := 2) rfl ?_); refine box_event ?hg (N := 2) ?hd (cs := #[.int .i64 a0_0, .slice A0_1 l0_1.length c0_1]) (t := 29) ?hr ?_; (case hd => rfl); (case hg => rfl); (case hr => first | (go_simp; done) | (go_simp; rfl)); intro gb221 hg w5 hbox hb; have n0_ := Aside0.mk (below_step (by repeat (first | (with_reducible first | exact HB.out | apply below_alloc | apply pw_below_drewN | apply below_drew1) | exact HB.out)) hb); have n1_ := Aside0.mk (hbox); have n2_ := Aside0.mk ((by rw [hg]; exact (below_size (by repeat (first | (with_reducible first | exact HB.out | apply below_alloc | apply pw_below_drewN | apply below_drew1) | exact HB.out))) : w.heap.size ≤ gb221)); have n3_ := Aside0.mk ((by rw [hg]; exact (below_size (by repeat (first | (with_reducible first | exact HB.out | apply below_alloc | apply pw_below_drewN | apply below_drew1) | exact HB.out))) : w.heap.size ≤ gb221)); clear HB; have HB := n0_; have BK221 := n1_; have GW221 := n2_; have GE221 := n3_; clear n0_ n1_ n2_ n3_; clear hb hbox hg; have hcz6_0 : w5.cell? ⟨gb221, 0, none⟩ = some (.int .i64 a0_0) := (blk_cell BK221.out 0).trans rfl; have hcz6_1 : w5.cell? ⟨gb221, 1, none⟩ = some (.slice A0_1 l0_1.length c0_1) := (blk_cell BK221.out 1).trans rfl; have hfz6_0 := blk_frozen BK221.out 0; have hfz6_1 := blk_frozen BK221.out 1) | ((with_reducible refine gate_callee (f := 22) rfl ?_); refine goesL_ (some 21) rfl rfl Try.func22 (by kernel_rfl) rfl #[.agg #[.int .i64 a0_0, .slice A0_1 l0_1.length c0_1], .int .i64 1048576] rfl (by (try simp only [List.map_toArray, List.map_cons, List.map_nil]); first | done | rfl | (simp only [List.length_drop, List.length_take]; rfl)) ?_; (with_reducible refine (laws_szSlab.calls a0_0 _ _ l0_1 1048576 t222 _ ?side1 ?side2 A3.out).mono ?_); (case side1 => repeat (first | exact (Kd.C_below HR0_1.out HB.out) | (with_reducible refine Kd.C_alloc ?_ _) | (with_reducible refine Kd.C_drewN ?_ _) | (with_reducible refine Kd.C_drew ?_))); (case side2 => exact HC0_1.out); rintro e w7 ⟨rfl, hb⟩; refine ⟨_, rfl, ?_⟩; have n0_ := Aside0.mk (blk_below (g := gb221) (o := .cells #[.int .i64 a0_0, .slice A0_1 l0_1.length c0_1] 29 (0, 0)) (by (with_reducible repeat (first | refine blk_drewN ?_ _ | refine blk_drew ?_ | refine blk_alloc ?_ _)); exact BK221.out) hb); have n1_ := Aside0.mk (below_step (by repeat (first | (with_reducible first | exact HB.out | apply below_alloc | apply pw_below_drewN | apply below_drew1 | refine below_set ?_ GE221.out) | exact HB.out)) hb); clear BK221; clear HB; have BK221 := n0_; have HB := n1_; clear n0_ n1_; (try clear hb); (try clear hb2); (try clear hk); (try clear hi)))
  go_ret
  exact ⟨by first | rfl | (simp [errW_none, errW_some] <;> rfl) | (simp [*, errW_none, errW_some] <;> rfl), by repeat (first | (with_reducible first | exact HB.out | apply below_alloc | apply pw_below_drewN | apply below_drew1 | refine below_set ?_ GE221.out) | exact HB.out)⟩
 ·rw [if_neg c4] at H
  have c4b0 : decide (t222 < 0) = false := decide_eq_false c4
  clear c4
  replace H := Option.bind_eq_some_iff.mp H
  obtain ⟨⟨t223, t224⟩, A80, H⟩ := H
  replace H : ((spec_SlabTake.f k t223 t224 a1).bind fun bt227 => ((laws_toSlab.f k a0_0 l0_1).bind fun bt234 => ((impl_SlabTake.f k bt234.1 bt234.2 a1).bind fun bt239 => ((laws_eqSlab.f k bt239.1 bt239.2.1 bt227.1 bt227.2.1).bind fun t246 => (if t246 = true then (if bt239.2.2.1 = bt227.2.2.1 then (laws_FnExactSlabTake.j0 k a1 bt227.2.2.1 bt227.2.2.2 bt239.2.2.1 bt239.2.2.2 (bt239.2.2.2 != bt227.2.2.2) a0_0 l0_1 bt227.1 bt227.2.1 bt234.1 bt234.2 bt239.1 bt239.2.1) else (laws_FnExactSlabTake.j0 k a1 bt227.2.2.1 bt227.2.2.2 bt239.2.2.1 bt239.2.2.2 true a0_0 l0_1 bt227.1 bt227.2.1 bt234.1 bt234.2 bt239.1 bt239.2.1)) else (laws_FnExactSlabTake.j0 k a1 bt227.2.2.1 bt227.2.2.2 bt239.2.2.1 bt239.2.2.2 true a0_0 l0_1 bt227.1 bt227.2.1 bt234.1 bt234.2 bt239.1 bt239.2.1)))))) = some r := H
  have A8 := Aside0.mk A80
  clear A80
  replace H := Option.bind_eq_some_iff.mp H
  obtain ⟨⟨t227, t228, t231, t232⟩, A90, H⟩ := H
  replace H : ((laws_toSlab.f k a0_0 l0_1).bind fun bt234 => ((impl_SlabTake.f k bt234.1 bt234.2 a1).bind fun bt239 => ((laws_eqSlab.f k bt239.1 bt239.2.1 t227 t228).bind fun t246 => (if t246 = true then (if bt239.2.2.1 = t231 then (laws_FnExactSlabTake.j0 k a1 t231 t232 bt239.2.2.1 bt239.2.2.2 (bt239.2.2.2 != t232) a0_0 l0_1 t227 t228 bt234.1 bt234.2 bt239.1 bt239.2.1) else (laws_FnExactSlabTake.j0 k a1 t231 t232 bt239.2.2.1 bt239.2.2.2 true a0_0 l0_1 t227 t228 bt234.1 bt234.2 bt239.1 bt239.2.1)) else (laws_FnExactSlabTake.j0 k a1 t231 t232 bt239.2.2.1 bt239.2.2.2 true a0_0 l0_1 t227 t228 bt234.1 bt234.2 bt239.1 bt239.2.1))))) = some r := H
  have A9 := Aside0.mk A90
  clear A90
  replace H := Option.bind_eq_some_iff.mp H
  obtain ⟨⟨t234, t235⟩, A100, H⟩ := H
  replace H : ((impl_SlabTake.f k t234 t235 a1).bind fun bt239 => ((laws_eqSlab.f k bt239.1 bt239.2.1 t227 t228).bind fun t246 => (if t246 = true then (if bt239.2.2.1 = t231 then (laws_FnExactSlabTake.j0 k a1 t231 t232 bt239.2.2.1 bt239.2.2.2 (bt239.2.2.2 != t232) a0_0 l0_1 t227 t228 t234 t235 bt239.1 bt239.2.1) else (laws_FnExactSlabTake.j0 k a1 t231 t232 bt239.2.2.1 bt239.2.2.2 true a0_0 l0_1 t227 t228 t234 t235 bt239.1 bt239.2.1)) else (laws_FnExactSlabTake.j0 k a1 t231 t232 bt239.2.2.1 bt239.2.2.2 true a0_0 l0_1 t227 t228 t234 t235 bt239.1 bt239.2.1)))) = some r := H
  have A10 := Aside0.mk A100
  clear A100
  replace H := Option.bind_eq_some_iff.mp H
  obtain ⟨⟨t239, t240, t243, t244⟩, A110, H⟩ := H
  replace H : ((laws_eqSlab.f k t239 t240 t227 t228).bind fun t246 => (if t246 = true then (if t243 = t231 then (laws_FnExactSlabTake.j0 k a1 t231 t232 t243 t244 (t244 != t232) a0_0 l0_1 t227 t228 t234 t235 t239 t240) else (laws_FnExactSlabTake.j0 k a1 t231 t232 t243 t244 true a0_0 l0_1 t227 t228 t234 t235 t239 t240)) else (laws_FnExactSlabTake.j0 k a1 t231 t232 t243 t244 true a0_0 l0_1 t227 t228 t234 t235 t239 t240))) = some r := H
  have A11 := Aside0.mk A110
  clear A110
  have HC12 := Aside0.mk H
  clear H
  go_enter Try.func10, Try.ntmps10
  go_upto_region 8 with (first | ((with_reducible refine gate_dst (N := 2) rfl ?_); refine box_event ?hg (N := 2) ?hd (cs := #[.int .i64 a0_0, .slice A0_1 l0_1.length c0_1]) (t := 29) ?hr ?_; (case hd => rfl); (case hg => rfl); (case hr => first | (go_simp; done) | (go_simp; rfl)); intro gb221 hg w13 hbox hb; have n0_ := Aside0.mk (below_step (by repeat (first | (with_reducible first | exact HB.out | apply below_alloc | apply pw_below_drewN | apply below_drew1) | exact HB.out)) hb); have n1_ := Aside0.mk (hbox); have n2_ := Aside0.mk ((by rw [hg]; exact (below_size (by repeat (first | (with_reducible first | exact HB.out | apply below_alloc | apply pw_below_drewN | apply below_drew1) | exact HB.out))) : w.heap.size ≤ gb221)); have n3_ := Aside0.mk ((by rw [hg]; exact (below_size (by repeat (first | (with_reducible first | exact HB.out | apply below_alloc | apply pw_below_drewN | apply below_drew1) | exact HB.out))) : w.heap.size ≤ gb221)); clear HB; have HB := n0_; have BK221 := n1_; have GW221 := n2_; have GE221 := n3_; clear n0_ n1_ n2_ n3_; clear hb hbox hg; have hcz14_0 : w13.cell? ⟨gb221, 0, none⟩ = some (.int .i64 a0_0) := (blk_cell BK221.out 0).trans rfl; have hcz14_1 : w13.cell? ⟨gb221, 1, none⟩ = some (.slice A0_1 l0_1.length c0_1) := (blk_cell BK221.out 1).trans rfl; have hfz14_0 := blk_frozen BK221.out 0; have hfz14_1 := blk_frozen BK221.out 1) | ((with_reducible refine gate_callee (f := 22) rfl ?_); refine goesL_ (some 21) rfl rfl Try.func22 (by kernel_rfl) rfl #[.agg #[.int .i64 a0_0, .slice A0_1 l0_1.length c0_1], .int .i64 1048576] rfl (by (try simp only [List.map_toArray, List.map_cons, List.map_nil]); first | done | rfl | (simp only [List.length_drop, List.length_take]; rfl)) ?_; (with_reducible refine (laws_szSlab.calls a0_0 _ _ l0_1 1048576 t222 _ ?side1 ?side2 A3.out).mono ?_); (case side1 => repeat (first | exact (Kd.C_below HR0_1.out HB.out) | (with_reducible refine Kd.C_alloc ?_ _) | (with_reducible refine Kd.C_drewN ?_ _) | (with_reducible refine Kd.C_drew ?_))); (case side2 => exact HC0_1.out); rintro e w15 ⟨rfl, hb⟩; refine ⟨_, rfl, ?_⟩; have n0_ := Aside0.mk (blk_below (g := gb221) (o := .cells #[.int .i64 a0_0, .slice A0_1 l0_1.length c0_1] 29 (0, 0)) (by (with_reducible repeat (first | refine blk_drewN ?_ _ | refine blk_drew ?_ | refine blk_alloc ?_ _)); exact BK221.out) hb); have n1_ := Aside0.mk (below_step (by repeat (first | (with_reducible first | exact HB.out | apply below_alloc | apply pw_below_drewN | apply below_drew1 | refine below_set ?_ GE221.out) | exact HB.out)) hb); clear BK221; clear HB; have BK221 := n0_; have HB := n1_; clear n0_ n1_; (try clear hb); (try clear hb2); (try clear hk); (try clear hi); have hcz16_0 : w15.cell? ⟨gb221, 0, none⟩ = some (.int .i64 a0_0) := (blk_cell BK221.out 0).trans rfl; have hcz16_1 : w15.cell? ⟨gb221, 1, none⟩ = some (.slice A0_1 l0_1.length c0_1) := (blk_cell BK221.out 1).trans rfl; have hfz16_0 := blk_frozen BK221.out 0; have hfz16_1 := blk_frozen BK221.out 1) | ((with_reducible refine gate_callee (f := 24) rfl ?_); refine goesL_ (some 26) rfl rfl Try.func24 (by kernel_rfl) rfl #[.agg #[.int .i64 a0_0, .slice A0_1 l0_1.length c0_1]] rfl (by (try simp only [List.map_toArray, List.map_cons, List.map_nil]); first | done | rfl | (simp only [List.length_drop, List.length_take]; rfl)) ?_; (with_reducible refine (laws_toSlab.calls k a0_0 _ _ l0_1 t223 t224 _ ?side1 ?side2 A8.out).mono ?_); (case side1 => repeat (first | exact (Kd.C_below HR0_1.out HB.out) | (with_reducible refine Kd.C_alloc ?_ _) | (with_reducible refine Kd.C_drewN ?_ _) | (with_reducible refine Kd.C_drew ?_))); (case side2 => exact HC0_1.out); rintro e w17 ⟨v225, rfl, ho0, hb⟩; refine ⟨_, rfl, ?_⟩; have n0_ := Aside0.mk (Kd.R_lower ho0 (below_size (by repeat (first | (with_reducible first | exact HB.out | apply below_alloc | apply pw_below_drewN | apply below_drew1 | refine below_set ?_ GE221.out) | exact HB.out)))); have n1_ := Aside0.mk (blk_below (g := gb221) (o := .cells #[.int .i64 a0_0, .slice A0_1 l0_1.length c0_1] 29 (0, 0)) (by (with_reducible repeat (first | refine blk_drewN ?_ _ | refine blk_drew ?_ | refine blk_alloc ?_ _)); exact BK221.out) hb); have n2_ := Aside0.mk (below_step (by repeat (first | (with_reducible first | exact HB.out | apply below_alloc | apply pw_below_drewN | apply below_drew1 | refine below_set ?_ GE221.out) | exact HB.out)) hb); clear BK221; clear HB; have HO226 := n0_; have BK221 := n1_; have HB := n2_; clear n0_ n1_ n2_; (try clear hb); (try clear hb2); (try clear hk); (try clear hi); (try clear ho0); obtain ⟨Ao18, co18, eo18⟩ := Kd.R_slice HO226.out; subst eo18) | ((with_reducible refine gate_callee (f := 44) rfl ?_); refine goesL_ (some 28) rfl rfl Try.func44 (by kernel_rfl) rfl #[.agg #[.int .i64 t223, .slice Ao18 t224.length co18], .int .i64 a1] rfl (by (try simp only [List.map_toArray, List.map_cons, List.map_nil]); first | done | rfl | (simp only [List.length_drop, List.length_take]; rfl)) ?_; (with_reducible refine (spec_SlabTake.calls k t223 _ _ t224 a1 t227 t228 t231 t232 _ ?side1 ?side2 A9.out).mono ?_); (case side1 => repeat (first | exact (Kd.R_reads' HO226.out).2.2 | (with_reducible refine Kd.C_alloc ?_ _) | (with_reducible refine Kd.C_drewN ?_ _) | (with_reducible refine Kd.C_drew ?_))); (case side2 => exact (Kd.R_reads' HO226.out).2.1); rintro e w19 ⟨v229, rfl, ho0, hb⟩; refine ⟨_, rfl, ?_⟩; have n0_ := Aside0.mk (Kd.R_elder' (by (with_reducible repeat (first | apply Kd.R_alloc | apply Kd.R_drewN | apply Kd.R_drew)); exact HO226.out) (Kd.R_base ho0) hb); have n1_ := Aside0.mk (Kd.R_lower (Kd.R_new' ho0 (Kd.R_lt (by (with_reducible repeat (first | apply Kd.R_alloc | apply Kd.R_drewN | apply Kd.R_drew)); exact HO226.out))) (below_size (by repeat (first | (with_reducible first | exact HB.out | apply below_alloc | apply pw_below_drewN | apply below_drew1 | refine below_set ?_ GE221.out) | exact HB.out)))); have n2_ := Aside0.mk (blk_below (g := gb221) (o := .cells #[.int .i64 a0_0, .slice A0_1 l0_1.length c0_1] 29 (0, 0)) (by (with_reducible repeat (first | refine blk_drewN ?_ _ | refine blk_drew ?_ | refine blk_alloc ?_ _)); exact BK221.out) hb); have n3_ := Aside0.mk (below_step (by repeat (first | (with_reducible first | exact HB.out | apply below_alloc | apply pw_below_drewN | apply below_drew1 | refine below_set ?_ GE221.out) | exact HB.out)) hb); clear HO226; clear BK221; clear HB; have HO226 := n0_; have HO230 := n1_; have BK221 := n2_; have HB := n3_; clear n0_ n1_ n2_ n3_; (try clear hb); (try clear hb2); (try clear hk); (try clear hi); (try clear ho0)) | ((with_reducible refine gate_dst (N := 6) rfl ?_); refine box_event ?hg (N := 6) ?hd (cs := #[.int .i64 0, .slice none 0 0]) (t := 24) ?hr ?_; (case hd => rfl); (case hg => rfl); (case hr => first | (go_simp; done) | (go_simp; rfl)); intro gb233 hg w20 hbox hb; have n0_ := Aside0.mk (Kd.R_below (by (with_reducible repeat (first | apply Kd.R_alloc | apply Kd.R_drewN | apply Kd.R_drew)); exact HO226.out) hb); have n1_ := Aside0.mk (Kd.R_below (by (with_reducible repeat (first | apply Kd.R_alloc | apply Kd.R_drewN | apply Kd.R_drew)); exact HO230.out) hb); have n2_ := Aside0.mk (blk_below (g := gb221) (o := .cells #[.int .i64 a0_0, .slice A0_1 l0_1.length c0_1] 29 (0, 0)) (by (with_reducible repeat (first | refine blk_drewN ?_ _ | refine blk_drew ?_ | refine blk_alloc ?_ _)); exact BK221.out) hb); have n3_ := Aside0.mk (below_step (by repeat (first | (with_reducible first | exact HB.out | apply below_alloc | apply pw_below_drewN | apply below_drew1 | refine below_set ?_ GE221.out) | exact HB.out)) hb); have n4_ := Aside0.mk (hbox); have n5_ := Aside0.mk ((by rw [hg]; exact (below_size (by repeat (first | (with_reducible first | exact HB.out | apply below_alloc | apply pw_below_drewN | apply below_drew1 | refine below_set ?_ GE221.out) | exact HB.out))) : w.heap.size ≤ gb233)); have n6_ := Aside0.mk ((by rw [hg]; exact (below_size (by repeat (first | (with_reducible first | exact HB.out | apply below_alloc | apply pw_below_drewN | apply below_drew1 | refine below_set ?_ GE221.out) | exact HB.out))) : w.heap.size ≤ gb233)); have n7_ := Aside0.mk ((by rw [hg]; exact Nat.ne_of_lt (blk_lt (g := gb221) (o := .cells #[.int .i64 a0_0, .slice A0_1 l0_1.length c0_1] 29 (0, 0)) (by (with_reducible repeat (first | refine blk_drewN ?_ _ | refine blk_drew ?_ | refine blk_alloc ?_ _)); exact BK221.out)) : gb221 ≠ gb233)); have n8_ := Aside0.mk ((by rw [hg]; exact Nat.ne_of_gt (blk_lt (g := gb221) (o := .cells #[.int .i64 a0_0, .slice A0_1 l0_1.length c0_1] 29 (0, 0)) (by (with_reducible repeat (first | refine blk_drewN ?_ _ | refine blk_drew ?_ | refine blk_alloc ?_ _)); exact BK221.out)) : gb233 ≠ gb221)); clear HO226; clear HO230; clear BK221; clear HB; have HO226 := n0_; have HO230 := n1_; have BK221 := n2_; have HB := n3_; have BK233 := n4_; have GW233 := n5_; have GE233 := n6_; have NB221_233 := n7_; have NB233_221 := n8_; clear n0_ n1_ n2_ n3_ n4_ n5_ n6_ n7_ n8_; clear hb hbox hg; have hnb21 := NB233_221.out; have hnc21 := NB221_233.out; have hcz22_0 : w20.cell? ⟨gb233, 0, none⟩ = some (.int .i64 0) := (blk_cell BK233.out 0).trans rfl; have hcz22_1 : w20.cell? ⟨gb233, 1, none⟩ = some (.slice none 0 0) := (blk_cell BK233.out 1).trans rfl; have hfz22_0 := blk_frozen BK233.out 0; have hfz22_1 := blk_frozen BK233.out 1; obtain ⟨Ao23, co23, eo23⟩ := Kd.R_slice HO230.out; subst eo23; have hcz24_0 : w20.cell? ⟨gb221, 0, none⟩ = some (.int .i64 a0_0) := (blk_cell BK221.out 0).trans rfl; have hcz24_1 : w20.cell? ⟨gb221, 1, none⟩ = some (.slice A0_1 l0_1.length c0_1) := (blk_cell BK221.out 1).trans rfl; have hfz24_0 := blk_frozen BK221.out 0; have hfz24_1 := blk_frozen BK221.out 1) | ((with_reducible refine gate_callee (f := 24) rfl ?_); refine goesL_ (some 33) rfl rfl Try.func24 (by kernel_rfl) rfl #[.agg #[.int .i64 a0_0, .slice A0_1 l0_1.length c0_1]] rfl (by (try simp only [List.map_toArray, List.map_cons, List.map_nil]); first | done | rfl | (simp only [List.length_drop, List.length_take]; rfl)) ?_; (with_reducible refine (laws_toSlab.calls k a0_0 _ _ l0_1 t234 t235 _ ?side1 ?side2 A10.out).mono ?_); (case side1 => exact Kd.C_below HR0_1.out (by repeat (first | (with_reducible first | exact HB.out | apply below_alloc | apply pw_below_drewN | apply below_drew1 | refine below_set ?_ GE221.out | refine below_set ?_ GE233.out) | exact HB.out))); (case side2 => exact HC0_1.out); rintro e w25 ⟨v236, rfl, ho0, hb⟩; refine ⟨_, rfl, ?_⟩; have n0_ := Aside0.mk (Kd.R_elder' (by (with_reducible repeat (first | apply Kd.R_alloc | apply Kd.R_drewN | apply Kd.R_drew)); exact (Kd.R_mono (Kd.R_far (p := ⟨gb233, 1, none⟩) (Kd.R_far (p := ⟨gb233, 0, none⟩) (Kd.R_types HO226.out BK233.out (by decide)) (fun _ hk => by first | exact hk.2 | grind) (.int .i64 t227)) (fun _ hk => by first | exact hk.2 | grind) (.slice Ao23 t228.length co23)) (fun _ h_ => h_.1))) (Kd.R_base ho0) hb); have n1_ := Aside0.mk (Kd.R_elder' (by (with_reducible repeat (first | apply Kd.R_alloc | apply Kd.R_drewN | apply Kd.R_drew)); exact (Kd.R_mono (Kd.R_far (p := ⟨gb233, 1, none⟩) (Kd.R_far (p := ⟨gb233, 0, none⟩) (Kd.R_types HO230.out BK233.out (by decide)) (fun _ hk => by first | exact hk.2 | grind) (.int .i64 t227)) (fun _ hk => by first | exact hk.2 | grind) (.slice Ao23 t228.length co23)) (fun _ h_ => h_.1))) (Kd.R_base ho0) hb); have n2_ := Aside0.mk (Kd.R_lower (Kd.R_new' (Kd.R_new' ho0 (Kd.R_lt (by (with_reducible repeat (first | apply Kd.R_alloc | apply Kd.R_drewN | apply Kd.R_drew)); exact (Kd.R_mono (Kd.R_far (p := ⟨gb233, 1, none⟩) (Kd.R_far (p := ⟨gb233, 0, none⟩) (Kd.R_types HO226.out BK233.out (by decide)) (fun _ hk => by first | exact hk.2 | grind) (.int .i64 t227)) (fun _ hk => by first | exact hk.2 | grind) (.slice Ao23 t228.length co23)) (fun _ h_ => h_.1))))) (Kd.R_lt (by (with_reducible repeat (first | apply Kd.R_alloc | apply Kd.R_drewN | apply Kd.R_drew)); exact (Kd.R_mono (Kd.R_far (p := ⟨gb233, 1, none⟩) (Kd.R_far (p := ⟨gb233, 0, none⟩) (Kd.R_types HO230.out BK233.out (by decide)) (fun _ hk => by first | exact hk.2 | grind) (.int .i64 t227)) (fun _ hk => by first | exact hk.2 | grind) (.slice Ao23 t228.length co23)) (fun _ h_ => h_.1))))) (below_size (by repeat (first | (with_reducible first | exact HB.out | apply below_alloc | apply pw_below_drewN | apply below_drew1 | refine below_set ?_ GE221.out | refine below_set ?_ GE233.out) | exact HB.out)))); have n3_ := Aside0.mk (blk_below (g := gb221) (o := .cells #[.int .i64 a0_0, .slice A0_1 l0_1.length c0_1] 29 (0, 0)) (by (with_reducible repeat (first | refine blk_drewN ?_ _ | refine blk_drew ?_ | refine blk_alloc ?_ _)); refine blk_far ?_ NB221_233.out _; (with_reducible repeat (first | refine blk_drewN ?_ _ | refine blk_drew ?_ | refine blk_alloc ?_ _)); refine blk_far ?_ NB221_233.out _; (with_reducible repeat (first | refine blk_drewN ?_ _ | refine blk_drew ?_ | refine blk_alloc ?_ _)); exact BK221.out) hb); have n4_ := Aside0.mk (blk_below (g := gb233) (o := .cells #[.int .i64 t227, .slice Ao23 t228.length co23] 24 (0, 0)) (by (with_reducible repeat (first | refine blk_drewN ?_ _ | refine blk_drew ?_ | refine blk_alloc ?_ _)); refine blk_put (cs := #[.int .i64 t227, .slice none 0 0]) ?_ 1 _ rfl; (with_reducible repeat (first | refine blk_drewN ?_ _ | refine blk_drew ?_ | refine blk_alloc ?_ _)); refine blk_put (cs := #[.int .i64 0, .slice none 0 0]) ?_ 0 _ rfl; (with_reducible repeat (first | refine blk_drewN ?_ _ | refine blk_drew ?_ | refine blk_alloc ?_ _)); exact BK233.out) hb); have n5_ := Aside0.mk (below_step (by repeat (first | (with_reducible first | exact HB.out | apply below_alloc | apply pw_below_drewN | apply below_drew1 | refine below_set ?_ GE221.out | refine below_set ?_ GE233.out) | exact HB.out)) hb); clear HO226; clear HO230; clear BK221; clear BK233; clear HB; have HO226 := n0_; have HO230 := n1_; have HO237 := n2_; have BK221 := n3_; have BK233 := n4_; have HB := n5_; clear n0_ n1_ n2_ n3_ n4_ n5_; (try clear hb); (try clear hb2); (try clear hk); (try clear hi); (try clear ho0)) | ((with_reducible refine gate_dst (N := 9) rfl ?_); refine box_event ?hg (N := 9) ?hd (cs := #[.int .i64 0, .slice none 0 0]) (t := 24) ?hr ?_; (case hd => rfl); (case hg => rfl); (case hr => first | (go_simp; done) | (go_simp; rfl)); intro gb238 hg w26 hbox hb; have n0_ := Aside0.mk (Kd.R_below (by (with_reducible repeat (first | apply Kd.R_alloc | apply Kd.R_drewN | apply Kd.R_drew)); exact HO226.out) hb); have n1_ := Aside0.mk (Kd.R_below (by (with_reducible repeat (first | apply Kd.R_alloc | apply Kd.R_drewN | apply Kd.R_drew)); exact HO230.out) hb); have n2_ := Aside0.mk (Kd.R_below (by (with_reducible repeat (first | apply Kd.R_alloc | apply Kd.R_drewN | apply Kd.R_drew)); exact HO237.out) hb); have n3_ := Aside0.mk (blk_below (g := gb221) (o := .cells #[.int .i64 a0_0, .slice A0_1 l0_1.length c0_1] 29 (0, 0)) (by (with_reducible repeat (first | refine blk_drewN ?_ _ | refine blk_drew ?_ | refine blk_alloc ?_ _)); exact BK221.out) hb); have n4_ := Aside0.mk (blk_below (g := gb233) (o := .cells #[.int .i64 t227, .slice Ao23 t228.length co23] 24 (0, 0)) (by (with_reducible repeat (first | refine blk_drewN ?_ _ | refine blk_drew ?_ | refine blk_alloc ?_ _)); exact BK233.out) hb); have n5_ := Aside0.mk (below_step (by repeat (first | (with_reducible first | exact HB.out | apply below_alloc | apply pw_below_drewN | apply below_drew1 | refine below_set ?_ GE221.out | refine below_set ?_ GE233.out) | exact HB.out)) hb); have n6_ := Aside0.mk (hbox); have n7_ := Aside0.mk ((by rw [hg]; exact (below_size (by repeat (first | (with_reducible first | exact HB.out | apply below_alloc | apply pw_below_drewN | apply below_drew1 | refine below_set ?_ GE221.out | refine below_set ?_ GE233.out) | exact HB.out))) : w.heap.size ≤ gb238)); have n8_ := Aside0.mk ((by rw [hg]; exact (below_size (by repeat (first | (with_reducible first | exact HB.out | apply below_alloc | apply pw_below_drewN | apply below_drew1 | refine below_set ?_ GE221.out | refine below_set ?_ GE233.out) | exact HB.out))) : w.heap.size ≤ gb238)); have n9_ := Aside0.mk ((by rw [hg]; exact Nat.ne_of_lt (blk_lt (g := gb221) (o := .cells #[.int .i64 a0_0, .slice A0_1 l0_1.length c0_1] 29 (0, 0)) (by (with_reducible repeat (first | refine blk_drewN ?_ _ | refine blk_drew ?_ | refine blk_alloc ?_ _)); exact BK221.out)) : gb221 ≠ gb238)); have n10_ := Aside0.mk ((by rw [hg]; exact Nat.ne_of_gt (blk_lt (g := gb221) (o := .cells #[.int .i64 a0_0, .slice A0_1 l0_1.length c0_1] 29 (0, 0)) (by (with_reducible repeat (first | refine blk_drewN ?_ _ | refine blk_drew ?_ | refine blk_alloc ?_ _)); exact BK221.out)) : gb238 ≠ gb221)); have n11_ := Aside0.mk ((by rw [hg]; exact Nat.ne_of_lt (blk_lt (g := gb233) (o := .cells #[.int .i64 t227, .slice Ao23 t228.length co23] 24 (0, 0)) (by (with_reducible repeat (first | refine blk_drewN ?_ _ | refine blk_drew ?_ | refine blk_alloc ?_ _)); exact BK233.out)) : gb233 ≠ gb238)); have n12_ := Aside0.mk ((by rw [hg]; exact Nat.ne_of_gt (blk_lt (g := gb233) (o := .cells #[.int .i64 t227, .slice Ao23 t228.length co23] 24 (0, 0)) (by (with_reducible repeat (first | refine blk_drewN ?_ _ | refine blk_drew ?_ | refine blk_alloc ?_ _)); exact BK233.out)) : gb238 ≠ gb233)); clear HO226; clear HO230; clear HO237; clear BK221; clear BK233; clear HB; have HO226 := n0_; have HO230 := n1_; have HO237 := n2_; have BK221 := n3_; have BK233 := n4_; have HB := n5_; have BK238 := n6_; have GW238 := n7_; have GE238 := n8_; have NB221_238 := n9_; have NB238_221 := n10_; have NB233_238 := n11_; have NB238_233 := n12_; clear n0_ n1_ n2_ n3_ n4_ n5_ n6_ n7_ n8_ n9_ n10_ n11_ n12_; clear hb hbox hg; have hnb27 := NB238_221.out; have hnc27 := NB221_238.out; have hnb28 := NB238_233.out; have hnc28 := NB233_238.out; have hcz29_0 : w26.cell? ⟨gb238, 0, none⟩ = some (.int .i64 0) := (blk_cell BK238.out 0).trans rfl; have hcz29_1 : w26.cell? ⟨gb238, 1, none⟩ = some (.slice none 0 0) := (blk_cell BK238.out 1).trans rfl; have hfz29_0 := blk_frozen BK238.out 0; have hfz29_1 := blk_frozen BK238.out 1; obtain ⟨Ao30, co30, eo30⟩ := Kd.R_slice HO237.out; subst eo30) | ((with_reducible refine gate_callee (f := 45) rfl ?_); refine goesL_ (some 37) rfl rfl Try.func45 (by kernel_rfl) rfl #[.agg #[.int .i64 t234, .slice Ao30 t235.length co30], .int .i64 a1] rfl (by (try simp only [List.map_toArray, List.map_cons, List.map_nil]); first | done | rfl | (simp only [List.length_drop, List.length_take]; rfl)) ?_; (with_reducible refine (impl_SlabTake.calls k t234 _ _ t235 a1 t239 t240 t243 t244 _ ?side1 ?side2 A11.out).mono ?_); (case side1 => refine (Kd.R_reads' (e := 3) (base := w.heap.size) (ok := fun k_ => ((True ∧ some k_ ≠ (.slice Ao18 t224.length co18 : Value).ownBlock) ∧ some k_ ≠ (.slice Ao23 t228.length co23 : Value).ownBlock)) (n := t235.length) (c := co30) ?_).2.2; exact (by (with_reducible repeat (first | apply Kd.R_alloc | apply Kd.R_drewN | apply Kd.R_drew)); exact (Kd.R_mono (Kd.R_far (p := ⟨gb238, 1, none⟩) (Kd.R_far (p := ⟨gb238, 0, none⟩) (Kd.R_types HO237.out BK238.out (by decide)) (fun _ hk => by first | exact hk.2 | grind) (.int .i64 t234)) (fun _ hk => by first | exact hk.2 | grind) (.slice Ao30 t235.length co30)) (fun _ h_ => h_.1)))); (case side2 => exact (Kd.R_reads' HO237.out).2.1); rintro e w31 ⟨v241, rfl, ho0, hb⟩; refine ⟨_, rfl, ?_⟩; have n0_ := Aside0.mk (Kd.R_elder' (by (with_reducible repeat (first | apply Kd.R_alloc | apply Kd.R_drewN | apply Kd.R_drew)); exact (Kd.R_mono (Kd.R_far (p := ⟨gb238, 1, none⟩) (Kd.R_far (p := ⟨gb238, 0, none⟩) (Kd.R_types HO226.out BK238.out (by decide)) (fun _ hk => by first | exact hk.2 | grind) (.int .i64 t234)) (fun _ hk => by first | exact hk.2 | grind) (.slice Ao30 t235.length co30)) (fun _ h_ => h_.1))) (Kd.R_base ho0) hb); have n1_ := Aside0.mk (Kd.R_elder' (by (with_reducible repeat (first | apply Kd.R_alloc | apply Kd.R_drewN | apply Kd.R_drew)); exact (Kd.R_mono (Kd.R_far (p := ⟨gb238, 1, none⟩) (Kd.R_far (p := ⟨gb238, 0, none⟩) (Kd.R_types HO230.out BK238.out (by decide)) (fun _ hk => by first | exact hk.2 | grind) (.int .i64 t234)) (fun _ hk => by first | exact hk.2 | grind) (.slice Ao30 t235.length co30)) (fun _ h_ => h_.1))) (Kd.R_base ho0) hb); have n2_ := Aside0.mk (Kd.R_elder' (by (with_reducible repeat (first | apply Kd.R_alloc | apply Kd.R_drewN | apply Kd.R_drew)); exact (Kd.R_mono (Kd.R_far (p := ⟨gb238, 1, none⟩) (Kd.R_far (p := ⟨gb238, 0, none⟩) (Kd.R_types HO237.out BK238.out (by decide)) (fun _ hk => by first | exact hk.2 | grind) (.int .i64 t234)) (fun _ hk => by first | exact hk.2 | grind) (.slice Ao30 t235.length co30)) (fun _ h_ => h_.1))) (Kd.R_base ho0) hb); have n3_ := Aside0.mk (Kd.R_lower (Kd.R_new' (Kd.R_new' (Kd.R_new' ho0 (Kd.R_lt (by (with_reducible repeat (first | apply Kd.R_alloc | apply Kd.R_drewN | apply Kd.R_drew)); exact (Kd.R_mono (Kd.R_far (p := ⟨gb238, 1, none⟩) (Kd.R_far (p := ⟨gb238, 0, none⟩) (Kd.R_types HO226.out BK238.out (by decide)) (fun _ hk => by first | exact hk.2 | grind) (.int .i64 t234)) (fun _ hk => by first | exact hk.2 | grind) (.slice Ao30 t235.length co30)) (fun _ h_ => h_.1))))) (Kd.R_lt (by (with_reducible repeat (first | apply Kd.R_alloc | apply Kd.R_drewN | apply Kd.R_drew)); exact (Kd.R_mono (Kd.R_far (p := ⟨gb238, 1, none⟩) (Kd.R_far (p := ⟨gb238, 0, none⟩) (Kd.R_types HO230.out BK238.out (by decide)) (fun _ hk => by first | exact hk.2 | grind) (.int .i64 t234)) (fun _ hk => by first | exact hk.2 | grind) (.slice Ao30 t235.length co30)) (fun _ h_ => h_.1))))) (Kd.R_lt (by (with_reducible repeat (first | apply Kd.R_alloc | apply Kd.R_drewN | apply Kd.R_drew)); exact (Kd.R_mono (Kd.R_far (p := ⟨gb238, 1, none⟩) (Kd.R_far (p := ⟨gb238, 0, none⟩) (Kd.R_types HO237.out BK238.out (by decide)) (fun _ hk => by first | exact hk.2 | grind) (.int .i64 t234)) (fun _ hk => by first | exact hk.2 | grind) (.slice Ao30 t235.length co30)) (fun _ h_ => h_.1))))) (below_size (by repeat (first | (with_reducible first | exact HB.out | apply below_alloc | apply pw_below_drewN | apply below_drew1 | refine below_set ?_ GE221.out | refine below_set ?_ GE233.out | refine below_set ?_ GE238.out) | exact HB.out)))); have n4_ := Aside0.mk (blk_below (g := gb221) (o := .cells #[.int .i64 a0_0, .slice A0_1 l0_1.length c0_1] 29 (0, 0)) (by (with_reducible repeat (first | refine blk_drewN ?_ _ | refine blk_drew ?_ | refine blk_alloc ?_ _)); refine blk_far ?_ NB221_238.out _; (with_reducible repeat (first | refine blk_drewN ?_ _ | refine blk_drew ?_ | refine blk_alloc ?_ _)); refine blk_far ?_ NB221_238.out _; (with_reducible repeat (first | refine blk_drewN ?_ _ | refine blk_drew ?_ | refine blk_alloc ?_ _)); exact BK221.out) hb); have n5_ := Aside0.mk (blk_below (g := gb233) (o := .cells #[.int .i64 t227, .slice Ao23 t228.length co23] 24 (0, 0)) (by (with_reducible repeat (first | refine blk_drewN ?_ _ | refine blk_drew ?_ | refine blk_alloc ?_ _)); refine blk_far ?_ NB233_238.out _; (with_reducible repeat (first | refine blk_drewN ?_ _ | refine blk_drew ?_ | refine blk_alloc ?_ _)); refine blk_far ?_ NB233_238.out _; (with_reducible repeat (first | refine blk_drewN ?_ _ | refine blk_drew ?_ | refine blk_alloc ?_ _)); exact BK233.out) hb); have n6_ := Aside0.mk (blk_below (g := gb238) (o := .cells #[.int .i64 t234, .slice Ao30 t235.length co30] 24 (0, 0)) (by (with_reducible repeat (first | refine blk_drewN ?_ _ | refine blk_drew ?_ | refine blk_alloc ?_ _)); refine blk_put (cs := #[.int .i64 t234, .slice none 0 0]) ?_ 1 _ rfl; (with_reducible repeat (first | refine blk_drewN ?_ _ | refine blk_drew ?_ | refine blk_alloc ?_ _)); refine blk_put (cs := #[.int .i64 0, .slice none 0 0]) ?_ 0 _ rfl; (with_reducible repeat (first | refine blk_drewN ?_ _ | refine blk_drew ?_ | refine blk_alloc ?_ _)); exact BK238.out) hb); have n7_ := Aside0.mk (below_step (by repeat (first | (with_reducible first | exact HB.out | apply below_alloc | apply pw_below_drewN | apply below_drew1 | refine below_set ?_ GE221.out | refine below_set ?_ GE233.out | refine below_set ?_ GE238.out) | exact HB.out)) hb); clear HO226; clear HO230; clear HO237; clear BK221; clear BK233; clear BK238; clear HB; have HO226 := n0_; have HO230 := n1_; have HO237 := n2_; have HO242 := n3_; have BK221 := n4_; have BK233 := n5_; have BK238 := n6_; have HB := n7_; clear n0_ n1_ n2_ n3_ n4_ n5_ n6_ n7_; (try clear hb); (try clear hb2); (try clear hk); (try clear hi); (try clear ho0)) | ((with_reducible refine gate_dst (N := 10) rfl ?_); refine box_event ?hg (N := 10) ?hd (cs := #[.int .i64 0, .slice none 0 0]) (t := 24) ?hr ?_; (case hd => rfl); (case hg => rfl); (case hr => first | (go_simp; done) | (go_simp; rfl)); intro gb245 hg w32 hbox hb; have n0_ := Aside0.mk (Kd.R_below (by (with_reducible repeat (first | apply Kd.R_alloc | apply Kd.R_drewN | apply Kd.R_drew)); exact HO226.out) hb); have n1_ := Aside0.mk (Kd.R_below (by (with_reducible repeat (first | apply Kd.R_alloc | apply Kd.R_drewN | apply Kd.R_drew)); exact HO230.out) hb); have n2_ := Aside0.mk (Kd.R_below (by (with_reducible repeat (first | apply Kd.R_alloc | apply Kd.R_drewN | apply Kd.R_drew)); exact HO237.out) hb); have n3_ := Aside0.mk (Kd.R_below (by (with_reducible repeat (first | apply Kd.R_alloc | apply Kd.R_drewN | apply Kd.R_drew)); exact HO242.out) hb); have n4_ := Aside0.mk (blk_below (g := gb221) (o := .cells #[.int .i64 a0_0, .slice A0_1 l0_1.length c0_1] 29 (0, 0)) (by (with_reducible repeat (first | refine blk_drewN ?_ _ | refine blk_drew ?_ | refine blk_alloc ?_ _)); exact BK221.out) hb); have n5_ := Aside0.mk (blk_below (g := gb233) (o := .cells #[.int .i64 t227, .slice Ao23 t228.length co23] 24 (0, 0)) (by (with_reducible repeat (first | refine blk_drewN ?_ _ | refine blk_drew ?_ | refine blk_alloc ?_ _)); exact BK233.out) hb); have n6_ := Aside0.mk (blk_below (g := gb238) (o := .cells #[.int .i64 t234, .slice Ao30 t235.length co30] 24 (0, 0)) (by (with_reducible repeat (first | refine blk_drewN ?_ _ | refine blk_drew ?_ | refine blk_alloc ?_ _)); exact BK238.out) hb); have n7_ := Aside0.mk (below_step (by repeat (first | (with_reducible first | exact HB.out | apply below_alloc | apply pw_below_drewN | apply below_drew1 | refine below_set ?_ GE221.out | refine below_set ?_ GE233.out | refine below_set ?_ GE238.out) | exact HB.out)) hb); have n8_ := Aside0.mk (hbox); have n9_ := Aside0.mk ((by rw [hg]; exact (below_size (by repeat (first | (with_reducible first | exact HB.out | apply below_alloc | apply pw_below_drewN | apply below_drew1 | refine below_set ?_ GE221.out | refine below_set ?_ GE233.out | refine below_set ?_ GE238.out) | exact HB.out))) : w.heap.size ≤ gb245)); have n10_ := Aside0.mk ((by rw [hg]; exact (below_size (by repeat (first | (with_reducible first | exact HB.out | apply below_alloc | apply pw_below_drewN | apply below_drew1 | refine below_set ?_ GE221.out | refine below_set ?_ GE233.out | refine below_set ?_ GE238.out) | exact HB.out))) : w.heap.size ≤ gb245)); have n11_ := Aside0.mk ((by rw [hg]; exact Nat.ne_of_lt (blk_lt (g := gb221) (o := .cells #[.int .i64 a0_0, .slice A0_1 l0_1.length c0_1] 29 (0, 0)) (by (with_reducible repeat (first | refine blk_drewN ?_ _ | refine blk_drew ?_ | refine blk_alloc ?_ _)); exact BK221.out)) : gb221 ≠ gb245)); have n12_ := Aside0.mk ((by rw [hg]; exact Nat.ne_of_gt (blk_lt (g := gb221) (o := .cells #[.int .i64 a0_0, .slice A0_1 l0_1.length c0_1] 29 (0, 0)) (by (with_reducible repeat (first | refine blk_drewN ?_ _ | refine blk_drew ?_ | refine blk_alloc ?_ _)); exact BK221.out)) : gb245 ≠ gb221)); have n13_ := Aside0.mk ((by rw [hg]; exact Nat.ne_of_lt (blk_lt (g := gb233) (o := .cells #[.int .i64 t227, .slice Ao23 t228.length co23] 24 (0, 0)) (by (with_reducible repeat (first | refine blk_drewN ?_ _ | refine blk_drew ?_ | refine blk_alloc ?_ _)); exact BK233.out)) : gb233 ≠ gb245)); have n14_ := Aside0.mk ((by rw [hg]; exact Nat.ne_of_gt (blk_lt (g := gb233) (o := .cells #[.int .i64 t227, .slice Ao23 t228.length co23] 24 (0, 0)) (by (with_reducible repeat (first | refine blk_drewN ?_ _ | refine blk_drew ?_ | refine blk_alloc ?_ _)); exact BK233.out)) : gb245 ≠ gb233)); have n15_ := Aside0.mk ((by rw [hg]; exact Nat.ne_of_lt (blk_lt (g := gb238) (o := .cells #[.int .i64 t234, .slice Ao30 t235.length co30] 24 (0, 0)) (by (with_reducible repeat (first | refine blk_drewN ?_ _ | refine blk_drew ?_ | refine blk_alloc ?_ _)); exact BK238.out)) : gb238 ≠ gb245)); have n16_ := Aside0.mk ((by rw [hg]; exact Nat.ne_of_gt (blk_lt (g := gb238) (o := .cells #[.int .i64 t234, .slice Ao30 t235.length co30] 24 (0, 0)) (by (with_reducible repeat (first | refine blk_drewN ?_ _ | refine blk_drew ?_ | refine blk_alloc ?_ _)); exact BK238.out)) : gb245 ≠ gb238)); clear HO226; clear HO230; clear HO237; clear HO242; clear BK221; clear BK233; clear BK238; clear HB; have HO226 := n0_; have HO230 := n1_; have HO237 := n2_; have HO242 := n3_; have BK221 := n4_; have BK233 := n5_; have BK238 := n6_; have HB := n7_; have BK245 := n8_; have GW245 := n9_; have GE245 := n10_; have NB221_245 := n11_; have NB245_221 := n12_; have NB233_245 := n13_; have NB245_233 := n14_; have NB238_245 := n15_; have NB245_238 := n16_; clear n0_ n1_ n2_ n3_ n4_ n5_ n6_ n7_ n8_ n9_ n10_ n11_ n12_ n13_ n14_ n15_ n16_; clear hb hbox hg; have hnb33 := NB245_221.out; have hnc33 := NB221_245.out; have hnb34 := NB245_233.out; have hnc34 := NB233_245.out; have hnb35 := NB245_238.out; have hnc35 := NB238_245.out; have hcz36_0 : w32.cell? ⟨gb245, 0, none⟩ = some (.int .i64 0) := (blk_cell BK245.out 0).trans rfl; have hcz36_1 : w32.cell? ⟨gb245, 1, none⟩ = some (.slice none 0 0) := (blk_cell BK245.out 1).trans rfl; have hfz36_0 := blk_frozen BK245.out 0; have hfz36_1 := blk_frozen BK245.out 1; obtain ⟨Ao37, co37, eo37⟩ := Kd.R_slice HO242.out; subst eo37))
  (try simp only [Act.put, List.setIfInBounds_toArray, List.set_cons_zero, List.set_cons_succ])
  go_cut [54] (fun v54 wc => ∃ (kq : Nat) (x54_11 : Bool), v54 = .bool x54_11 ∧ Aside0 (laws_FnExactSlabTake.j0 kq a1 t231 t232 t243 t244 x54_11 a0_0 l0_1 t227 t228 t234 t235 t239 t240 = some r) ∧ Aside0 (kq ≤ k) ∧ Aside0 (Kd.R (Kd.int .i64) 3 wc w.heap.size (fun k_ => some k_ ≠ ((.slice Ao30 t235.length co30) : Value).ownBlock ∧ some k_ ≠ ((.slice Ao37 t240.length co37) : Value).ownBlock) (.slice Ao23 t228.length co23) t228) ∧ Aside0 (Kd.R (Kd.int .i64) 3 wc w.heap.size (fun k_ => some k_ ≠ ((.slice Ao23 t228.length co23) : Value).ownBlock ∧ some k_ ≠ ((.slice Ao37 t240.length co37) : Value).ownBlock) (.slice Ao30 t235.length co30) t235) ∧ Aside0 (Kd.R (Kd.int .i64) 3 wc w.heap.size (fun k_ => some k_ ≠ ((.slice Ao23 t228.length co23) : Value).ownBlock ∧ some k_ ≠ ((.slice Ao30 t235.length co30) : Value).ownBlock) (.slice Ao37 t240.length co37) t240) ∧ Aside0 (wc.heap[gb221]? = some (.cells #[.int .i64 a0_0, (.slice A0_1 l0_1.length c0_1)] 29 (0, 0))) ∧ Aside0 (wc.heap[gb233]? = some (.cells #[.int .i64 t227, (.slice Ao23 t228.length co23)] 24 (0, 0))) ∧ Aside0 (wc.heap[gb238]? = some (.cells #[.int .i64 t234, (.slice Ao30 t235.length co30)] 24 (0, 0))) ∧ Aside0 (wc.heap[gb245]? = some (.cells #[.int .i64 t239, (.slice Ao37 t240.length co37)] 24 (0, 0))) ∧ Aside0 (Below w.heap.size w wc))
  case first =>
   have H := HC12.out
   clear HC12
   replace H := Option.bind_eq_some_iff.mp H
   obtain ⟨t246, A380, H⟩ := H
   replace H : (if t246 = true then (if t243 = t231 then (laws_FnExactSlabTake.j0 k a1 t231 t232 t243 t244 (t244 != t232) a0_0 l0_1 t227 t228 t234 t235 t239 t240) else (laws_FnExactSlabTake.j0 k a1 t231 t232 t243 t244 true a0_0 l0_1 t227 t228 t234 t235 t239 t240)) else (laws_FnExactSlabTake.j0 k a1 t231 t232 t243 t244 true a0_0 l0_1 t227 t228 t234 t235 t239 t240)) = some r := H
   have A38 := Aside0.mk A380
   clear A380
   by_cases c39 : t246 = true
   ·subst c39
    have H1 : (if t243 = t231 then (laws_FnExactSlabTake.j0 k a1 t231 t232 t243 t244 (t244 != t232) a0_0 l0_1 t227 t228 t234 t235 t239 t240) else (laws_FnExactSlabTake.j0 k a1 t231 t232 t243 t244 true a0_0 l0_1 t227 t228 t234 t235 t239 t240)) = some r := by rw [if_pos rfl] at H; exact H
    clear H
    have H := H1
    clear H1
    by_cases c40 : t243 = t231
    ·rw [if_pos c40] at H
     have c40b0 : (t243 == t231) = true := beq_iff_eq.mpr c40
     have c40b1 : (t243 != t231) = false := bne_eq_false_iff_eq.mpr c40
     clear c40
     (first | rw [c40b0] | (simp only [i64_w, i32_w]; rw [c40b0]) | skip)
     have H' := Aside0.mk H
     clear H
     have hnb41 := NB245_221.out
     have hnc41 := NB221_245.out
     have hnb42 := NB245_233.out
     have hnc42 := NB233_245.out
     have hnb43 := NB245_238.out
     have hnc43 := NB238_245.out
     have hcz44_0 : w32.cell? ⟨gb245, 0, none⟩ = some (.int .i64 0) := (blk_cell BK245.out 0).trans rfl
     have hcz44_1 : w32.cell? ⟨gb245, 1, none⟩ = some (.slice none 0 0) := (blk_cell BK245.out 1).trans rfl
     have hfz44_0 := blk_frozen BK245.out 0
     have hfz44_1 := blk_frozen BK245.out 1
     have hnb45 := NB233_221.out
     have hnc45 := NB221_233.out
     have hnb46 := NB233_238.out
     have hnc46 := NB238_233.out
     have hcz47_0 : w32.cell? ⟨gb233, 0, none⟩ = some (.int .i64 t227) := (blk_cell BK233.out 0).trans rfl
     have hcz47_1 : w32.cell? ⟨gb233, 1, none⟩ = some (.slice Ao23 t228.length co23) := (blk_cell BK233.out 1).trans rfl
     have hfz47_0 := blk_frozen BK233.out 0
     have hfz47_1 := blk_frozen BK233.out 1
     go_wp2_with (first | ((with_reducible refine gate_callee (f := 19) rfl ?_); refine goesL_ (some 43) rfl rfl Try.func19 (by kernel_rfl) rfl #[.agg #[.int .i64 t239, .slice Ao37 t240.length co37], .agg #[.int .i64 t227, .slice Ao23 t228.length co23]] rfl (by (try simp only [List.map_toArray, List.map_cons, List.map_nil]); first | done | rfl | (simp only [List.length_drop, List.length_take]; rfl)) ?_; (with_reducible refine (laws_eqSlab.calls k t239 _ _ t240 t227 _ _ t228 true _ ?side1 ?side2 ?side3 ?side4 A38.out).mono ?_); (case side1 => refine (Kd.R_reads' (e := 3) (base := w.heap.size) (ok := fun k_ => (((True ∧ some k_ ≠ (.slice Ao18 t224.length co18 : Value).ownBlock) ∧ some k_ ≠ (.slice Ao23 t228.length co23 : Value).ownBlock) ∧ some k_ ≠ (.slice Ao30 t235.length co30 : Value).ownBlock)) (n := t240.length) (c := co37) ?_).2.2; exact (by (with_reducible repeat (first | apply Kd.R_alloc | apply Kd.R_drewN | apply Kd.R_drew)); exact (Kd.R_mono (Kd.R_far (p := ⟨gb245, 1, none⟩) (Kd.R_far (p := ⟨gb245, 0, none⟩) (Kd.R_types HO242.out BK245.out (by decide)) (fun _ hk => by first | exact hk.2 | grind) (.int .i64 t239)) (fun _ hk => by first | exact hk.2 | grind) (.slice Ao37 t240.length co37)) (fun _ h_ => h_.1)))); (case side2 => exact (Kd.R_reads' HO242.out).2.1); (case side3 => refine (Kd.R_reads' (e := 3) (base := w.heap.size) (ok := fun k_ => (((True ∧ some k_ ≠ (.slice Ao18 t224.length co18 : Value).ownBlock) ∧ some k_ ≠ (.slice Ao30 t235.length co30 : Value).ownBlock) ∧ some k_ ≠ (.slice Ao37 t240.length co37 : Value).ownBlock)) (n := t228.length) (c := co23) ?_).2.2; exact (by (with_reducible repeat (first | apply Kd.R_alloc | apply Kd.R_drewN | apply Kd.R_drew)); exact (Kd.R_mono (Kd.R_far (p := ⟨gb245, 1, none⟩) (Kd.R_far (p := ⟨gb245, 0, none⟩) (Kd.R_types HO230.out BK245.out (by decide)) (fun _ hk => by first | exact hk.2 | grind) (.int .i64 t239)) (fun _ hk => by first | exact hk.2 | grind) (.slice Ao37 t240.length co37)) (fun _ h_ => h_.1)))); (case side4 => exact (Kd.R_reads' HO230.out).2.1); rintro e w48 ⟨rfl, hb⟩; refine ⟨_, rfl, ?_⟩; have n0_ := Aside0.mk (Kd.R_below (by (with_reducible repeat (first | apply Kd.R_alloc | apply Kd.R_drewN | apply Kd.R_drew)); exact (Kd.R_mono (Kd.R_far (p := ⟨gb245, 1, none⟩) (Kd.R_far (p := ⟨gb245, 0, none⟩) (Kd.R_types HO226.out BK245.out (by decide)) (fun _ hk => by first | exact hk.2 | grind) (.int .i64 t239)) (fun _ hk => by first | exact hk.2 | grind) (.slice Ao37 t240.length co37)) (fun _ h_ => h_.1))) hb); have n1_ := Aside0.mk (Kd.R_below (by (with_reducible repeat (first | apply Kd.R_alloc | apply Kd.R_drewN | apply Kd.R_drew)); exact (Kd.R_mono (Kd.R_far (p := ⟨gb245, 1, none⟩) (Kd.R_far (p := ⟨gb245, 0, none⟩) (Kd.R_types HO230.out BK245.out (by decide)) (fun _ hk => by first | exact hk.2 | grind) (.int .i64 t239)) (fun _ hk => by first | exact hk.2 | grind) (.slice Ao37 t240.length co37)) (fun _ h_ => h_.1))) hb); have n2_ := Aside0.mk (Kd.R_below (by (with_reducible repeat (first | apply Kd.R_alloc | apply Kd.R_drewN | apply Kd.R_drew)); exact (Kd.R_mono (Kd.R_far (p := ⟨gb245, 1, none⟩) (Kd.R_far (p := ⟨gb245, 0, none⟩) (Kd.R_types HO237.out BK245.out (by decide)) (fun _ hk => by first | exact hk.2 | grind) (.int .i64 t239)) (fun _ hk => by first | exact hk.2 | grind) (.slice Ao37 t240.length co37)) (fun _ h_ => h_.1))) hb); have n3_ := Aside0.mk (Kd.R_below (by (with_reducible repeat (first | apply Kd.R_alloc | apply Kd.R_drewN | apply Kd.R_drew)); exact (Kd.R_mono (Kd.R_far (p := ⟨gb245, 1, none⟩) (Kd.R_far (p := ⟨gb245, 0, none⟩) (Kd.R_types HO242.out BK245.out (by decide)) (fun _ hk => by first | exact hk.2 | grind) (.int .i64 t239)) (fun _ hk => by first | exact hk.2 | grind) (.slice Ao37 t240.length co37)) (fun _ h_ => h_.1))) hb); have n4_ := Aside0.mk (blk_below (g := gb221) (o := .cells #[.int .i64 a0_0, .slice A0_1 l0_1.length c0_1] 29 (0, 0)) (by (with_reducible repeat (first | refine blk_drewN ?_ _ | refine blk_drew ?_ | refine blk_alloc ?_ _)); refine blk_far ?_ NB221_245.out _; (with_reducible repeat (first | refine blk_drewN ?_ _ | refine blk_drew ?_ | refine blk_alloc ?_ _)); refine blk_far ?_ NB221_245.out _; (with_reducible repeat (first | refine blk_drewN ?_ _ | refine blk_drew ?_ | refine blk_alloc ?_ _)); exact BK221.out) hb); have n5_ := Aside0.mk (blk_below (g := gb233) (o := .cells #[.int .i64 t227, .slice Ao23 t228.length co23] 24 (0, 0)) (by (with_reducible repeat (first | refine blk_drewN ?_ _ | refine blk_drew ?_ | refine blk_alloc ?_ _)); refine blk_far ?_ NB233_245.out _; (with_reducible repeat (first | refine blk_drewN ?_ _ | refine blk_drew ?_ | refine blk_alloc ?_ _)); refine blk_far ?_ NB233_245.out _; (with_reducible repeat (first | refine blk_drewN ?_ _ | refine blk_drew ?_ | refine blk_alloc ?_ _)); exact BK233.out) hb); have n6_ := Aside0.mk (blk_below (g := gb238) (o := .cells #[.int .i64 t234, .slice Ao30 t235.length co30] 24 (0, 0)) (by (with_reducible repeat (first | refine blk_drewN ?_ _ | refine blk_drew ?_ | refine blk_alloc ?_ _)); refine blk_far ?_ NB238_245.out _; (with_reducible repeat (first | refine blk_drewN ?_ _ | refine blk_drew ?_ | refine blk_alloc ?_ _)); refine blk_far ?_ NB238_245.out _; (with_reducible repeat (first | refine blk_drewN ?_ _ | refine blk_drew ?_ | refine blk_alloc ?_ _)); exact BK238.out) hb); have n7_ := Aside0.mk (blk_below (g := gb245) (o := .cells #[.int .i64 t239, .slice Ao37 t240.length co37] 24 (0, 0)) (by (with_reducible repeat (first | refine blk_drewN ?_ _ | refine blk_drew ?_ | refine blk_alloc ?_ _)); refine blk_put (cs := #[.int .i64 t239, .slice none 0 0]) ?_ 1 _ rfl; (with_reducible repeat (first | refine blk_drewN ?_ _ | refine blk_drew ?_ | refine blk_alloc ?_ _)); refine blk_put (cs := #[.int .i64 0, .slice none 0 0]) ?_ 0 _ rfl; (with_reducible repeat (first | refine blk_drewN ?_ _ | refine blk_drew ?_ | refine blk_alloc ?_ _)); exact BK245.out) hb); have n8_ := Aside0.mk (below_step (by repeat (first | (with_reducible first | exact HB.out | apply below_alloc | apply pw_below_drewN | apply below_drew1 | refine below_set ?_ GE221.out | refine below_set ?_ GE233.out | refine below_set ?_ GE238.out | refine below_set ?_ GE245.out) | exact HB.out)) hb); clear HO226; clear HO230; clear HO237; clear HO242; clear BK221; clear BK233; clear BK238; clear BK245; clear HB; have HO226 := n0_; have HO230 := n1_; have HO237 := n2_; have HO242 := n3_; have BK221 := n4_; have BK233 := n5_; have BK238 := n6_; have BK245 := n7_; have HB := n8_; clear n0_ n1_ n2_ n3_ n4_ n5_ n6_ n7_ n8_; (try clear hb); (try clear hb2); (try clear hk); (try clear hi)))
     go_meet
     case rel => exact ⟨_, ((t244 != t232)), (by first | rfl | (simp; done) | (simp [*]; done)), H', ⟨by first | omega | exact Nat.le_refl _⟩, ⟨by (with_reducible repeat (first | apply Kd.R_alloc | apply Kd.R_drewN | apply Kd.R_drew)); exact Kd.R_mono HO230.out (fun _ hk => by first | exact ⟨hk.1.2, hk.2⟩ | grind)⟩, ⟨by (with_reducible repeat (first | apply Kd.R_alloc | apply Kd.R_drewN | apply Kd.R_drew)); exact Kd.R_mono HO237.out (fun _ hk => by first | exact ⟨hk.1.2, hk.2⟩ | grind)⟩, ⟨by (with_reducible repeat (first | apply Kd.R_alloc | apply Kd.R_drewN | apply Kd.R_drew)); exact Kd.R_mono HO242.out (fun _ hk => by first | exact ⟨hk.1.2, hk.2⟩ | grind)⟩, ⟨by (with_reducible repeat (first | refine blk_drewN ?_ _ | refine blk_drew ?_ | refine blk_alloc ?_ _)); exact BK221.out⟩, ⟨by (with_reducible repeat (first | refine blk_drewN ?_ _ | refine blk_drew ?_ | refine blk_alloc ?_ _)); exact BK233.out⟩, ⟨by (with_reducible repeat (first | refine blk_drewN ?_ _ | refine blk_drew ?_ | refine blk_alloc ?_ _)); exact BK238.out⟩, ⟨by (with_reducible repeat (first | refine blk_drewN ?_ _ | refine blk_drew ?_ | refine blk_alloc ?_ _)); exact BK245.out⟩, ⟨by repeat (first | (with_reducible first | exact HB.out | apply below_alloc | apply pw_below_drewN | apply below_drew1 | refine below_set ?_ GE221.out | refine below_set ?_ GE233.out | refine below_set ?_ GE238.out | refine below_set ?_ GE245.out) | exact HB.out)⟩⟩
    ·rw [if_neg c40] at H
     have c40b0 : (t243 == t231) = false := beq_eq_false_iff_ne.mpr c40
     have c40b1 : (t243 != t231) = true := bne_iff_ne.mpr c40
     (first | rw [c40b0] | (simp only [i64_w, i32_w]; rw [c40b0]) | skip)
     have H' := Aside0.mk H
     clear H
     have hnb49 := NB245_221.out
     have hnc49 := NB221_245.out
     have hnb50 := NB245_233.out
     have hnc50 := NB233_245.out
     have hnb51 := NB245_238.out
     have hnc51 := NB238_245.out
     have hcz52_0 : w32.cell? ⟨gb245, 0, none⟩ = some (.int .i64 0) := (blk_cell BK245.out 0).trans rfl
     have hcz52_1 : w32.cell? ⟨gb245, 1, none⟩ = some (.slice none 0 0) := (blk_cell BK245.out 1).trans rfl
     have hfz52_0 := blk_frozen BK245.out 0
     have hfz52_1 := blk_frozen BK245.out 1
     have hnb53 := NB233_221.out
     have hnc53 := NB221_233.out
     have hnb54 := NB233_238.out
     have hnc54 := NB238_233.out
     have hcz55_0 : w32.cell? ⟨gb233, 0, none⟩ = some (.int .i64 t227) := (blk_cell BK233.out 0).trans rfl
     have hcz55_1 : w32.cell? ⟨gb233, 1, none⟩ = some (.slice Ao23 t228.length co23) := (blk_cell BK233.out 1).trans rfl
     have hfz55_0 := blk_frozen BK233.out 0
     have hfz55_1 := blk_frozen BK233.out 1
     go_wp2_with (first | ((with_reducible refine gate_callee (f := 19) rfl ?_); refine goesL_ (some 43) rfl rfl Try.func19 (by kernel_rfl) rfl #[.agg #[.int .i64 t239, .slice Ao37 t240.length co37], .agg #[.int .i64 t227, .slice Ao23 t228.length co23]] rfl (by (try simp only [List.map_toArray, List.map_cons, List.map_nil]); first | done | rfl | (simp only [List.length_drop, List.length_take]; rfl)) ?_; (with_reducible refine (laws_eqSlab.calls k t239 _ _ t240 t227 _ _ t228 true _ ?side1 ?side2 ?side3 ?side4 A38.out).mono ?_); (case side1 => refine (Kd.R_reads' (e := 3) (base := w.heap.size) (ok := fun k_ => (((True ∧ some k_ ≠ (.slice Ao18 t224.length co18 : Value).ownBlock) ∧ some k_ ≠ (.slice Ao23 t228.length co23 : Value).ownBlock) ∧ some k_ ≠ (.slice Ao30 t235.length co30 : Value).ownBlock)) (n := t240.length) (c := co37) ?_).2.2; exact (by (with_reducible repeat (first | apply Kd.R_alloc | apply Kd.R_drewN | apply Kd.R_drew)); exact (Kd.R_mono (Kd.R_far (p := ⟨gb245, 1, none⟩) (Kd.R_far (p := ⟨gb245, 0, none⟩) (Kd.R_types HO242.out BK245.out (by decide)) (fun _ hk => by first | exact hk.2 | grind) (.int .i64 t239)) (fun _ hk => by first | exact hk.2 | grind) (.slice Ao37 t240.length co37)) (fun _ h_ => h_.1)))); (case side2 => exact (Kd.R_reads' HO242.out).2.1); (case side3 => refine (Kd.R_reads' (e := 3) (base := w.heap.size) (ok := fun k_ => (((True ∧ some k_ ≠ (.slice Ao18 t224.length co18 : Value).ownBlock) ∧ some k_ ≠ (.slice Ao30 t235.length co30 : Value).ownBlock) ∧ some k_ ≠ (.slice Ao37 t240.length co37 : Value).ownBlock)) (n := t228.length) (c := co23) ?_).2.2; exact (by (with_reducible repeat (first | apply Kd.R_alloc | apply Kd.R_drewN | apply Kd.R_drew)); exact (Kd.R_mono (Kd.R_far (p := ⟨gb245, 1, none⟩) (Kd.R_far (p := ⟨gb245, 0, none⟩) (Kd.R_types HO230.out BK245.out (by decide)) (fun _ hk => by first | exact hk.2 | grind) (.int .i64 t239)) (fun _ hk => by first | exact hk.2 | grind) (.slice Ao37 t240.length co37)) (fun _ h_ => h_.1)))); (case side4 => exact (Kd.R_reads' HO230.out).2.1); rintro e w56 ⟨rfl, hb⟩; refine ⟨_, rfl, ?_⟩; have n0_ := Aside0.mk (Kd.R_below (by (with_reducible repeat (first | apply Kd.R_alloc | apply Kd.R_drewN | apply Kd.R_drew)); exact (Kd.R_mono (Kd.R_far (p := ⟨gb245, 1, none⟩) (Kd.R_far (p := ⟨gb245, 0, none⟩) (Kd.R_types HO226.out BK245.out (by decide)) (fun _ hk => by first | exact hk.2 | grind) (.int .i64 t239)) (fun _ hk => by first | exact hk.2 | grind) (.slice Ao37 t240.length co37)) (fun _ h_ => h_.1))) hb); have n1_ := Aside0.mk (Kd.R_below (by (with_reducible repeat (first | apply Kd.R_alloc | apply Kd.R_drewN | apply Kd.R_drew)); exact (Kd.R_mono (Kd.R_far (p := ⟨gb245, 1, none⟩) (Kd.R_far (p := ⟨gb245, 0, none⟩) (Kd.R_types HO230.out BK245.out (by decide)) (fun _ hk => by first | exact hk.2 | grind) (.int .i64 t239)) (fun _ hk => by first | exact hk.2 | grind) (.slice Ao37 t240.length co37)) (fun _ h_ => h_.1))) hb); have n2_ := Aside0.mk (Kd.R_below (by (with_reducible repeat (first | apply Kd.R_alloc | apply Kd.R_drewN | apply Kd.R_drew)); exact (Kd.R_mono (Kd.R_far (p := ⟨gb245, 1, none⟩) (Kd.R_far (p := ⟨gb245, 0, none⟩) (Kd.R_types HO237.out BK245.out (by decide)) (fun _ hk => by first | exact hk.2 | grind) (.int .i64 t239)) (fun _ hk => by first | exact hk.2 | grind) (.slice Ao37 t240.length co37)) (fun _ h_ => h_.1))) hb); have n3_ := Aside0.mk (Kd.R_below (by (with_reducible repeat (first | apply Kd.R_alloc | apply Kd.R_drewN | apply Kd.R_drew)); exact (Kd.R_mono (Kd.R_far (p := ⟨gb245, 1, none⟩) (Kd.R_far (p := ⟨gb245, 0, none⟩) (Kd.R_types HO242.out BK245.out (by decide)) (fun _ hk => by first | exact hk.2 | grind) (.int .i64 t239)) (fun _ hk => by first | exact hk.2 | grind) (.slice Ao37 t240.length co37)) (fun _ h_ => h_.1))) hb); have n4_ := Aside0.mk (blk_below (g := gb221) (o := .cells #[.int .i64 a0_0, .slice A0_1 l0_1.length c0_1] 29 (0, 0)) (by (with_reducible repeat (first | refine blk_drewN ?_ _ | refine blk_drew ?_ | refine blk_alloc ?_ _)); refine blk_far ?_ NB221_245.out _; (with_reducible repeat (first | refine blk_drewN ?_ _ | refine blk_drew ?_ | refine blk_alloc ?_ _)); refine blk_far ?_ NB221_245.out _; (with_reducible repeat (first | refine blk_drewN ?_ _ | refine blk_drew ?_ | refine blk_alloc ?_ _)); exact BK221.out) hb); have n5_ := Aside0.mk (blk_below (g := gb233) (o := .cells #[.int .i64 t227, .slice Ao23 t228.length co23] 24 (0, 0)) (by (with_reducible repeat (first | refine blk_drewN ?_ _ | refine blk_drew ?_ | refine blk_alloc ?_ _)); refine blk_far ?_ NB233_245.out _; (with_reducible repeat (first | refine blk_drewN ?_ _ | refine blk_drew ?_ | refine blk_alloc ?_ _)); refine blk_far ?_ NB233_245.out _; (with_reducible repeat (first | refine blk_drewN ?_ _ | refine blk_drew ?_ | refine blk_alloc ?_ _)); exact BK233.out) hb); have n6_ := Aside0.mk (blk_below (g := gb238) (o := .cells #[.int .i64 t234, .slice Ao30 t235.length co30] 24 (0, 0)) (by (with_reducible repeat (first | refine blk_drewN ?_ _ | refine blk_drew ?_ | refine blk_alloc ?_ _)); refine blk_far ?_ NB238_245.out _; (with_reducible repeat (first | refine blk_drewN ?_ _ | refine blk_drew ?_ | refine blk_alloc ?_ _)); refine blk_far ?_ NB238_245.out _; (with_reducible repeat (first | refine blk_drewN ?_ _ | refine blk_drew ?_ | refine blk_alloc ?_ _)); exact BK238.out) hb); have n7_ := Aside0.mk (blk_below (g := gb245) (o := .cells #[.int .i64 t239, .slice Ao37 t240.length co37] 24 (0, 0)) (by (with_reducible repeat (first | refine blk_drewN ?_ _ | refine blk_drew ?_ | refine blk_alloc ?_ _)); refine blk_put (cs := #[.int .i64 t239, .slice none 0 0]) ?_ 1 _ rfl; (with_reducible repeat (first | refine blk_drewN ?_ _ | refine blk_drew ?_ | refine blk_alloc ?_ _)); refine blk_put (cs := #[.int .i64 0, .slice none 0 0]) ?_ 0 _ rfl; (with_reducible repeat (first | refine blk_drewN ?_ _ | refine blk_drew ?_ | refine blk_alloc ?_ _)); exact BK245.out) hb); have n8_ := Aside0.mk (below_step (by repeat (first | (with_reducible first | exact HB.out | apply below_alloc | apply pw_below_drewN | apply below_drew1 | refine below_set ?_ GE221.out | refine below_set ?_ GE233.out | refine below_set ?_ GE238.out | refine below_set ?_ GE245.out) | exact HB.out)) hb); clear HO226; clear HO230; clear HO237; clear HO242; clear BK221; clear BK233; clear BK238; clear BK245; clear HB; have HO226 := n0_; have HO230 := n1_; have HO237 := n2_; have HO242 := n3_; have BK221 := n4_; have BK233 := n5_; have BK238 := n6_; have BK245 := n7_; have HB := n8_; clear n0_ n1_ n2_ n3_ n4_ n5_ n6_ n7_ n8_; (try clear hb); (try clear hb2); (try clear hk); (try clear hi)))
     go_meet
     case rel => exact ⟨_, (true), (by first | rfl | (simp; done) | (simp [*]; done)), H', ⟨by first | omega | exact Nat.le_refl _⟩, ⟨by (with_reducible repeat (first | apply Kd.R_alloc | apply Kd.R_drewN | apply Kd.R_drew)); exact Kd.R_mono HO230.out (fun _ hk => by first | exact ⟨hk.1.2, hk.2⟩ | grind)⟩, ⟨by (with_reducible repeat (first | apply Kd.R_alloc | apply Kd.R_drewN | apply Kd.R_drew)); exact Kd.R_mono HO237.out (fun _ hk => by first | exact ⟨hk.1.2, hk.2⟩ | grind)⟩, ⟨by (with_reducible repeat (first | apply Kd.R_alloc | apply Kd.R_drewN | apply Kd.R_drew)); exact Kd.R_mono HO242.out (fun _ hk => by first | exact ⟨hk.1.2, hk.2⟩ | grind)⟩, ⟨by (with_reducible repeat (first | refine blk_drewN ?_ _ | refine blk_drew ?_ | refine blk_alloc ?_ _)); exact BK221.out⟩, ⟨by (with_reducible repeat (first | refine blk_drewN ?_ _ | refine blk_drew ?_ | refine blk_alloc ?_ _)); exact BK233.out⟩, ⟨by (with_reducible repeat (first | refine blk_drewN ?_ _ | refine blk_drew ?_ | refine blk_alloc ?_ _)); exact BK238.out⟩, ⟨by (with_reducible repeat (first | refine blk_drewN ?_ _ | refine blk_drew ?_ | refine blk_alloc ?_ _)); exact BK245.out⟩, ⟨by repeat (first | (with_reducible first | exact HB.out | apply below_alloc | apply pw_below_drewN | apply below_drew1 | refine below_set ?_ GE221.out | refine below_set ?_ GE233.out | refine below_set ?_ GE238.out | refine below_set ?_ GE245.out) | exact HB.out)⟩⟩
   ·replace c39 := Bool.eq_false_iff.mpr c39
    subst c39
    have H1 : (laws_FnExactSlabTake.j0 k a1 t231 t232 t243 t244 true a0_0 l0_1 t227 t228 t234 t235 t239 t240) = some r := by rw [if_neg (show ¬ (false = true) by decide)] at H; exact H
    clear H
    have H := H1
    clear H1
    have H' := Aside0.mk H
    clear H
    have hnb57 := NB245_221.out
    have hnc57 := NB221_245.out
    have hnb58 := NB245_233.out
    have hnc58 := NB233_245.out
    have hnb59 := NB245_238.out
    have hnc59 := NB238_245.out
    have hcz60_0 : w32.cell? ⟨gb245, 0, none⟩ = some (.int .i64 0) := (blk_cell BK245.out 0).trans rfl
    have hcz60_1 : w32.cell? ⟨gb245, 1, none⟩ = some (.slice none 0 0) := (blk_cell BK245.out 1).trans rfl
    have hfz60_0 := blk_frozen BK245.out 0
    have hfz60_1 := blk_frozen BK245.out 1
    have hnb61 := NB233_221.out
    have hnc61 := NB221_233.out
    have hnb62 := NB233_238.out
    have hnc62 := NB238_233.out
    have hcz63_0 : w32.cell? ⟨gb233, 0, none⟩ = some (.int .i64 t227) := (blk_cell BK233.out 0).trans rfl
    have hcz63_1 : w32.cell? ⟨gb233, 1, none⟩ = some (.slice Ao23 t228.length co23) := (blk_cell BK233.out 1).trans rfl
    have hfz63_0 := blk_frozen BK233.out 0
    have hfz63_1 := blk_frozen BK233.out 1
    go_wp2_with (first | ((with_reducible refine gate_callee (f := 19) rfl ?_); refine goesL_ (some 43) rfl rfl Try.func19 (by kernel_rfl) rfl #[.agg #[.int .i64 t239, .slice Ao37 t240.length co37], .agg #[.int .i64 t227, .slice Ao23 t228.length co23]] rfl (by (try simp only [List.map_toArray, List.map_cons, List.map_nil]); first | done | rfl | (simp only [List.length_drop, List.length_take]; rfl)) ?_; (with_reducible refine (laws_eqSlab.calls k t239 _ _ t240 t227 _ _ t228 false _ ?side1 ?side2 ?side3 ?side4 A38.out).mono ?_); (case side1 => refine (Kd.R_reads' (e := 3) (base := w.heap.size) (ok := fun k_ => (((True ∧ some k_ ≠ (.slice Ao18 t224.length co18 : Value).ownBlock) ∧ some k_ ≠ (.slice Ao23 t228.length co23 : Value).ownBlock) ∧ some k_ ≠ (.slice Ao30 t235.length co30 : Value).ownBlock)) (n := t240.length) (c := co37) ?_).2.2; exact (by (with_reducible repeat (first | apply Kd.R_alloc | apply Kd.R_drewN | apply Kd.R_drew)); exact (Kd.R_mono (Kd.R_far (p := ⟨gb245, 1, none⟩) (Kd.R_far (p := ⟨gb245, 0, none⟩) (Kd.R_types HO242.out BK245.out (by decide)) (fun _ hk => by first | exact hk.2 | grind) (.int .i64 t239)) (fun _ hk => by first | exact hk.2 | grind) (.slice Ao37 t240.length co37)) (fun _ h_ => h_.1)))); (case side2 => exact (Kd.R_reads' HO242.out).2.1); (case side3 => refine (Kd.R_reads' (e := 3) (base := w.heap.size) (ok := fun k_ => (((True ∧ some k_ ≠ (.slice Ao18 t224.length co18 : Value).ownBlock) ∧ some k_ ≠ (.slice Ao30 t235.length co30 : Value).ownBlock) ∧ some k_ ≠ (.slice Ao37 t240.length co37 : Value).ownBlock)) (n := t228.length) (c := co23) ?_).2.2; exact (by (with_reducible repeat (first | apply Kd.R_alloc | apply Kd.R_drewN | apply Kd.R_drew)); exact (Kd.R_mono (Kd.R_far (p := ⟨gb245, 1, none⟩) (Kd.R_far (p := ⟨gb245, 0, none⟩) (Kd.R_types HO230.out BK245.out (by decide)) (fun _ hk => by first | exact hk.2 | grind) (.int .i64 t239)) (fun _ hk => by first | exact hk.2 | grind) (.slice Ao37 t240.length co37)) (fun _ h_ => h_.1)))); (case side4 => exact (Kd.R_reads' HO230.out).2.1); rintro e w64 ⟨rfl, hb⟩; refine ⟨_, rfl, ?_⟩; have n0_ := Aside0.mk (Kd.R_below (by (with_reducible repeat (first | apply Kd.R_alloc | apply Kd.R_drewN | apply Kd.R_drew)); exact (Kd.R_mono (Kd.R_far (p := ⟨gb245, 1, none⟩) (Kd.R_far (p := ⟨gb245, 0, none⟩) (Kd.R_types HO226.out BK245.out (by decide)) (fun _ hk => by first | exact hk.2 | grind) (.int .i64 t239)) (fun _ hk => by first | exact hk.2 | grind) (.slice Ao37 t240.length co37)) (fun _ h_ => h_.1))) hb); have n1_ := Aside0.mk (Kd.R_below (by (with_reducible repeat (first | apply Kd.R_alloc | apply Kd.R_drewN | apply Kd.R_drew)); exact (Kd.R_mono (Kd.R_far (p := ⟨gb245, 1, none⟩) (Kd.R_far (p := ⟨gb245, 0, none⟩) (Kd.R_types HO230.out BK245.out (by decide)) (fun _ hk => by first | exact hk.2 | grind) (.int .i64 t239)) (fun _ hk => by first | exact hk.2 | grind) (.slice Ao37 t240.length co37)) (fun _ h_ => h_.1))) hb); have n2_ := Aside0.mk (Kd.R_below (by (with_reducible repeat (first | apply Kd.R_alloc | apply Kd.R_drewN | apply Kd.R_drew)); exact (Kd.R_mono (Kd.R_far (p := ⟨gb245, 1, none⟩) (Kd.R_far (p := ⟨gb245, 0, none⟩) (Kd.R_types HO237.out BK245.out (by decide)) (fun _ hk => by first | exact hk.2 | grind) (.int .i64 t239)) (fun _ hk => by first | exact hk.2 | grind) (.slice Ao37 t240.length co37)) (fun _ h_ => h_.1))) hb); have n3_ := Aside0.mk (Kd.R_below (by (with_reducible repeat (first | apply Kd.R_alloc | apply Kd.R_drewN | apply Kd.R_drew)); exact (Kd.R_mono (Kd.R_far (p := ⟨gb245, 1, none⟩) (Kd.R_far (p := ⟨gb245, 0, none⟩) (Kd.R_types HO242.out BK245.out (by decide)) (fun _ hk => by first | exact hk.2 | grind) (.int .i64 t239)) (fun _ hk => by first | exact hk.2 | grind) (.slice Ao37 t240.length co37)) (fun _ h_ => h_.1))) hb); have n4_ := Aside0.mk (blk_below (g := gb221) (o := .cells #[.int .i64 a0_0, .slice A0_1 l0_1.length c0_1] 29 (0, 0)) (by (with_reducible repeat (first | refine blk_drewN ?_ _ | refine blk_drew ?_ | refine blk_alloc ?_ _)); refine blk_far ?_ NB221_245.out _; (with_reducible repeat (first | refine blk_drewN ?_ _ | refine blk_drew ?_ | refine blk_alloc ?_ _)); refine blk_far ?_ NB221_245.out _; (with_reducible repeat (first | refine blk_drewN ?_ _ | refine blk_drew ?_ | refine blk_alloc ?_ _)); exact BK221.out) hb); have n5_ := Aside0.mk (blk_below (g := gb233) (o := .cells #[.int .i64 t227, .slice Ao23 t228.length co23] 24 (0, 0)) (by (with_reducible repeat (first | refine blk_drewN ?_ _ | refine blk_drew ?_ | refine blk_alloc ?_ _)); refine blk_far ?_ NB233_245.out _; (with_reducible repeat (first | refine blk_drewN ?_ _ | refine blk_drew ?_ | refine blk_alloc ?_ _)); refine blk_far ?_ NB233_245.out _; (with_reducible repeat (first | refine blk_drewN ?_ _ | refine blk_drew ?_ | refine blk_alloc ?_ _)); exact BK233.out) hb); have n6_ := Aside0.mk (blk_below (g := gb238) (o := .cells #[.int .i64 t234, .slice Ao30 t235.length co30] 24 (0, 0)) (by (with_reducible repeat (first | refine blk_drewN ?_ _ | refine blk_drew ?_ | refine blk_alloc ?_ _)); refine blk_far ?_ NB238_245.out _; (with_reducible repeat (first | refine blk_drewN ?_ _ | refine blk_drew ?_ | refine blk_alloc ?_ _)); refine blk_far ?_ NB238_245.out _; (with_reducible repeat (first | refine blk_drewN ?_ _ | refine blk_drew ?_ | refine blk_alloc ?_ _)); exact BK238.out) hb); have n7_ := Aside0.mk (blk_below (g := gb245) (o := .cells #[.int .i64 t239, .slice Ao37 t240.length co37] 24 (0, 0)) (by (with_reducible repeat (first | refine blk_drewN ?_ _ | refine blk_drew ?_ | refine blk_alloc ?_ _)); refine blk_put (cs := #[.int .i64 t239, .slice none 0 0]) ?_ 1 _ rfl; (with_reducible repeat (first | refine blk_drewN ?_ _ | refine blk_drew ?_ | refine blk_alloc ?_ _)); refine blk_put (cs := #[.int .i64 0, .slice none 0 0]) ?_ 0 _ rfl; (with_reducible repeat (first | refine blk_drewN ?_ _ | refine blk_drew ?_ | refine blk_alloc ?_ _)); exact BK245.out) hb); have n8_ := Aside0.mk (below_step (by repeat (first | (with_reducible first | exact HB.out | apply below_alloc | apply pw_below_drewN | apply below_drew1 | refine below_set ?_ GE221.out | refine below_set ?_ GE233.out | refine below_set ?_ GE238.out | refine below_set ?_ GE245.out) | exact HB.out)) hb); clear HO226; clear HO230; clear HO237; clear HO242; clear BK221; clear BK233; clear BK238; clear BK245; clear HB; have HO226 := n0_; have HO230 := n1_; have HO237 := n2_; have HO242 := n3_; have BK221 := n4_; have BK233 := n5_; have BK238 := n6_; have BK245 := n7_; have HB := n8_; clear n0_ n1_ n2_ n3_ n4_ n5_ n6_ n7_ n8_; (try clear hb); (try clear hb2); (try clear hk); (try clear hi)))
    go_meet
    case rel => exact ⟨_, (true), (by first | rfl | (simp; done) | (simp [*]; done)), H', ⟨by first | omega | exact Nat.le_refl _⟩, ⟨by (with_reducible repeat (first | apply Kd.R_alloc | apply Kd.R_drewN | apply Kd.R_drew)); exact Kd.R_mono HO230.out (fun _ hk => by first | exact ⟨hk.1.2, hk.2⟩ | grind)⟩, ⟨by (with_reducible repeat (first | apply Kd.R_alloc | apply Kd.R_drewN | apply Kd.R_drew)); exact Kd.R_mono HO237.out (fun _ hk => by first | exact ⟨hk.1.2, hk.2⟩ | grind)⟩, ⟨by (with_reducible repeat (first | apply Kd.R_alloc | apply Kd.R_drewN | apply Kd.R_drew)); exact Kd.R_mono HO242.out (fun _ hk => by first | exact ⟨hk.1.2, hk.2⟩ | grind)⟩, ⟨by (with_reducible repeat (first | refine blk_drewN ?_ _ | refine blk_drew ?_ | refine blk_alloc ?_ _)); exact BK221.out⟩, ⟨by (with_reducible repeat (first | refine blk_drewN ?_ _ | refine blk_drew ?_ | refine blk_alloc ?_ _)); exact BK233.out⟩, ⟨by (with_reducible repeat (first | refine blk_drewN ?_ _ | refine blk_drew ?_ | refine blk_alloc ?_ _)); exact BK238.out⟩, ⟨by (with_reducible repeat (first | refine blk_drewN ?_ _ | refine blk_drew ?_ | refine blk_alloc ?_ _)); exact BK245.out⟩, ⟨by repeat (first | (with_reducible first | exact HB.out | apply below_alloc | apply pw_below_drewN | apply below_drew1 | refine below_set ?_ GE221.out | refine below_set ?_ GE233.out | refine below_set ?_ GE238.out | refine below_set ?_ GE245.out) | exact HB.out)⟩⟩
  case rest =>
   clear HC12
   try clear c1
   try clear c2
   try clear p2
   try clear c3
   try clear c4
   try clear c4b0
   try clear c5
   try clear c6
   try clear c10
   try clear c19
   try clear c21
   try clear c22
   try clear c24
   try clear c27
   try clear c28
   try clear c33
   try clear c34
   try clear c35
   try clear c39
   try clear c40
   try clear c40b0
   try clear c40b1
   try clear c41
   try clear c42
   try clear c43
   try clear c44
   try clear c45
   try clear c46
   try clear c49
   try clear c50
   try clear c51
   try clear c53
   try clear c54
   try clear c57
   try clear c58
   try clear c59
   try clear c61
   try clear c62
   try clear hcz14_0
   try clear hcz14_1
   try clear hcz16_0
   try clear hcz16_1
   try clear hcz22_0
   try clear hcz22_1
   try clear hcz24_0
   try clear hcz24_1
   try clear hcz29_0
   try clear hcz29_1
   try clear hcz36_0
   try clear hcz36_1
   try clear hcz44_0
   try clear hcz44_1
   try clear hcz47_0
   try clear hcz47_1
   try clear hcz52_0
   try clear hcz52_1
   try clear hcz55_0
   try clear hcz55_1
   try clear hcz60_0
   try clear hcz60_1
   try clear hcz63_0
   try clear hcz63_1
   try clear hcz6_0
   try clear hcz6_1
   try clear hfz14_0
   try clear hfz14_1
   try clear hfz16_0
   try clear hfz16_1
   try clear hfz22_0
   try clear hfz22_1
   try clear hfz24_0
   try clear hfz24_1
   try clear hfz29_0
   try clear hfz29_1
   try clear hfz36_0
   try clear hfz36_1
   try clear hfz44_0
   try clear hfz44_1
   try clear hfz47_0
   try clear hfz47_1
   try clear hfz52_0
   try clear hfz52_1
   try clear hfz55_0
   try clear hfz55_1
   try clear hfz60_0
   try clear hfz60_1
   try clear hfz63_0
   try clear hfz63_1
   try clear hfz6_0
   try clear hfz6_1
   obtain ⟨kq, x54_11, rfl, HA, HJ11, HO_234001, HO_239001, HO_246001, BK221, BK233, BK238, BK245, HB⟩ := hcut
   cases kq with
   | zero => exact absurd HA.out (by simp [laws_FnExactSlabTake.j0])
   | succ kj11 =>
    have H := HA.out
    clear HA
    simp only [laws_FnExactSlabTake.j0] at H
    by_cases c65 : x54_11 = true
    ·subst c65
     have H1 : (some false) = some r := by rw [if_pos rfl] at H; exact H
     clear H
     have H := H1
     clear H1
     obtain rfl := Option.some.inj H
     go_wp2
     go_ret
     exact ⟨by first | rfl | (simp [errW_none, errW_some] <;> rfl) | (simp [*, errW_none, errW_some] <;> rfl), by repeat (first | (with_reducible first | exact HB.out | apply below_alloc | apply pw_below_drewN | apply below_drew1 | refine below_set ?_ GE221.out | refine below_set ?_ GE233.out | refine below_set ?_ GE238.out | refine below_set ?_ GE245.out) | exact HB.out)⟩
    ·replace c65 := Bool.eq_false_iff.mpr c65
     subst c65
     have H1 : ((laws_toSlab.f kj11 a0_0 l0_1).bind fun bt247 => ((laws_eqSlab.f kj11 t234 t235 bt247.1 bt247.2).bind fun t251 => (if t251 = true then ((laws_markSlab.f kj11 t234 t235 1).bind fun bt252 => (if bt252.1 < 0 then (laws_FnExactSlabTake.j1 kj11 a1 t231 t232 true a0_0 l0_1 t227 t228 t239 t240) else ((laws_eqSlab.f kj11 t239 t240 t227 t228).bind fun t254 => (if t254 = true then (if t243 = t231 then (laws_FnExactSlabTake.j1 kj11 a1 t231 t232 (t244 != t232) a0_0 l0_1 t227 t228 t239 t240) else (laws_FnExactSlabTake.j1 kj11 a1 t231 t232 true a0_0 l0_1 t227 t228 t239 t240)) else (laws_FnExactSlabTake.j1 kj11 a1 t231 t232 true a0_0 l0_1 t227 t228 t239 t240))))) else (some false)))) = some r := by rw [if_neg (show ¬ (false = true) by decide)] at H; exact H
     clear H
     have H := H1
     clear H1
     replace H := Option.bind_eq_some_iff.mp H
     obtain ⟨⟨t247, t248⟩, A660, H⟩ := H
     replace H : ((laws_eqSlab.f kj11 t234 t235 t247 t248).bind fun t251 => (if t251 = true then ((laws_markSlab.f kj11 t234 t235 1).bind fun bt252 => (if bt252.1 < 0 then (laws_FnExactSlabTake.j1 kj11 a1 t231 t232 true a0_0 l0_1 t227 t228 t239 t240) else ((laws_eqSlab.f kj11 t239 t240 t227 t228).bind fun t254 => (if t254 = true then (if t243 = t231 then (laws_FnExactSlabTake.j1 kj11 a1 t231 t232 (t244 != t232) a0_0 l0_1 t227 t228 t239 t240) else (laws_FnExactSlabTake.j1 kj11 a1 t231 t232 true a0_0 l0_1 t227 t228 t239 t240)) else (laws_FnExactSlabTake.j1 kj11 a1 t231 t232 true a0_0 l0_1 t227 t228 t239 t240))))) else (some false))) = some r := H
     have A66 := Aside0.mk A660
     clear A660
     replace H := Option.bind_eq_some_iff.mp H
     obtain ⟨t251, A670, H⟩ := H
     replace H : (if t251 = true then ((laws_markSlab.f kj11 t234 t235 1).bind fun bt252 => (if bt252.1 < 0 then (laws_FnExactSlabTake.j1 kj11 a1 t231 t232 true a0_0 l0_1 t227 t228 t239 t240) else ((laws_eqSlab.f kj11 t239 t240 t227 t228).bind fun t254 => (if t254 = true then (if t243 = t231 then (laws_FnExactSlabTake.j1 kj11 a1 t231 t232 (t244 != t232) a0_0 l0_1 t227 t228 t239 t240) else (laws_FnExactSlabTake.j1 kj11 a1 t231 t232 true a0_0 l0_1 t227 t228 t239 t240)) else (laws_FnExactSlabTake.j1 kj11 a1 t231 t232 true a0_0 l0_1 t227 t228 t239 t240))))) else (some false)) = some r := H
     have A67 := Aside0.mk A670
     clear A670
     by_cases c68 : t251 = true
     ·subst c68
      have H1 : ((laws_markSlab.f kj11 t234 t235 1).bind fun bt252 => (if bt252.1 < 0 then (laws_FnExactSlabTake.j1 kj11 a1 t231 t232 true a0_0 l0_1 t227 t228 t239 t240) else ((laws_eqSlab.f kj11 t239 t240 t227 t228).bind fun t254 => (if t254 = true then (if t243 = t231 then (laws_FnExactSlabTake.j1 kj11 a1 t231 t232 (t244 != t232) a0_0 l0_1 t227 t228 t239 t240) else (laws_FnExactSlabTake.j1 kj11 a1 t231 t232 true a0_0 l0_1 t227 t228 t239 t240)) else (laws_FnExactSlabTake.j1 kj11 a1 t231 t232 true a0_0 l0_1 t227 t228 t239 t240))))) = some r := by rw [if_pos rfl] at H; exact H
      clear H
      have H := H1
      clear H1
      replace H := Option.bind_eq_some_iff.mp H
      obtain ⟨⟨t252, t253⟩, A690, H⟩ := H
      replace H : (if t252 < 0 then (laws_FnExactSlabTake.j1 kj11 a1 t231 t232 true a0_0 l0_1 t227 t228 t239 t240) else ((laws_eqSlab.f kj11 t239 t240 t227 t228).bind fun t254 => (if t254 = true then (if t243 = t231 then (laws_FnExactSlabTake.j1 kj11 a1 t231 t232 (t244 != t232) a0_0 l0_1 t227 t228 t239 t240) else (laws_FnExactSlabTake.j1 kj11 a1 t231 t232 true a0_0 l0_1 t227 t228 t239 t240)) else (laws_FnExactSlabTake.j1 kj11 a1 t231 t232 true a0_0 l0_1 t227 t228 t239 t240)))) = some r := H
      have A69 := Aside0.mk A690
      clear A690
      have HC70 := Aside0.mk H
      clear H
      try go_wp2
      have n0_ := Aside0.mk (Kd.R_drew HO_234001.out)
      have n1_ := Aside0.mk (Kd.R_drew HO_239001.out)
      have n2_ := Aside0.mk (Kd.R_drew HO_246001.out)
      have n3_ := Aside0.mk (blk_drew BK221.out)
      have n4_ := Aside0.mk (blk_drew BK233.out)
      have n5_ := Aside0.mk (blk_drew BK238.out)
      have n6_ := Aside0.mk (blk_drew BK245.out)
      have n7_ := Aside0.mk (below_drew1 HB.out)
      clear HO_234001
      clear HO_239001
      clear HO_246001
      clear BK221
      clear BK233
      clear BK238
      clear BK245
      clear HB
      have HO_234001 := n0_
      have HO_239001 := n1_
      have HO_246001 := n2_
      have BK221 := n3_
      have BK233 := n4_
      have BK238 := n5_
      have BK245 := n6_
      have HB := n7_
      clear n0_ n1_ n2_ n3_ n4_ n5_ n6_ n7_
      refine start_ (n := 5) (S := fun w' => w'.cell? ⟨gb238, 0, none⟩ = some (.int .i64 t234) ∧ w'.cell? ⟨gb238, 1, none⟩ = some (.slice Ao30 t235.length co30) ∧ w'.cell? ⟨gb221, 0, none⟩ = some (.int .i64 a0_0) ∧ w'.cell? ⟨gb221, 1, none⟩ = some (.slice A0_1 l0_1.length c0_1)) (ds := []) (bs 5 0) (by kernel_rfl) rfl rfl ⟨(blk_cell BK238.out 0).trans rfl, (blk_cell BK238.out 1).trans rfl, (blk_cell BK221.out 0).trans rfl, (blk_cell BK221.out 1).trans rfl⟩ (fun hHeld => ?_)
      generalize wc.drew = w71 at HO_234001 HO_239001 HO_246001 BK221 BK233 BK238 BK245 HB hHeld ⊢
      refine take_ (i := 0) (N := some 55) (v := ?_) (a' := ?_) (bs 5 1) rfl rfl (by kernel_rfl) (fun _ _ _ h => h) (Or.inl ⟨by rfl, ?_⟩) hHeld ?_ ?_
      rotate_left
      ·rintro w' ⟨s0, s1, s2, s3⟩
       go_simp
       with_reducible rfl
      rotate_left
      ·simp only [Act.put, List.setIfInBounds_toArray, List.set_cons_zero, List.set_cons_succ, i64_w, i32_w]
       rfl
      refine take_ (i := 1) (N := some 56) (v := ?_) (a' := ?_) (bs 5 2) rfl rfl (by kernel_rfl) (fun _ _ _ h => h) (Or.inl ⟨by rfl, ?_⟩) hHeld ?_ ?_
      rotate_left
      ·rintro w' ⟨s0, s1, s2, s3⟩
       go_simp
       with_reducible rfl
      rotate_left
      ·simp only [Act.put, List.setIfInBounds_toArray, List.set_cons_zero, List.set_cons_succ, i64_w, i32_w]
       rfl
      refine one_ (i := 2) (N := some 57) (bs 5 3) rfl rfl (by kernel_rfl) (by decide) (fun K hK => ?_)
      refine goes_ Try.func24 (by kernel_rfl) rfl #[.agg #[.int .i64 a0_0, .slice A0_1 l0_1.length c0_1]] (by rfl) rfl rfl (by (try simp only [List.map_toArray, List.map_cons, List.map_nil]); first | done | rfl | (simp only [List.length_drop, List.length_take]; rfl)) ?_
      with_reducible refine (laws_toSlab.calls kj11 a0_0 _ _ l0_1 t247 t248 _ ?side1 ?side2 A66.out).mono ?_
      (case side1 => repeat (first | exact (Kd.C_below HR0_1.out HB.out) | (with_reducible refine Kd.C_alloc ?_ _) | (with_reducible refine Kd.C_drewN ?_ _) | (with_reducible refine Kd.C_drew ?_)))
      (case side2 => exact HC0_1.out)
      rintro e w72 ⟨v249, rfl, ho0, hb⟩
      refine ⟨_, rfl, ?_⟩
      have n0_ := Aside0.mk (Kd.R_elder' (by (with_reducible repeat (first | apply Kd.R_alloc | apply Kd.R_drewN | apply Kd.R_drew)); exact HO_234001.out) (Kd.R_base ho0) hb)
      have n1_ := Aside0.mk (Kd.R_elder' (by (with_reducible repeat (first | apply Kd.R_alloc | apply Kd.R_drewN | apply Kd.R_drew)); exact HO_239001.out) (Kd.R_base ho0) hb)
      have n2_ := Aside0.mk (Kd.R_elder' (by (with_reducible repeat (first | apply Kd.R_alloc | apply Kd.R_drewN | apply Kd.R_drew)); exact HO_246001.out) (Kd.R_base ho0) hb)
      have n3_ := Aside0.mk (Kd.R_lower (Kd.R_new' (Kd.R_new' (Kd.R_new' ho0 (Kd.R_lt (by (with_reducible repeat (first | apply Kd.R_alloc | apply Kd.R_drewN | apply Kd.R_drew)); exact HO_234001.out))) (Kd.R_lt (by (with_reducible repeat (first | apply Kd.R_alloc | apply Kd.R_drewN | apply Kd.R_drew)); exact HO_239001.out))) (Kd.R_lt (by (with_reducible repeat (first | apply Kd.R_alloc | apply Kd.R_drewN | apply Kd.R_drew)); exact HO_246001.out))) (below_size (by repeat (first | (with_reducible first | exact HB.out | apply below_alloc | apply pw_below_drewN | apply below_drew1 | refine below_set ?_ GE221.out | refine below_set ?_ GE233.out | refine below_set ?_ GE238.out | refine below_set ?_ GE245.out) | exact HB.out))))
      have n4_ := Aside0.mk (blk_below (g := gb221) (o := .cells #[.int .i64 a0_0, .slice A0_1 l0_1.length c0_1] 29 (0, 0)) (by (with_reducible repeat (first | refine blk_drewN ?_ _ | refine blk_drew ?_ | refine blk_alloc ?_ _)); exact BK221.out) hb)
      have n5_ := Aside0.mk (blk_below (g := gb233) (o := .cells #[.int .i64 t227, .slice Ao23 t228.length co23] 24 (0, 0)) (by (with_reducible repeat (first | refine blk_drewN ?_ _ | refine blk_drew ?_ | refine blk_alloc ?_ _)); exact BK233.out) hb)
      have n6_ := Aside0.mk (blk_below (g := gb238) (o := .cells #[.int .i64 t234, .slice Ao30 t235.length co30] 24 (0, 0)) (by (with_reducible repeat (first | refine blk_drewN ?_ _ | refine blk_drew ?_ | refine blk_alloc ?_ _)); exact BK238.out) hb)
      have n7_ := Aside0.mk (blk_below (g := gb245) (o := .cells #[.int .i64 t239, .slice Ao37 t240.length co37] 24 (0, 0)) (by (with_reducible repeat (first | refine blk_drewN ?_ _ | refine blk_drew ?_ | refine blk_alloc ?_ _)); exact BK245.out) hb)
      have n8_ := Aside0.mk (below_step (by repeat (first | (with_reducible first | exact HB.out | apply below_alloc | apply pw_below_drewN | apply below_drew1 | refine below_set ?_ GE221.out | refine below_set ?_ GE233.out | refine below_set ?_ GE238.out | refine below_set ?_ GE245.out) | exact HB.out)) hb)
      clear HO_234001
      clear HO_239001
      clear HO_246001
      clear BK221
      clear BK233
      clear BK238
      clear BK245
      clear HB
      have HO_234001 := n0_
      have HO_239001 := n1_
      have HO_246001 := n2_
      have HO250 := n3_
      have BK221 := n4_
      have BK233 := n5_
      have BK238 := n6_
      have BK245 := n7_
      have HB := n8_
      clear n0_ n1_ n2_ n3_ n4_ n5_ n6_ n7_ n8_
      (try clear hb)
      (try clear hb2)
      (try clear hk)
      (try clear hi)
      (try clear ho0)
      obtain ⟨Ao73, co73, eo73⟩ := Kd.R_slice HO250.out
      (first | subst eo73 | (injection eo73 with f1_ f2_ f3_; have f4_ := f1_.symm; have f5_ := f3_.symm; clear f1_ f2_ f3_; subst f4_; subst f5_))
      refine hK.out _ _ ⟨(blk_cell BK238.out 0).trans rfl, (blk_cell BK238.out 1).trans rfl, (blk_cell BK221.out 0).trans rfl, (blk_cell BK221.out 1).trans rfl⟩ (fun hHeld => ?_)
      clear hK K
      refine norm_ (a' := ?_) ?_ ?_
      rotate_left
      ·show Act.put _ (some 57) _ = _
       simp only [Act.put, List.setIfInBounds_toArray, List.set_cons_zero, List.set_cons_succ, i64_w, i32_w]
       rfl
      refine one_ (i := 3) (N := some 58) (bs 5 4) rfl rfl (by kernel_rfl) (by decide) (fun K hK => ?_)
      refine goes_ Try.func19 (by kernel_rfl) rfl #[.agg #[.int .i64 t234, .slice Ao30 t235.length co30], .agg #[.int .i64 t247, .slice Ao73 t248.length co73]] (by rfl) rfl rfl (by (try simp only [List.map_toArray, List.map_cons, List.map_nil]); first | done | rfl | (simp only [List.length_drop, List.length_take]; rfl)) ?_
      with_reducible refine (laws_eqSlab.calls kj11 t234 _ _ t235 t247 _ _ t248 true _ ?side1 ?side2 ?side3 ?side4 A67.out).mono ?_
      (case side1 => repeat (first | exact (Kd.R_reads' HO_239001.out).2.2 | (with_reducible refine Kd.C_alloc ?_ _) | (with_reducible refine Kd.C_drewN ?_ _) | (with_reducible refine Kd.C_drew ?_)))
      (case side2 => exact (Kd.R_reads' HO_239001.out).2.1)
      (case side3 => repeat (first | exact (Kd.R_reads' HO250.out).2.2 | (with_reducible refine Kd.C_alloc ?_ _) | (with_reducible refine Kd.C_drewN ?_ _) | (with_reducible refine Kd.C_drew ?_)))
      (case side4 => exact (Kd.R_reads' HO250.out).2.1)
      rintro e w74 ⟨rfl, hb⟩
      refine ⟨_, rfl, ?_⟩
      have n0_ := Aside0.mk (Kd.R_below (by (with_reducible repeat (first | apply Kd.R_alloc | apply Kd.R_drewN | apply Kd.R_drew)); exact HO_234001.out) hb)
      have n1_ := Aside0.mk (Kd.R_below (by (with_reducible repeat (first | apply Kd.R_alloc | apply Kd.R_drewN | apply Kd.R_drew)); exact HO_239001.out) hb)
      have n2_ := Aside0.mk (Kd.R_below (by (with_reducible repeat (first | apply Kd.R_alloc | apply Kd.R_drewN | apply Kd.R_drew)); exact HO_246001.out) hb)
      have n3_ := Aside0.mk (Kd.R_below (by (with_reducible repeat (first | apply Kd.R_alloc | apply Kd.R_drewN | apply Kd.R_drew)); exact HO250.out) hb)
      have n4_ := Aside0.mk (blk_below (g := gb221) (o := .cells #[.int .i64 a0_0, .slice A0_1 l0_1.length c0_1] 29 (0, 0)) (by (with_reducible repeat (first | refine blk_drewN ?_ _ | refine blk_drew ?_ | refine blk_alloc ?_ _)); exact BK221.out) hb)
      have n5_ := Aside0.mk (blk_below (g := gb233) (o := .cells #[.int .i64 t227, .slice Ao23 t228.length co23] 24 (0, 0)) (by (with_reducible repeat (first | refine blk_drewN ?_ _ | refine blk_drew ?_ | refine blk_alloc ?_ _)); exact BK233.out) hb)
      have n6_ := Aside0.mk (blk_below (g := gb238) (o := .cells #[.int .i64 t234, .slice Ao30 t235.length co30] 24 (0, 0)) (by (with_reducible repeat (first | refine blk_drewN ?_ _ | refine blk_drew ?_ | refine blk_alloc ?_ _)); exact BK238.out) hb)
      have n7_ := Aside0.mk (blk_below (g := gb245) (o := .cells #[.int .i64 t239, .slice Ao37 t240.length co37] 24 (0, 0)) (by (with_reducible repeat (first | refine blk_drewN ?_ _ | refine blk_drew ?_ | refine blk_alloc ?_ _)); exact BK245.out) hb)
      have n8_ := Aside0.mk (below_step (by repeat (first | (with_reducible first | exact HB.out | apply below_alloc | apply pw_below_drewN | apply below_drew1 | refine below_set ?_ GE221.out | refine below_set ?_ GE233.out | refine below_set ?_ GE238.out | refine below_set ?_ GE245.out) | exact HB.out)) hb)
      clear HO_234001
      clear HO_239001
      clear HO_246001
      clear HO250
      clear BK221
      clear BK233
      clear BK238
      clear BK245
      clear HB
      have HO_234001 := n0_
      have HO_239001 := n1_
      have HO_246001 := n2_
      have HO250 := n3_
      have BK221 := n4_
      have BK233 := n5_
      have BK238 := n6_
      have BK245 := n7_
      have HB := n8_
      clear n0_ n1_ n2_ n3_ n4_ n5_ n6_ n7_ n8_
      (try clear hb)
      (try clear hb2)
      (try clear hk)
      (try clear hi)
      refine hK.out _ _ ⟨(blk_cell BK238.out 0).trans rfl, (blk_cell BK238.out 1).trans rfl, (blk_cell BK221.out 0).trans rfl, (blk_cell BK221.out 1).trans rfl⟩ (fun hHeld => ?_)
      clear hK K
      refine norm_ (a' := ?_) ?_ ?_
      rotate_left
      ·show Act.put _ (some 58) _ = _
       simp only [Act.put, List.setIfInBounds_toArray, List.set_cons_zero, List.set_cons_succ, i64_w, i32_w]
       rfl
      refine pure_s (i := 4) (N := some 59) (bs 5 5) (by kernel_rfl) (h := ?_)
      refine done_ (by kernel_rfl) ?_
      have hnb75 := NB238_221.out
      have hnc75 := NB221_238.out
      have hnb76 := NB238_233.out
      have hnc76 := NB233_238.out
      have hnb77 := NB238_245.out
      have hnc77 := NB245_238.out
      have hcz78_0 : w74.cell? ⟨gb238, 0, none⟩ = some (.int .i64 t234) := (blk_cell BK238.out 0).trans rfl
      have hcz78_1 : w74.cell? ⟨gb238, 1, none⟩ = some (.slice Ao30 t235.length co30) := (blk_cell BK238.out 1).trans rfl
      have hfz78_0 := blk_frozen BK238.out 0
      have hfz78_1 := blk_frozen BK238.out 1
      go_upto_region 14 with (first | ((with_reducible refine gate_callee (f := 20) rfl ?_); refine goesL_ (some 62) rfl rfl Try.func20 (by kernel_rfl) rfl #[.agg #[.int .i64 t234, .slice Ao30 t235.length co30], .int .i64 1] rfl (by (try simp only [List.map_toArray, List.map_cons, List.map_nil]); first | done | rfl | (simp only [List.length_drop, List.length_take]; rfl)) ?_; (with_reducible refine (laws_markSlab.calls kj11 t234 (fun k_ => some k_ = (.slice Ao30 t235.length co30 : Value).ownBlock) (.slice Ao30 t235.length co30) t235 1 t252 t253 w _ ?side1 ?side2 A69.out).mono ?_); (case side1 => repeat (first | (with_reducible first | exact HB.out | apply below_alloc | apply pw_below_drewN | apply below_drew1 | refine below_set ?_ GE221.out | refine below_set ?_ GE233.out | refine below_set ?_ GE238.out | refine below_set ?_ GE245.out) | exact HB.out)); (case side2 => exact Kd.R_tight rfl HO_239001.out); rintro e w79 ⟨rfl, hy0, hb, hkp⟩; refine ⟨_, rfl, ?_⟩; have n0_ := Aside0.mk (Kd.R_mono (ok' := fun k_ => some k_ ≠ (.slice Ao30 t235.length co30 : Value).ownBlock ∧ some k_ ≠ (.slice Ao37 t240.length co37 : Value).ownBlock ∧ some k_ ≠ (.slice Ao73 t248.length co73 : Value).ownBlock) (Kd.R_keptB (HO_234001.out) hkp (fun k_ hk_ hs_ => by first | exact (hk_.1.1) hs_ | grind)) (fun k_ hk_ => by first | exact ⟨hk_.1.1.1, hk_.1.1.2, hk_.1.2⟩ | grind)); have n1_ := Aside0.mk (Kd.R_reok rfl hy0 (fun k_ e_ => HO_239001.out.1 k_ e_)); have n2_ := Aside0.mk (Kd.R_mono (ok' := fun k_ => some k_ ≠ (.slice Ao23 t228.length co23 : Value).ownBlock ∧ some k_ ≠ (.slice Ao30 t235.length co30 : Value).ownBlock ∧ some k_ ≠ (.slice Ao73 t248.length co73 : Value).ownBlock) (Kd.R_keptB (HO_246001.out) hkp (fun k_ hk_ hs_ => by first | exact (hk_.1.2) hs_ | grind)) (fun k_ hk_ => by first | exact ⟨hk_.1.1.1, hk_.1.1.2, hk_.1.2⟩ | grind)); have n3_ := Aside0.mk (blk_kept (by (with_reducible repeat (first | refine blk_drewN ?_ _ | refine blk_drew ?_ | refine blk_alloc ?_ _)); exact BK221.out) hkp (fun hs_ => (fun e_ => (Kd.R_ne HO_239001.out BK221.out (by decide)) e_) hs_)); have n4_ := Aside0.mk (blk_kept (by (with_reducible repeat (first | refine blk_drewN ?_ _ | refine blk_drew ?_ | refine blk_alloc ?_ _)); exact BK233.out) hkp (fun hs_ => (fun e_ => (Kd.R_ne HO_239001.out BK233.out (by decide)) e_) hs_)); have n5_ := Aside0.mk (blk_kept (by (with_reducible repeat (first | refine blk_drewN ?_ _ | refine blk_drew ?_ | refine blk_alloc ?_ _)); exact BK238.out) hkp (fun hs_ => (fun e_ => (Kd.R_ne HO_239001.out BK238.out (by decide)) e_) hs_)); have n6_ := Aside0.mk (blk_kept (by (with_reducible repeat (first | refine blk_drewN ?_ _ | refine blk_drew ?_ | refine blk_alloc ?_ _)); exact BK245.out) hkp (fun hs_ => (fun e_ => (Kd.R_ne HO_239001.out BK245.out (by decide)) e_) hs_)); have n7_ := Aside0.mk (Kd.R_mono (ok' := fun k_ => some k_ ≠ (.slice Ao23 t228.length co23 : Value).ownBlock ∧ some k_ ≠ (.slice Ao30 t235.length co30 : Value).ownBlock ∧ some k_ ≠ (.slice Ao37 t240.length co37 : Value).ownBlock) (Kd.R_keptB (HO250.out) hkp (fun k_ hk_ hs_ => by first | exact (hk_.1.2) hs_ | grind)) (fun k_ hk_ => by first | exact ⟨hk_.1.1.1.2, hk_.1.1.2, hk_.1.2⟩ | grind)); have n8_ := Aside0.mk (hb); clear HO_234001; clear HO_239001; clear HO_246001; clear BK221; clear BK233; clear BK238; clear BK245; clear HO250; clear HB; have HO_234001 := n0_; have HO_239001 := n1_; have HO_246001 := n2_; have BK221 := n3_; have BK233 := n4_; have BK238 := n5_; have BK245 := n6_; have HO250 := n7_; have HB := n8_; clear n0_ n1_ n2_ n3_ n4_ n5_ n6_ n7_ n8_; (try clear hb); (try clear hkp); (try clear hy0)))
      (try simp only [Act.put, List.setIfInBounds_toArray, List.set_cons_zero, List.set_cons_succ])
      go_cut [80] (fun v80 wc => ∃ (kq : Nat) (x80_69 : Bool), v80 = .bool x80_69 ∧ Aside0 (laws_FnExactSlabTake.j1 kq a1 t231 t232 x80_69 a0_0 l0_1 t227 t228 t239 t240 = some r) ∧ Aside0 (kq ≤ kj11) ∧ Aside0 (Kd.R (Kd.int .i64) 3 wc w.heap.size (fun k_ => some k_ ≠ ((.slice Ao30 t235.length co30) : Value).ownBlock ∧ some k_ ≠ ((.slice Ao37 t240.length co37) : Value).ownBlock) (.slice Ao23 t228.length co23) t228) ∧ Aside0 (Kd.R (Kd.int .i64) 3 wc w.heap.size (fun k_ => some k_ ≠ ((.slice Ao23 t228.length co23) : Value).ownBlock ∧ some k_ ≠ ((.slice Ao37 t240.length co37) : Value).ownBlock) (.slice Ao30 t235.length co30) t253) ∧ Aside0 (Kd.R (Kd.int .i64) 3 wc w.heap.size (fun k_ => some k_ ≠ ((.slice Ao23 t228.length co23) : Value).ownBlock ∧ some k_ ≠ ((.slice Ao30 t235.length co30) : Value).ownBlock) (.slice Ao37 t240.length co37) t240) ∧ Aside0 (wc.heap[gb221]? = some (.cells #[.int .i64 a0_0, (.slice A0_1 l0_1.length c0_1)] 29 (0, 0))) ∧ Aside0 (wc.heap[gb233]? = some (.cells #[.int .i64 t227, (.slice Ao23 t228.length co23)] 24 (0, 0))) ∧ Aside0 (wc.heap[gb238]? = some (.cells #[.int .i64 t234, (.slice Ao30 t235.length co30)] 24 (0, 0))) ∧ Aside0 (wc.heap[gb245]? = some (.cells #[.int .i64 t239, (.slice Ao37 t240.length co37)] 24 (0, 0))) ∧ Aside0 (Below w.heap.size w wc))
      case first =>
       have H := HC70.out
       clear HC70
       by_cases c80 : t252 < 0
       ·rw [if_pos c80] at H
        have c80b0 : decide (t252 < 0) = true := decide_eq_true c80
        clear c80
        (first | rw [c80b0] | (simp only [i64_w, i32_w]; rw [c80b0]) | skip)
        have H' := Aside0.mk H
        clear H
        go_wp2
        go_meet
        case rel => exact ⟨_, (true), (by first | rfl | (simp; done) | (simp [*]; done)), H', ⟨by have := HJ11.out; first | omega | exact Nat.le_refl _⟩, ⟨by (with_reducible repeat (first | apply Kd.R_alloc | apply Kd.R_drewN | apply Kd.R_drew)); exact Kd.R_mono HO_234001.out (fun _ hk => by first | exact ⟨hk.1, hk.2.1⟩ | grind)⟩, ⟨by (with_reducible repeat (first | apply Kd.R_alloc | apply Kd.R_drewN | apply Kd.R_drew)); exact Kd.R_mono HO_239001.out (fun _ hk => by first | exact ⟨hk.1.1, hk.1.2⟩ | grind)⟩, ⟨by (with_reducible repeat (first | apply Kd.R_alloc | apply Kd.R_drewN | apply Kd.R_drew)); exact Kd.R_mono HO_246001.out (fun _ hk => by first | exact ⟨hk.1, hk.2.1⟩ | grind)⟩, ⟨by (with_reducible repeat (first | refine blk_drewN ?_ _ | refine blk_drew ?_ | refine blk_alloc ?_ _)); exact BK221.out⟩, ⟨by (with_reducible repeat (first | refine blk_drewN ?_ _ | refine blk_drew ?_ | refine blk_alloc ?_ _)); exact BK233.out⟩, ⟨by (with_reducible repeat (first | refine blk_drewN ?_ _ | refine blk_drew ?_ | refine blk_alloc ?_ _)); exact BK238.out⟩, ⟨by (with_reducible repeat (first | refine blk_drewN ?_ _ | refine blk_drew ?_ | refine blk_alloc ?_ _)); exact BK245.out⟩, ⟨by repeat (first | (with_reducible first | exact HB.out | apply below_alloc | apply pw_below_drewN | apply below_drew1 | refine below_set ?_ GE221.out | refine below_set ?_ GE233.out | refine below_set ?_ GE238.out | refine below_set ?_ GE245.out) | exact HB.out)⟩⟩
       ·rw [if_neg c80] at H
        have c80b0 : decide (t252 < 0) = false := decide_eq_false c80
        clear c80
        (first | rw [c80b0] | (simp only [i64_w, i32_w]; rw [c80b0]) | skip)
        replace H := Option.bind_eq_some_iff.mp H
        obtain ⟨t254, A810, H⟩ := H
        replace H : (if t254 = true then (if t243 = t231 then (laws_FnExactSlabTake.j1 kj11 a1 t231 t232 (t244 != t232) a0_0 l0_1 t227 t228 t239 t240) else (laws_FnExactSlabTake.j1 kj11 a1 t231 t232 true a0_0 l0_1 t227 t228 t239 t240)) else (laws_FnExactSlabTake.j1 kj11 a1 t231 t232 true a0_0 l0_1 t227 t228 t239 t240)) = some r := H
        have A81 := Aside0.mk A810
        clear A810
        by_cases c82 : t254 = true
        ·subst c82
         have H1 : (if t243 = t231 then (laws_FnExactSlabTake.j1 kj11 a1 t231 t232 (t244 != t232) a0_0 l0_1 t227 t228 t239 t240) else (laws_FnExactSlabTake.j1 kj11 a1 t231 t232 true a0_0 l0_1 t227 t228 t239 t240)) = some r := by rw [if_pos rfl] at H; exact H
         clear H
         have H := H1
         clear H1
         by_cases c83 : t243 = t231
         ·rw [if_pos c83] at H
          have c83b0 : (t243 == t231) = true := beq_iff_eq.mpr c83
          have c83b1 : (t243 != t231) = false := bne_eq_false_iff_eq.mpr c83
          clear c83
          have H' := Aside0.mk H
          clear H
          have hnb84 := NB245_221.out
          have hnc84 := NB221_245.out
          have hnb85 := NB245_233.out
          have hnc85 := NB233_245.out
          have hnb86 := NB245_238.out
          have hnc86 := NB238_245.out
          have hcz87_0 : w79.cell? ⟨gb245, 0, none⟩ = some (.int .i64 t239) := (blk_cell BK245.out 0).trans rfl
          have hcz87_1 : w79.cell? ⟨gb245, 1, none⟩ = some (.slice Ao37 t240.length co37) := (blk_cell BK245.out 1).trans rfl
          have hfz87_0 := blk_frozen BK245.out 0
          have hfz87_1 := blk_frozen BK245.out 1
          have hnb88 := NB233_221.out
          have hnc88 := NB221_233.out
          have hnb89 := NB233_238.out
          have hnc89 := NB238_233.out
          have hcz90_0 : w79.cell? ⟨gb233, 0, none⟩ = some (.int .i64 t227) := (blk_cell BK233.out 0).trans rfl
          have hcz90_1 : w79.cell? ⟨gb233, 1, none⟩ = some (.slice Ao23 t228.length co23) := (blk_cell BK233.out 1).trans rfl
          have hfz90_0 := blk_frozen BK233.out 0
          have hfz90_1 := blk_frozen BK233.out 1
          go_wp2_with (first | (go_at_call 19; (with_reducible refine (laws_eqSlab.calls kj11 t239 _ _ t240 t227 _ _ t228 true _ ?side1 ?side2 ?side3 ?side4 A81.out).mono ?_); (case side1 => repeat (first | exact (Kd.R_reads' HO_246001.out).2.2 | (with_reducible refine Kd.C_alloc ?_ _) | (with_reducible refine Kd.C_drewN ?_ _) | (with_reducible refine Kd.C_drew ?_))); (case side2 => exact (Kd.R_reads' HO_246001.out).2.1); (case side3 => repeat (first | exact (Kd.R_reads' HO_234001.out).2.2 | (with_reducible refine Kd.C_alloc ?_ _) | (with_reducible refine Kd.C_drewN ?_ _) | (with_reducible refine Kd.C_drew ?_))); (case side4 => exact (Kd.R_reads' HO_234001.out).2.1); rintro e w91 ⟨rfl, hb⟩; have n0_ := Aside0.mk (Kd.R_below (by (with_reducible repeat (first | apply Kd.R_alloc | apply Kd.R_drewN | apply Kd.R_drew)); exact HO_234001.out) hb); have n1_ := Aside0.mk (Kd.R_below (by (with_reducible repeat (first | apply Kd.R_alloc | apply Kd.R_drewN | apply Kd.R_drew)); exact HO_239001.out) hb); have n2_ := Aside0.mk (Kd.R_below (by (with_reducible repeat (first | apply Kd.R_alloc | apply Kd.R_drewN | apply Kd.R_drew)); exact HO_246001.out) hb); have n3_ := Aside0.mk (Kd.R_below (by (with_reducible repeat (first | apply Kd.R_alloc | apply Kd.R_drewN | apply Kd.R_drew)); exact HO250.out) hb); have n4_ := Aside0.mk (blk_below (g := gb221) (o := .cells #[.int .i64 a0_0, .slice A0_1 l0_1.length c0_1] 29 (0, 0)) (by (with_reducible repeat (first | refine blk_drewN ?_ _ | refine blk_drew ?_ | refine blk_alloc ?_ _)); exact BK221.out) hb); have n5_ := Aside0.mk (blk_below (g := gb233) (o := .cells #[.int .i64 t227, .slice Ao23 t228.length co23] 24 (0, 0)) (by (with_reducible repeat (first | refine blk_drewN ?_ _ | refine blk_drew ?_ | refine blk_alloc ?_ _)); exact BK233.out) hb); have n6_ := Aside0.mk (blk_below (g := gb238) (o := .cells #[.int .i64 t234, .slice Ao30 t235.length co30] 24 (0, 0)) (by (with_reducible repeat (first | refine blk_drewN ?_ _ | refine blk_drew ?_ | refine blk_alloc ?_ _)); exact BK238.out) hb); have n7_ := Aside0.mk (blk_below (g := gb245) (o := .cells #[.int .i64 t239, .slice Ao37 t240.length co37] 24 (0, 0)) (by (with_reducible repeat (first | refine blk_drewN ?_ _ | refine blk_drew ?_ | refine blk_alloc ?_ _)); exact BK245.out) hb); have n8_ := Aside0.mk (below_step (by repeat (first | (with_reducible first | exact HB.out | apply below_alloc | apply pw_below_drewN | apply below_drew1 | refine below_set ?_ GE221.out | refine below_set ?_ GE233.out | refine below_set ?_ GE238.out | refine below_set ?_ GE245.out) | exact HB.out)) hb); clear HO_234001; clear HO_239001; clear HO_246001; clear HO250; clear BK221; clear BK233; clear BK238; clear BK245; clear HB; have HO_234001 := n0_; have HO_239001 := n1_; have HO_246001 := n2_; have HO250 := n3_; have BK221 := n4_; have BK233 := n5_; have BK238 := n6_; have BK245 := n7_; have HB := n8_; clear n0_ n1_ n2_ n3_ n4_ n5_ n6_ n7_ n8_; (try clear hb); (try clear hb2); (try clear hk); (try clear hi)))
          go_meet
          case rel => exact ⟨_, ((t244 != t232)), (by first | rfl | (simp; done) | (simp [*]; done)), H', ⟨by have := HJ11.out; first | omega | exact Nat.le_refl _⟩, ⟨by (with_reducible repeat (first | apply Kd.R_alloc | apply Kd.R_drewN | apply Kd.R_drew)); exact Kd.R_mono HO_234001.out (fun _ hk => by first | exact ⟨hk.1, hk.2.1⟩ | grind)⟩, ⟨by (with_reducible repeat (first | apply Kd.R_alloc | apply Kd.R_drewN | apply Kd.R_drew)); exact Kd.R_mono HO_239001.out (fun _ hk => by first | exact ⟨hk.1.1, hk.1.2⟩ | grind)⟩, ⟨by (with_reducible repeat (first | apply Kd.R_alloc | apply Kd.R_drewN | apply Kd.R_drew)); exact Kd.R_mono HO_246001.out (fun _ hk => by first | exact ⟨hk.1, hk.2.1⟩ | grind)⟩, ⟨by (with_reducible repeat (first | refine blk_drewN ?_ _ | refine blk_drew ?_ | refine blk_alloc ?_ _)); exact BK221.out⟩, ⟨by (with_reducible repeat (first | refine blk_drewN ?_ _ | refine blk_drew ?_ | refine blk_alloc ?_ _)); exact BK233.out⟩, ⟨by (with_reducible repeat (first | refine blk_drewN ?_ _ | refine blk_drew ?_ | refine blk_alloc ?_ _)); exact BK238.out⟩, ⟨by (with_reducible repeat (first | refine blk_drewN ?_ _ | refine blk_drew ?_ | refine blk_alloc ?_ _)); exact BK245.out⟩, ⟨by repeat (first | (with_reducible first | exact HB.out | apply below_alloc | apply pw_below_drewN | apply below_drew1 | refine below_set ?_ GE221.out | refine below_set ?_ GE233.out | refine below_set ?_ GE238.out | refine below_set ?_ GE245.out) | exact HB.out)⟩⟩
         ·rw [if_neg c83] at H
          have c83b0 : (t243 == t231) = false := beq_eq_false_iff_ne.mpr c83
          have c83b1 : (t243 != t231) = true := bne_iff_ne.mpr c83
          have H' := Aside0.mk H
          clear H
          have hnb92 := NB245_221.out
          have hnc92 := NB221_245.out
          have hnb93 := NB245_233.out
          have hnc93 := NB233_245.out
          have hnb94 := NB245_238.out
          have hnc94 := NB238_245.out
          have hcz95_0 : w79.cell? ⟨gb245, 0, none⟩ = some (.int .i64 t239) := (blk_cell BK245.out 0).trans rfl
          have hcz95_1 : w79.cell? ⟨gb245, 1, none⟩ = some (.slice Ao37 t240.length co37) := (blk_cell BK245.out 1).trans rfl
          have hfz95_0 := blk_frozen BK245.out 0
          have hfz95_1 := blk_frozen BK245.out 1
          have hnb96 := NB233_221.out
          have hnc96 := NB221_233.out
          have hnb97 := NB233_238.out
          have hnc97 := NB238_233.out
          have hcz98_0 : w79.cell? ⟨gb233, 0, none⟩ = some (.int .i64 t227) := (blk_cell BK233.out 0).trans rfl
          have hcz98_1 : w79.cell? ⟨gb233, 1, none⟩ = some (.slice Ao23 t228.length co23) := (blk_cell BK233.out 1).trans rfl
          have hfz98_0 := blk_frozen BK233.out 0
          have hfz98_1 := blk_frozen BK233.out 1
          go_wp2_with (first | (go_at_call 19; (with_reducible refine (laws_eqSlab.calls kj11 t239 _ _ t240 t227 _ _ t228 true _ ?side1 ?side2 ?side3 ?side4 A81.out).mono ?_); (case side1 => repeat (first | exact (Kd.R_reads' HO_246001.out).2.2 | (with_reducible refine Kd.C_alloc ?_ _) | (with_reducible refine Kd.C_drewN ?_ _) | (with_reducible refine Kd.C_drew ?_))); (case side2 => exact (Kd.R_reads' HO_246001.out).2.1); (case side3 => repeat (first | exact (Kd.R_reads' HO_234001.out).2.2 | (with_reducible refine Kd.C_alloc ?_ _) | (with_reducible refine Kd.C_drewN ?_ _) | (with_reducible refine Kd.C_drew ?_))); (case side4 => exact (Kd.R_reads' HO_234001.out).2.1); rintro e w99 ⟨rfl, hb⟩; have n0_ := Aside0.mk (Kd.R_below (by (with_reducible repeat (first | apply Kd.R_alloc | apply Kd.R_drewN | apply Kd.R_drew)); exact HO_234001.out) hb); have n1_ := Aside0.mk (Kd.R_below (by (with_reducible repeat (first | apply Kd.R_alloc | apply Kd.R_drewN | apply Kd.R_drew)); exact HO_239001.out) hb); have n2_ := Aside0.mk (Kd.R_below (by (with_reducible repeat (first | apply Kd.R_alloc | apply Kd.R_drewN | apply Kd.R_drew)); exact HO_246001.out) hb); have n3_ := Aside0.mk (Kd.R_below (by (with_reducible repeat (first | apply Kd.R_alloc | apply Kd.R_drewN | apply Kd.R_drew)); exact HO250.out) hb); have n4_ := Aside0.mk (blk_below (g := gb221) (o := .cells #[.int .i64 a0_0, .slice A0_1 l0_1.length c0_1] 29 (0, 0)) (by (with_reducible repeat (first | refine blk_drewN ?_ _ | refine blk_drew ?_ | refine blk_alloc ?_ _)); exact BK221.out) hb); have n5_ := Aside0.mk (blk_below (g := gb233) (o := .cells #[.int .i64 t227, .slice Ao23 t228.length co23] 24 (0, 0)) (by (with_reducible repeat (first | refine blk_drewN ?_ _ | refine blk_drew ?_ | refine blk_alloc ?_ _)); exact BK233.out) hb); have n6_ := Aside0.mk (blk_below (g := gb238) (o := .cells #[.int .i64 t234, .slice Ao30 t235.length co30] 24 (0, 0)) (by (with_reducible repeat (first | refine blk_drewN ?_ _ | refine blk_drew ?_ | refine blk_alloc ?_ _)); exact BK238.out) hb); have n7_ := Aside0.mk (blk_below (g := gb245) (o := .cells #[.int .i64 t239, .slice Ao37 t240.length co37] 24 (0, 0)) (by (with_reducible repeat (first | refine blk_drewN ?_ _ | refine blk_drew ?_ | refine blk_alloc ?_ _)); exact BK245.out) hb); have n8_ := Aside0.mk (below_step (by repeat (first | (with_reducible first | exact HB.out | apply below_alloc | apply pw_below_drewN | apply below_drew1 | refine below_set ?_ GE221.out | refine below_set ?_ GE233.out | refine below_set ?_ GE238.out | refine below_set ?_ GE245.out) | exact HB.out)) hb); clear HO_234001; clear HO_239001; clear HO_246001; clear HO250; clear BK221; clear BK233; clear BK238; clear BK245; clear HB; have HO_234001 := n0_; have HO_239001 := n1_; have HO_246001 := n2_; have HO250 := n3_; have BK221 := n4_; have BK233 := n5_; have BK238 := n6_; have BK245 := n7_; have HB := n8_; clear n0_ n1_ n2_ n3_ n4_ n5_ n6_ n7_ n8_; (try clear hb); (try clear hb2); (try clear hk); (try clear hi)))
          go_meet
          case rel => exact ⟨_, (true), (by first | rfl | (simp; done) | (simp [*]; done)), H', ⟨by have := HJ11.out; first | omega | exact Nat.le_refl _⟩, ⟨by (with_reducible repeat (first | apply Kd.R_alloc | apply Kd.R_drewN | apply Kd.R_drew)); exact Kd.R_mono HO_234001.out (fun _ hk => by first | exact ⟨hk.1, hk.2.1⟩ | grind)⟩, ⟨by (with_reducible repeat (first | apply Kd.R_alloc | apply Kd.R_drewN | apply Kd.R_drew)); exact Kd.R_mono HO_239001.out (fun _ hk => by first | exact ⟨hk.1.1, hk.1.2⟩ | grind)⟩, ⟨by (with_reducible repeat (first | apply Kd.R_alloc | apply Kd.R_drewN | apply Kd.R_drew)); exact Kd.R_mono HO_246001.out (fun _ hk => by first | exact ⟨hk.1, hk.2.1⟩ | grind)⟩, ⟨by (with_reducible repeat (first | refine blk_drewN ?_ _ | refine blk_drew ?_ | refine blk_alloc ?_ _)); exact BK221.out⟩, ⟨by (with_reducible repeat (first | refine blk_drewN ?_ _ | refine blk_drew ?_ | refine blk_alloc ?_ _)); exact BK233.out⟩, ⟨by (with_reducible repeat (first | refine blk_drewN ?_ _ | refine blk_drew ?_ | refine blk_alloc ?_ _)); exact BK238.out⟩, ⟨by (with_reducible repeat (first | refine blk_drewN ?_ _ | refine blk_drew ?_ | refine blk_alloc ?_ _)); exact BK245.out⟩, ⟨by repeat (first | (with_reducible first | exact HB.out | apply below_alloc | apply pw_below_drewN | apply below_drew1 | refine below_set ?_ GE221.out | refine below_set ?_ GE233.out | refine below_set ?_ GE238.out | refine below_set ?_ GE245.out) | exact HB.out)⟩⟩
        ·replace c82 := Bool.eq_false_iff.mpr c82
         subst c82
         have H1 : (laws_FnExactSlabTake.j1 kj11 a1 t231 t232 true a0_0 l0_1 t227 t228 t239 t240) = some r := by rw [if_neg (show ¬ (false = true) by decide)] at H; exact H
         clear H
         have H := H1
         clear H1
         have H' := Aside0.mk H
         clear H
         have hnb100 := NB245_221.out
         have hnc100 := NB221_245.out
         have hnb101 := NB245_233.out
         have hnc101 := NB233_245.out
         have hnb102 := NB245_238.out
         have hnc102 := NB238_245.out
         have hcz103_0 : w79.cell? ⟨gb245, 0, none⟩ = some (.int .i64 t239) := (blk_cell BK245.out 0).trans rfl
         have hcz103_1 : w79.cell? ⟨gb245, 1, none⟩ = some (.slice Ao37 t240.length co37) := (blk_cell BK245.out 1).trans rfl
         have hfz103_0 := blk_frozen BK245.out 0
         have hfz103_1 := blk_frozen BK245.out 1
         have hnb104 := NB233_221.out
         have hnc104 := NB221_233.out
         have hnb105 := NB233_238.out
         have hnc105 := NB238_233.out
         have hcz106_0 : w79.cell? ⟨gb233, 0, none⟩ = some (.int .i64 t227) := (blk_cell BK233.out 0).trans rfl
         have hcz106_1 : w79.cell? ⟨gb233, 1, none⟩ = some (.slice Ao23 t228.length co23) := (blk_cell BK233.out 1).trans rfl
         have hfz106_0 := blk_frozen BK233.out 0
         have hfz106_1 := blk_frozen BK233.out 1
         go_wp2_with (first | (go_at_call 19; (with_reducible refine (laws_eqSlab.calls kj11 t239 _ _ t240 t227 _ _ t228 false _ ?side1 ?side2 ?side3 ?side4 A81.out).mono ?_); (case side1 => repeat (first | exact (Kd.R_reads' HO_246001.out).2.2 | (with_reducible refine Kd.C_alloc ?_ _) | (with_reducible refine Kd.C_drewN ?_ _) | (with_reducible refine Kd.C_drew ?_))); (case side2 => exact (Kd.R_reads' HO_246001.out).2.1); (case side3 => repeat (first | exact (Kd.R_reads' HO_234001.out).2.2 | (with_reducible refine Kd.C_alloc ?_ _) | (with_reducible refine Kd.C_drewN ?_ _) | (with_reducible refine Kd.C_drew ?_))); (case side4 => exact (Kd.R_reads' HO_234001.out).2.1); rintro e w107 ⟨rfl, hb⟩; have n0_ := Aside0.mk (Kd.R_below (by (with_reducible repeat (first | apply Kd.R_alloc | apply Kd.R_drewN | apply Kd.R_drew)); exact HO_234001.out) hb); have n1_ := Aside0.mk (Kd.R_below (by (with_reducible repeat (first | apply Kd.R_alloc | apply Kd.R_drewN | apply Kd.R_drew)); exact HO_239001.out) hb); have n2_ := Aside0.mk (Kd.R_below (by (with_reducible repeat (first | apply Kd.R_alloc | apply Kd.R_drewN | apply Kd.R_drew)); exact HO_246001.out) hb); have n3_ := Aside0.mk (Kd.R_below (by (with_reducible repeat (first | apply Kd.R_alloc | apply Kd.R_drewN | apply Kd.R_drew)); exact HO250.out) hb); have n4_ := Aside0.mk (blk_below (g := gb221) (o := .cells #[.int .i64 a0_0, .slice A0_1 l0_1.length c0_1] 29 (0, 0)) (by (with_reducible repeat (first | refine blk_drewN ?_ _ | refine blk_drew ?_ | refine blk_alloc ?_ _)); exact BK221.out) hb); have n5_ := Aside0.mk (blk_below (g := gb233) (o := .cells #[.int .i64 t227, .slice Ao23 t228.length co23] 24 (0, 0)) (by (with_reducible repeat (first | refine blk_drewN ?_ _ | refine blk_drew ?_ | refine blk_alloc ?_ _)); exact BK233.out) hb); have n6_ := Aside0.mk (blk_below (g := gb238) (o := .cells #[.int .i64 t234, .slice Ao30 t235.length co30] 24 (0, 0)) (by (with_reducible repeat (first | refine blk_drewN ?_ _ | refine blk_drew ?_ | refine blk_alloc ?_ _)); exact BK238.out) hb); have n7_ := Aside0.mk (blk_below (g := gb245) (o := .cells #[.int .i64 t239, .slice Ao37 t240.length co37] 24 (0, 0)) (by (with_reducible repeat (first | refine blk_drewN ?_ _ | refine blk_drew ?_ | refine blk_alloc ?_ _)); exact BK245.out) hb); have n8_ := Aside0.mk (below_step (by repeat (first | (with_reducible first | exact HB.out | apply below_alloc | apply pw_below_drewN | apply below_drew1 | refine below_set ?_ GE221.out | refine below_set ?_ GE233.out | refine below_set ?_ GE238.out | refine below_set ?_ GE245.out) | exact HB.out)) hb); clear HO_234001; clear HO_239001; clear HO_246001; clear HO250; clear BK221; clear BK233; clear BK238; clear BK245; clear HB; have HO_234001 := n0_; have HO_239001 := n1_; have HO_246001 := n2_; have HO250 := n3_; have BK221 := n4_; have BK233 := n5_; have BK238 := n6_; have BK245 := n7_; have HB := n8_; clear n0_ n1_ n2_ n3_ n4_ n5_ n6_ n7_ n8_; (try clear hb); (try clear hb2); (try clear hk); (try clear hi)))
         go_meet
         case rel => exact ⟨_, (true), (by first | rfl | (simp; done) | (simp [*]; done)), H', ⟨by have := HJ11.out; first | omega | exact Nat.le_refl _⟩, ⟨by (with_reducible repeat (first | apply Kd.R_alloc | apply Kd.R_drewN | apply Kd.R_drew)); exact Kd.R_mono HO_234001.out (fun _ hk => by first | exact ⟨hk.1, hk.2.1⟩ | grind)⟩, ⟨by (with_reducible repeat (first | apply Kd.R_alloc | apply Kd.R_drewN | apply Kd.R_drew)); exact Kd.R_mono HO_239001.out (fun _ hk => by first | exact ⟨hk.1.1, hk.1.2⟩ | grind)⟩, ⟨by (with_reducible repeat (first | apply Kd.R_alloc | apply Kd.R_drewN | apply Kd.R_drew)); exact Kd.R_mono HO_246001.out (fun _ hk => by first | exact ⟨hk.1, hk.2.1⟩ | grind)⟩, ⟨by (with_reducible repeat (first | refine blk_drewN ?_ _ | refine blk_drew ?_ | refine blk_alloc ?_ _)); exact BK221.out⟩, ⟨by (with_reducible repeat (first | refine blk_drewN ?_ _ | refine blk_drew ?_ | refine blk_alloc ?_ _)); exact BK233.out⟩, ⟨by (with_reducible repeat (first | refine blk_drewN ?_ _ | refine blk_drew ?_ | refine blk_alloc ?_ _)); exact BK238.out⟩, ⟨by (with_reducible repeat (first | refine blk_drewN ?_ _ | refine blk_drew ?_ | refine blk_alloc ?_ _)); exact BK245.out⟩, ⟨by repeat (first | (with_reducible first | exact HB.out | apply below_alloc | apply pw_below_drewN | apply below_drew1 | refine below_set ?_ GE221.out | refine below_set ?_ GE233.out | refine below_set ?_ GE238.out | refine below_set ?_ GE245.out) | exact HB.out)⟩⟩
      case rest =>
       clear HC70
       try clear c1
       try clear c2
       try clear p2
       try clear c3
       try clear c4
       try clear c4b0
       try clear c5
       try clear c6
       try clear c7
       try clear c8
       try clear c9
       try clear c10
       try clear c19
       try clear c20
       try clear c21
       try clear c22
       try clear c24
       try clear c27
       try clear c28
       try clear c33
       try clear c34
       try clear c35
       try clear c39
       try clear c40
       try clear c40b0
       try clear c40b1
       try clear c41
       try clear c42
       try clear c43
       try clear c44
       try clear c45
       try clear c46
       try clear c49
       try clear c50
       try clear c51
       try clear c53
       try clear c54
       try clear c57
       try clear c58
       try clear c59
       try clear c61
       try clear c62
       try clear c65
       try clear c68
       try clear c75
       try clear c76
       try clear c77
       try clear c80
       try clear c80b0
       try clear c82
       try clear c83
       try clear c83b0
       try clear c83b1
       try clear c84
       try clear c85
       try clear c86
       try clear c88
       try clear c89
       try clear c92
       try clear c93
       try clear c94
       try clear c96
       try clear c97
       try clear c100
       try clear c101
       try clear c102
       try clear c104
       try clear c105
       try clear hcz103_0
       try clear hcz103_1
       try clear hcz106_0
       try clear hcz106_1
       try clear hcz14_0
       try clear hcz14_1
       try clear hcz16_0
       try clear hcz16_1
       try clear hcz22_0
       try clear hcz22_1
       try clear hcz24_0
       try clear hcz24_1
       try clear hcz29_0
       try clear hcz29_1
       try clear hcz36_0
       try clear hcz36_1
       try clear hcz44_0
       try clear hcz44_1
       try clear hcz47_0
       try clear hcz47_1
       try clear hcz52_0
       try clear hcz52_1
       try clear hcz55_0
       try clear hcz55_1
       try clear hcz60_0
       try clear hcz60_1
       try clear hcz63_0
       try clear hcz63_1
       try clear hcz6_0
       try clear hcz6_1
       try clear hcz78_0
       try clear hcz78_1
       try clear hcz87_0
       try clear hcz87_1
       try clear hcz90_0
       try clear hcz90_1
       try clear hcz95_0
       try clear hcz95_1
       try clear hcz98_0
       try clear hcz98_1
       try clear hfz103_0
       try clear hfz103_1
       try clear hfz106_0
       try clear hfz106_1
       try clear hfz14_0
       try clear hfz14_1
       try clear hfz16_0
       try clear hfz16_1
       try clear hfz22_0
       try clear hfz22_1
       try clear hfz24_0
       try clear hfz24_1
       try clear hfz29_0
       try clear hfz29_1
       try clear hfz36_0
       try clear hfz36_1
       try clear hfz44_0
       try clear hfz44_1
       try clear hfz47_0
       try clear hfz47_1
       try clear hfz52_0
       try clear hfz52_1
       try clear hfz55_0
       try clear hfz55_1
       try clear hfz60_0
       try clear hfz60_1
       try clear hfz63_0
       try clear hfz63_1
       try clear hfz6_0
       try clear hfz6_1
       try clear hfz78_0
       try clear hfz78_1
       try clear hfz87_0
       try clear hfz87_1
       try clear hfz90_0
       try clear hfz90_1
       try clear hfz95_0
       try clear hfz95_1
       try clear hfz98_0
       try clear hfz98_1
       try clear p2
       obtain ⟨kq, x80_69, rfl, HA, HJ69, HO_234001, HO_239001, HO_246001, BK221, BK233, BK238, BK245, HB⟩ := hcut
       have hl239001_69 := (Kd.R_reads' HO_239001.out).1
       rw [hl239001_69] at HO_239001
       (try simp only [hl239001_69])
       (try simp only [hl239001_69] at BK221)
       (try simp only [hl239001_69] at BK233)
       (try simp only [hl239001_69] at BK238)
       (try simp only [hl239001_69] at BK245)
       (try simp only [hl239001_69] at HO_234001)
       (try simp only [hl239001_69] at HO_246001)
       cases kq with
       | zero => exact absurd HA.out (by simp [laws_FnExactSlabTake.j1])
       | succ kj69 =>
        have H := HA.out
        clear HA
        simp only [laws_FnExactSlabTake.j1] at H
        by_cases c108 : x80_69 = true
        ·subst c108
         have H1 : (some false) = some r := by rw [if_pos rfl] at H; exact H
         clear H
         have H := H1
         clear H1
         obtain rfl := Option.some.inj H
         go_wp2
         go_ret
         exact ⟨by first | rfl | (simp [errW_none, errW_some] <;> rfl) | (simp [*, errW_none, errW_some] <;> rfl), by repeat (first | (with_reducible first | exact HB.out | apply below_alloc | apply pw_below_drewN | apply below_drew1 | refine below_set ?_ GE221.out | refine below_set ?_ GE233.out | refine below_set ?_ GE238.out | refine below_set ?_ GE245.out) | exact HB.out)⟩
        ·replace c108 := Bool.eq_false_iff.mpr c108
         subst c108
         have H1 : ((laws_markSlab.f kj69 t239 t240 1).bind fun bt255 => ((laws_heldSlab.f kj69 t239 bt255.2 1).bind fun t257 => (if t257 < 0 then (some false) else (if t257 = bt255.1 then ((laws_toSlab.f kj69 a0_0 l0_1).bind fun bt258 => ((impl_SlabTake.f kj69 bt258.1 bt258.2 a1).bind fun bt262 => ((laws_eqSlab.f kj69 bt262.1 bt262.2.1 t227 t228).bind fun t269 => (if t269 = true then (if bt262.2.2.1 = t231 then (laws_FnExactSlabTake.j2 kj69 bt255.1 (bt262.2.2.2 != t232) t239 bt255.2) else (laws_FnExactSlabTake.j2 kj69 bt255.1 true t239 bt255.2)) else (laws_FnExactSlabTake.j2 kj69 bt255.1 true t239 bt255.2))))) else (some false))))) = some r := by rw [if_neg (show ¬ (false = true) by decide)] at H; exact H
         clear H
         have H := H1
         clear H1
         replace H := Option.bind_eq_some_iff.mp H
         obtain ⟨⟨t255, t256⟩, A1090, H⟩ := H
         replace H : ((laws_heldSlab.f kj69 t239 t256 1).bind fun t257 => (if t257 < 0 then (some false) else (if t257 = t255 then ((laws_toSlab.f kj69 a0_0 l0_1).bind fun bt258 => ((impl_SlabTake.f kj69 bt258.1 bt258.2 a1).bind fun bt262 => ((laws_eqSlab.f kj69 bt262.1 bt262.2.1 t227 t228).bind fun t269 => (if t269 = true then (if bt262.2.2.1 = t231 then (laws_FnExactSlabTake.j2 kj69 t255 (bt262.2.2.2 != t232) t239 t256) else (laws_FnExactSlabTake.j2 kj69 t255 true t239 t256)) else (laws_FnExactSlabTake.j2 kj69 t255 true t239 t256))))) else (some false)))) = some r := H
         have A109 := Aside0.mk A1090
         clear A1090
         replace H := Option.bind_eq_some_iff.mp H
         obtain ⟨t257, A1100, H⟩ := H
         replace H : (if t257 < 0 then (some false) else (if t257 = t255 then ((laws_toSlab.f kj69 a0_0 l0_1).bind fun bt258 => ((impl_SlabTake.f kj69 bt258.1 bt258.2 a1).bind fun bt262 => ((laws_eqSlab.f kj69 bt262.1 bt262.2.1 t227 t228).bind fun t269 => (if t269 = true then (if bt262.2.2.1 = t231 then (laws_FnExactSlabTake.j2 kj69 t255 (bt262.2.2.2 != t232) t239 t256) else (laws_FnExactSlabTake.j2 kj69 t255 true t239 t256)) else (laws_FnExactSlabTake.j2 kj69 t255 true t239 t256))))) else (some false))) = some r := H
         have A110 := Aside0.mk A1100
         clear A1100
         by_cases c111 : t257 < 0
         ·rw [if_pos c111] at H
          have c111b0 : decide (t257 < 0) = true := decide_eq_true c111
          have c111b0l := c111b0
          (try simp only [hl239001_69] at c111b0l)
          clear c111
          obtain rfl := Option.some.inj H
          have hnb112 := NB245_221.out
          have hnc112 := NB221_245.out
          have hnb113 := NB245_233.out
          have hnc113 := NB233_245.out
          have hnb114 := NB245_238.out
          have hnc114 := NB238_245.out
          have hcz115_0 : wc.cell? ⟨gb245, 0, none⟩ = some (.int .i64 t239) := (blk_cell BK245.out 0).trans rfl
          have hcz115_1 : wc.cell? ⟨gb245, 1, none⟩ = some (.slice Ao37 t240.length co37) := (blk_cell BK245.out 1).trans rfl
          have hfz115_0 := blk_frozen BK245.out 0
          have hfz115_1 := blk_frozen BK245.out 1
          go_wp2_with (first | ((with_reducible refine gate_callee (f := 20) rfl ?_); refine goesL_ (some 83) rfl rfl Try.func20 (by kernel_rfl) rfl #[.agg #[.int .i64 t239, .slice Ao37 t240.length co37], .int .i64 1] rfl (by (try simp only [List.map_toArray, List.map_cons, List.map_nil]); first | done | rfl | (simp only [List.length_drop, List.length_take]; rfl)) ?_; (with_reducible refine (laws_markSlab.calls kj69 t239 (fun k_ => some k_ = (.slice Ao37 t240.length co37 : Value).ownBlock) (.slice Ao37 t240.length co37) t240 1 t255 t256 w _ ?side1 ?side2 A109.out).mono ?_); (case side1 => repeat (first | (with_reducible first | exact HB.out | apply below_alloc | apply pw_below_drewN | apply below_drew1 | refine below_set ?_ GE221.out | refine below_set ?_ GE233.out | refine below_set ?_ GE238.out | refine below_set ?_ GE245.out) | exact HB.out)); (case side2 => exact Kd.R_tight rfl HO_246001.out); rintro e w116 ⟨rfl, hy0, hb, hkp⟩; refine ⟨_, rfl, ?_⟩; have n0_ := Aside0.mk (Kd.R_mono (ok' := fun k_ => some k_ ≠ (.slice Ao30 t253.length co30 : Value).ownBlock ∧ some k_ ≠ (.slice Ao37 t240.length co37 : Value).ownBlock) (Kd.R_keptB (HO_234001.out) hkp (fun k_ hk_ hs_ => by first | exact (hk_.2) hs_ | grind)) (fun k_ hk_ => by first | exact ⟨hk_.1.1, hk_.1.2⟩ | grind)); have n1_ := Aside0.mk (Kd.R_mono (ok' := fun k_ => some k_ ≠ (.slice Ao23 t228.length co23 : Value).ownBlock ∧ some k_ ≠ (.slice Ao37 t240.length co37 : Value).ownBlock) (Kd.R_keptB (HO_239001.out) hkp (fun k_ hk_ hs_ => by first | exact (hk_.2) hs_ | grind)) (fun k_ hk_ => by first | exact ⟨hk_.1.1, hk_.1.2⟩ | grind)); have n2_ := Aside0.mk (Kd.R_reok rfl hy0 (fun k_ e_ => HO_246001.out.1 k_ e_)); have n3_ := Aside0.mk (blk_kept (by (with_reducible repeat (first | refine blk_drewN ?_ _ | refine blk_drew ?_ | refine blk_alloc ?_ _)); exact BK221.out) hkp (fun hs_ => (fun e_ => (Kd.R_ne HO_246001.out BK221.out (by decide)) e_) hs_)); have n4_ := Aside0.mk (blk_kept (by (with_reducible repeat (first | refine blk_drewN ?_ _ | refine blk_drew ?_ | refine blk_alloc ?_ _)); exact BK233.out) hkp (fun hs_ => (fun e_ => (Kd.R_ne HO_246001.out BK233.out (by decide)) e_) hs_)); have n5_ := Aside0.mk (blk_kept (by (with_reducible repeat (first | refine blk_drewN ?_ _ | refine blk_drew ?_ | refine blk_alloc ?_ _)); exact BK238.out) hkp (fun hs_ => (fun e_ => (Kd.R_ne HO_246001.out BK238.out (by decide)) e_) hs_)); have n6_ := Aside0.mk (blk_kept (by (with_reducible repeat (first | refine blk_drewN ?_ _ | refine blk_drew ?_ | refine blk_alloc ?_ _)); exact BK245.out) hkp (fun hs_ => (fun e_ => (Kd.R_ne HO_246001.out BK245.out (by decide)) e_) hs_)); have n7_ := Aside0.mk (hb); clear HO_234001; clear HO_239001; clear HO_246001; clear BK221; clear BK233; clear BK238; clear BK245; clear HB; have HO_234001 := n0_; have HO_239001 := n1_; have HO_246001 := n2_; have BK221 := n3_; have BK233 := n4_; have BK238 := n5_; have BK245 := n6_; have HB := n7_; clear n0_ n1_ n2_ n3_ n4_ n5_ n6_ n7_; (try clear hb); (try clear hkp); (try clear hy0); have hcz117_0 : w116.cell? ⟨gb245, 0, none⟩ = some (.int .i64 t239) := (blk_cell BK245.out 0).trans rfl; have hcz117_1 : w116.cell? ⟨gb245, 1, none⟩ = some (.slice Ao37 t240.length co37) := (blk_cell BK245.out 1).trans rfl; have hfz117_0 := blk_frozen BK245.out 0; have hfz117_1 := blk_frozen BK245.out 1) | ((with_reducible refine gate_callee (f := 21) rfl ?_); refine goesL_ (some 86) rfl rfl Try.func21 (by kernel_rfl) rfl #[.agg #[.int .i64 t239, .slice Ao37 t256.length co37], .int .i64 1] rfl (by (try simp only [List.map_toArray, List.map_cons, List.map_nil]); first | done | (rw [show t256.length = t240.length from (Kd.R_reads' HO_246001.out).1.symm] <;> rfl) | rfl | (simp only [List.length_drop, List.length_take]; rfl)) ?_; (with_reducible refine (laws_heldSlab.calls kj69 t239 _ _ t256 1 t257 _ ?side1 ?side2 A110.out).mono ?_); (case side1 => repeat (first | exact (Kd.R_reads' HO_246001.out).2.2 | (with_reducible refine Kd.C_alloc ?_ _) | (with_reducible refine Kd.C_drewN ?_ _) | (with_reducible refine Kd.C_drew ?_))); (case side2 => rw [show t256.length = t240.length from (Kd.R_reads' HO_246001.out).1.symm]; exact (Kd.R_reads' HO_246001.out).2.1); rintro e w118 ⟨rfl, hb⟩; refine ⟨_, rfl, ?_⟩; have n0_ := Aside0.mk (Kd.R_below (by (with_reducible repeat (first | apply Kd.R_alloc | apply Kd.R_drewN | apply Kd.R_drew)); exact HO_234001.out) hb); have n1_ := Aside0.mk (Kd.R_below (by (with_reducible repeat (first | apply Kd.R_alloc | apply Kd.R_drewN | apply Kd.R_drew)); exact HO_239001.out) hb); have n2_ := Aside0.mk (Kd.R_below (by (with_reducible repeat (first | apply Kd.R_alloc | apply Kd.R_drewN | apply Kd.R_drew)); exact HO_246001.out) hb); have n3_ := Aside0.mk (blk_below (g := gb221) (o := .cells #[.int .i64 a0_0, .slice A0_1 l0_1.length c0_1] 29 (0, 0)) (by (with_reducible repeat (first | refine blk_drewN ?_ _ | refine blk_drew ?_ | refine blk_alloc ?_ _)); exact BK221.out) hb); have n4_ := Aside0.mk (blk_below (g := gb233) (o := .cells #[.int .i64 t227, .slice Ao23 t228.length co23] 24 (0, 0)) (by (with_reducible repeat (first | refine blk_drewN ?_ _ | refine blk_drew ?_ | refine blk_alloc ?_ _)); exact BK233.out) hb); have n5_ := Aside0.mk (blk_below (g := gb238) (o := .cells #[.int .i64 t234, .slice Ao30 t253.length co30] 24 (0, 0)) (by (with_reducible repeat (first | refine blk_drewN ?_ _ | refine blk_drew ?_ | refine blk_alloc ?_ _)); exact BK238.out) hb); have n6_ := Aside0.mk (blk_below (g := gb245) (o := .cells #[.int .i64 t239, .slice Ao37 t240.length co37] 24 (0, 0)) (by (with_reducible repeat (first | refine blk_drewN ?_ _ | refine blk_drew ?_ | refine blk_alloc ?_ _)); exact BK245.out) hb); have n7_ := Aside0.mk (below_step (by repeat (first | (with_reducible first | exact HB.out | apply below_alloc | apply pw_below_drewN | apply below_drew1 | refine below_set ?_ GE221.out | refine below_set ?_ GE233.out | refine below_set ?_ GE238.out | refine below_set ?_ GE245.out) | exact HB.out)) hb); clear HO_234001; clear HO_239001; clear HO_246001; clear BK221; clear BK233; clear BK238; clear BK245; clear HB; have HO_234001 := n0_; have HO_239001 := n1_; have HO_246001 := n2_; have BK221 := n3_; have BK233 := n4_; have BK238 := n5_; have BK245 := n6_; have HB := n7_; clear n0_ n1_ n2_ n3_ n4_ n5_ n6_ n7_; (try clear hb); (try clear hb2); (try clear hk); (try clear hi)))
          go_ret
          exact ⟨by first | rfl | (simp [errW_none, errW_some] <;> rfl) | (simp [*, errW_none, errW_some] <;> rfl), by repeat (first | (with_reducible first | exact HB.out | apply below_alloc | apply pw_below_drewN | apply below_drew1 | refine below_set ?_ GE221.out | refine below_set ?_ GE233.out | refine below_set ?_ GE238.out | refine below_set ?_ GE245.out) | exact HB.out)⟩
         ·rw [if_neg c111] at H
          have c111b0 : decide (t257 < 0) = false := decide_eq_false c111
          have c111b0l := c111b0
          (try simp only [hl239001_69] at c111b0l)
          clear c111
          by_cases c119 : t257 = t255
          ·rw [if_pos c119] at H
           have c119b0 : (t257 == t255) = true := beq_iff_eq.mpr c119
           have c119b0l := c119b0
           (try simp only [hl239001_69] at c119b0l)
           have c119b1 : (t257 != t255) = false := bne_eq_false_iff_eq.mpr c119
           have c119b1l := c119b1
           (try simp only [hl239001_69] at c119b1l)
           clear c119
           replace H := Option.bind_eq_some_iff.mp H
           obtain ⟨⟨t258, t259⟩, A1200, H⟩ := H
           replace H : ((impl_SlabTake.f kj69 t258 t259 a1).bind fun bt262 => ((laws_eqSlab.f kj69 bt262.1 bt262.2.1 t227 t228).bind fun t269 => (if t269 = true then (if bt262.2.2.1 = t231 then (laws_FnExactSlabTake.j2 kj69 t255 (bt262.2.2.2 != t232) t239 t256) else (laws_FnExactSlabTake.j2 kj69 t255 true t239 t256)) else (laws_FnExactSlabTake.j2 kj69 t255 true t239 t256)))) = some r := H
           have A120 := Aside0.mk A1200
           clear A1200
           replace H := Option.bind_eq_some_iff.mp H
           obtain ⟨⟨t262, t263, t266, t267⟩, A1210, H⟩ := H
           replace H : ((laws_eqSlab.f kj69 t262 t263 t227 t228).bind fun t269 => (if t269 = true then (if t266 = t231 then (laws_FnExactSlabTake.j2 kj69 t255 (t267 != t232) t239 t256) else (laws_FnExactSlabTake.j2 kj69 t255 true t239 t256)) else (laws_FnExactSlabTake.j2 kj69 t255 true t239 t256))) = some r := H
           have A121 := Aside0.mk A1210
           clear A1210
           have HC122 := Aside0.mk H
           clear H
           have hnb123 := NB245_221.out
           have hnc123 := NB221_245.out
           have hnb124 := NB245_233.out
           have hnc124 := NB233_245.out
           have hnb125 := NB245_238.out
           have hnc125 := NB238_245.out
           have hcz126_0 : wc.cell? ⟨gb245, 0, none⟩ = some (.int .i64 t239) := (blk_cell BK245.out 0).trans rfl
           have hcz126_1 : wc.cell? ⟨gb245, 1, none⟩ = some (.slice Ao37 t240.length co37) := (blk_cell BK245.out 1).trans rfl
           have hfz126_0 := blk_frozen BK245.out 0
           have hfz126_1 := blk_frozen BK245.out 1
           go_upto_region 25 with (first | ((with_reducible refine gate_callee (f := 20) rfl ?_); refine goesL_ (some 83) rfl rfl Try.func20 (by kernel_rfl) rfl #[.agg #[.int .i64 t239, .slice Ao37 t240.length co37], .int .i64 1] rfl (by (try simp only [List.map_toArray, List.map_cons, List.map_nil]); first | done | rfl | (simp only [List.length_drop, List.length_take]; rfl)) ?_; (with_reducible refine (laws_markSlab.calls kj69 t239 (fun k_ => some k_ = (.slice Ao37 t240.length co37 : Value).ownBlock) (.slice Ao37 t240.length co37) t240 1 t255 t256 w _ ?side1 ?side2 A109.out).mono ?_); (case side1 => repeat (first | (with_reducible first | exact HB.out | apply below_alloc | apply pw_below_drewN | apply below_drew1 | refine below_set ?_ GE221.out | refine below_set ?_ GE233.out | refine below_set ?_ GE238.out | refine below_set ?_ GE245.out) | exact HB.out)); (case side2 => exact Kd.R_tight rfl HO_246001.out); rintro e w127 ⟨rfl, hy0, hb, hkp⟩; refine ⟨_, rfl, ?_⟩; have n0_ := Aside0.mk (Kd.R_mono (ok' := fun k_ => some k_ ≠ (.slice Ao30 t253.length co30 : Value).ownBlock ∧ some k_ ≠ (.slice Ao37 t240.length co37 : Value).ownBlock) (Kd.R_keptB (HO_234001.out) hkp (fun k_ hk_ hs_ => by first | exact (hk_.2) hs_ | grind)) (fun k_ hk_ => by first | exact ⟨hk_.1.1, hk_.1.2⟩ | grind)); have n1_ := Aside0.mk (Kd.R_mono (ok' := fun k_ => some k_ ≠ (.slice Ao23 t228.length co23 : Value).ownBlock ∧ some k_ ≠ (.slice Ao37 t240.length co37 : Value).ownBlock) (Kd.R_keptB (HO_239001.out) hkp (fun k_ hk_ hs_ => by first | exact (hk_.2) hs_ | grind)) (fun k_ hk_ => by first | exact ⟨hk_.1.1, hk_.1.2⟩ | grind)); have n2_ := Aside0.mk (Kd.R_reok rfl hy0 (fun k_ e_ => HO_246001.out.1 k_ e_)); have n3_ := Aside0.mk (blk_kept (by (with_reducible repeat (first | refine blk_drewN ?_ _ | refine blk_drew ?_ | refine blk_alloc ?_ _)); exact BK221.out) hkp (fun hs_ => (fun e_ => (Kd.R_ne HO_246001.out BK221.out (by decide)) e_) hs_)); have n4_ := Aside0.mk (blk_kept (by (with_reducible repeat (first | refine blk_drewN ?_ _ | refine blk_drew ?_ | refine blk_alloc ?_ _)); exact BK233.out) hkp (fun hs_ => (fun e_ => (Kd.R_ne HO_246001.out BK233.out (by decide)) e_) hs_)); have n5_ := Aside0.mk (blk_kept (by (with_reducible repeat (first | refine blk_drewN ?_ _ | refine blk_drew ?_ | refine blk_alloc ?_ _)); exact BK238.out) hkp (fun hs_ => (fun e_ => (Kd.R_ne HO_246001.out BK238.out (by decide)) e_) hs_)); have n6_ := Aside0.mk (blk_kept (by (with_reducible repeat (first | refine blk_drewN ?_ _ | refine blk_drew ?_ | refine blk_alloc ?_ _)); exact BK245.out) hkp (fun hs_ => (fun e_ => (Kd.R_ne HO_246001.out BK245.out (by decide)) e_) hs_)); have n7_ := Aside0.mk (hb); clear HO_234001; clear HO_239001; clear HO_246001; clear BK221; clear BK233; clear BK238; clear BK245; clear HB; have HO_234001 := n0_; have HO_239001 := n1_; have HO_246001 := n2_; have BK221 := n3_; have BK233 := n4_; have BK238 := n5_; have BK245 := n6_; have HB := n7_; clear n0_ n1_ n2_ n3_ n4_ n5_ n6_ n7_; (try clear hb); (try clear hkp); (try clear hy0); have hcz128_0 : w127.cell? ⟨gb245, 0, none⟩ = some (.int .i64 t239) := (blk_cell BK245.out 0).trans rfl; have hcz128_1 : w127.cell? ⟨gb245, 1, none⟩ = some (.slice Ao37 t240.length co37) := (blk_cell BK245.out 1).trans rfl; have hfz128_0 := blk_frozen BK245.out 0; have hfz128_1 := blk_frozen BK245.out 1) | ((with_reducible refine gate_callee (f := 21) rfl ?_); refine goesL_ (some 86) rfl rfl Try.func21 (by kernel_rfl) rfl #[.agg #[.int .i64 t239, .slice Ao37 t256.length co37], .int .i64 1] rfl (by (try simp only [List.map_toArray, List.map_cons, List.map_nil]); first | done | (rw [show t256.length = t240.length from (Kd.R_reads' HO_246001.out).1.symm] <;> rfl) | rfl | (simp only [List.length_drop, List.length_take]; rfl)) ?_; (with_reducible refine (laws_heldSlab.calls kj69 t239 _ _ t256 1 t257 _ ?side1 ?side2 A110.out).mono ?_); (case side1 => repeat (first | exact (Kd.R_reads' HO_246001.out).2.2 | (with_reducible refine Kd.C_alloc ?_ _) | (with_reducible refine Kd.C_drewN ?_ _) | (with_reducible refine Kd.C_drew ?_))); (case side2 => rw [show t256.length = t240.length from (Kd.R_reads' HO_246001.out).1.symm]; exact (Kd.R_reads' HO_246001.out).2.1); rintro e w129 ⟨rfl, hb⟩; refine ⟨_, rfl, ?_⟩; have n0_ := Aside0.mk (Kd.R_below (by (with_reducible repeat (first | apply Kd.R_alloc | apply Kd.R_drewN | apply Kd.R_drew)); exact HO_234001.out) hb); have n1_ := Aside0.mk (Kd.R_below (by (with_reducible repeat (first | apply Kd.R_alloc | apply Kd.R_drewN | apply Kd.R_drew)); exact HO_239001.out) hb); have n2_ := Aside0.mk (Kd.R_below (by (with_reducible repeat (first | apply Kd.R_alloc | apply Kd.R_drewN | apply Kd.R_drew)); exact HO_246001.out) hb); have n3_ := Aside0.mk (blk_below (g := gb221) (o := .cells #[.int .i64 a0_0, .slice A0_1 l0_1.length c0_1] 29 (0, 0)) (by (with_reducible repeat (first | refine blk_drewN ?_ _ | refine blk_drew ?_ | refine blk_alloc ?_ _)); exact BK221.out) hb); have n4_ := Aside0.mk (blk_below (g := gb233) (o := .cells #[.int .i64 t227, .slice Ao23 t228.length co23] 24 (0, 0)) (by (with_reducible repeat (first | refine blk_drewN ?_ _ | refine blk_drew ?_ | refine blk_alloc ?_ _)); exact BK233.out) hb); have n5_ := Aside0.mk (blk_below (g := gb238) (o := .cells #[.int .i64 t234, .slice Ao30 t253.length co30] 24 (0, 0)) (by (with_reducible repeat (first | refine blk_drewN ?_ _ | refine blk_drew ?_ | refine blk_alloc ?_ _)); exact BK238.out) hb); have n6_ := Aside0.mk (blk_below (g := gb245) (o := .cells #[.int .i64 t239, .slice Ao37 t240.length co37] 24 (0, 0)) (by (with_reducible repeat (first | refine blk_drewN ?_ _ | refine blk_drew ?_ | refine blk_alloc ?_ _)); exact BK245.out) hb); have n7_ := Aside0.mk (below_step (by repeat (first | (with_reducible first | exact HB.out | apply below_alloc | apply pw_below_drewN | apply below_drew1 | refine below_set ?_ GE221.out | refine below_set ?_ GE233.out | refine below_set ?_ GE238.out | refine below_set ?_ GE245.out) | exact HB.out)) hb); clear HO_234001; clear HO_239001; clear HO_246001; clear BK221; clear BK233; clear BK238; clear BK245; clear HB; have HO_234001 := n0_; have HO_239001 := n1_; have HO_246001 := n2_; have BK221 := n3_; have BK233 := n4_; have BK238 := n5_; have BK245 := n6_; have HB := n7_; clear n0_ n1_ n2_ n3_ n4_ n5_ n6_ n7_; (try clear hb); (try clear hb2); (try clear hk); (try clear hi); have hnb130 := NB221_233.out; have hnc130 := NB233_221.out; have hnb131 := NB221_238.out; have hnc131 := NB238_221.out; have hcz132_0 : w129.cell? ⟨gb221, 0, none⟩ = some (.int .i64 a0_0) := (blk_cell BK221.out 0).trans rfl; have hcz132_1 : w129.cell? ⟨gb221, 1, none⟩ = some (.slice A0_1 l0_1.length c0_1) := (blk_cell BK221.out 1).trans rfl; have hfz132_0 := blk_frozen BK221.out 0; have hfz132_1 := blk_frozen BK221.out 1) | ((with_reducible refine gate_callee (f := 24) rfl ?_); refine goesL_ (some 94) rfl rfl Try.func24 (by kernel_rfl) rfl #[.agg #[.int .i64 a0_0, .slice A0_1 l0_1.length c0_1]] rfl (by (try simp only [List.map_toArray, List.map_cons, List.map_nil]); first | done | rfl | (simp only [List.length_drop, List.length_take]; rfl)) ?_; (with_reducible refine (laws_toSlab.calls kj69 a0_0 _ _ l0_1 t258 t259 _ ?side1 ?side2 A120.out).mono ?_); (case side1 => repeat (first | exact (Kd.C_below HR0_1.out HB.out) | (with_reducible refine Kd.C_alloc ?_ _) | (with_reducible refine Kd.C_drewN ?_ _) | (with_reducible refine Kd.C_drew ?_))); (case side2 => exact HC0_1.out); rintro e w133 ⟨v260, rfl, ho0, hb⟩; refine ⟨_, rfl, ?_⟩; have n0_ := Aside0.mk (Kd.R_elder' (by (with_reducible repeat (first | apply Kd.R_alloc | apply Kd.R_drewN | apply Kd.R_drew)); exact HO_234001.out) (Kd.R_base ho0) hb); have n1_ := Aside0.mk (Kd.R_elder' (by (with_reducible repeat (first | apply Kd.R_alloc | apply Kd.R_drewN | apply Kd.R_drew)); exact HO_239001.out) (Kd.R_base ho0) hb); have n2_ := Aside0.mk (Kd.R_elder' (by (with_reducible repeat (first | apply Kd.R_alloc | apply Kd.R_drewN | apply Kd.R_drew)); exact HO_246001.out) (Kd.R_base ho0) hb); have n3_ := Aside0.mk (Kd.R_lower (Kd.R_new' (Kd.R_new' (Kd.R_new' ho0 (Kd.R_lt (by (with_reducible repeat (first | apply Kd.R_alloc | apply Kd.R_drewN | apply Kd.R_drew)); exact HO_234001.out))) (Kd.R_lt (by (with_reducible repeat (first | apply Kd.R_alloc | apply Kd.R_drewN | apply Kd.R_drew)); exact HO_239001.out))) (Kd.R_lt (by (with_reducible repeat (first | apply Kd.R_alloc | apply Kd.R_drewN | apply Kd.R_drew)); exact HO_246001.out))) (below_size (by repeat (first | (with_reducible first | exact HB.out | apply below_alloc | apply pw_below_drewN | apply below_drew1 | refine below_set ?_ GE221.out | refine below_set ?_ GE233.out | refine below_set ?_ GE238.out | refine below_set ?_ GE245.out) | exact HB.out)))); have n4_ := Aside0.mk (blk_below (g := gb221) (o := .cells #[.int .i64 a0_0, .slice A0_1 l0_1.length c0_1] 29 (0, 0)) (by (with_reducible repeat (first | refine blk_drewN ?_ _ | refine blk_drew ?_ | refine blk_alloc ?_ _)); exact BK221.out) hb); have n5_ := Aside0.mk (blk_below (g := gb233) (o := .cells #[.int .i64 t227, .slice Ao23 t228.length co23] 24 (0, 0)) (by (with_reducible repeat (first | refine blk_drewN ?_ _ | refine blk_drew ?_ | refine blk_alloc ?_ _)); exact BK233.out) hb); have n6_ := Aside0.mk (blk_below (g := gb238) (o := .cells #[.int .i64 t234, .slice Ao30 t253.length co30] 24 (0, 0)) (by (with_reducible repeat (first | refine blk_drewN ?_ _ | refine blk_drew ?_ | refine blk_alloc ?_ _)); exact BK238.out) hb); have n7_ := Aside0.mk (blk_below (g := gb245) (o := .cells #[.int .i64 t239, .slice Ao37 t240.length co37] 24 (0, 0)) (by (with_reducible repeat (first | refine blk_drewN ?_ _ | refine blk_drew ?_ | refine blk_alloc ?_ _)); exact BK245.out) hb); have n8_ := Aside0.mk (below_step (by repeat (first | (with_reducible first | exact HB.out | apply below_alloc | apply pw_below_drewN | apply below_drew1 | refine below_set ?_ GE221.out | refine below_set ?_ GE233.out | refine below_set ?_ GE238.out | refine below_set ?_ GE245.out) | exact HB.out)) hb); clear HO_234001; clear HO_239001; clear HO_246001; clear BK221; clear BK233; clear BK238; clear BK245; clear HB; have HO_234001 := n0_; have HO_239001 := n1_; have HO_246001 := n2_; have HO261 := n3_; have BK221 := n4_; have BK233 := n5_; have BK238 := n6_; have BK245 := n7_; have HB := n8_; clear n0_ n1_ n2_ n3_ n4_ n5_ n6_ n7_ n8_; (try clear hb); (try clear hb2); (try clear hk); (try clear hi); (try clear ho0); obtain ⟨Ao134, co134, eo134⟩ := Kd.R_slice HO261.out; subst eo134) | ((with_reducible refine gate_callee (f := 45) rfl ?_); refine goesL_ (some 96) rfl rfl Try.func45 (by kernel_rfl) rfl #[.agg #[.int .i64 t258, .slice Ao134 t259.length co134], .int .i64 a1] rfl (by (try simp only [List.map_toArray, List.map_cons, List.map_nil]); first | done | rfl | (simp only [List.length_drop, List.length_take]; rfl)) ?_; (with_reducible refine (impl_SlabTake.calls kj69 t258 _ _ t259 a1 t262 t263 t266 t267 _ ?side1 ?side2 A121.out).mono ?_); (case side1 => repeat (first | exact (Kd.R_reads' HO261.out).2.2 | (with_reducible refine Kd.C_alloc ?_ _) | (with_reducible refine Kd.C_drewN ?_ _) | (with_reducible refine Kd.C_drew ?_))); (case side2 => exact (Kd.R_reads' HO261.out).2.1); rintro e w135 ⟨v264, rfl, ho0, hb⟩; refine ⟨_, rfl, ?_⟩; have n0_ := Aside0.mk (Kd.R_elder' (by (with_reducible repeat (first | apply Kd.R_alloc | apply Kd.R_drewN | apply Kd.R_drew)); exact HO_234001.out) (Kd.R_base ho0) hb); have n1_ := Aside0.mk (Kd.R_elder' (by (with_reducible repeat (first | apply Kd.R_alloc | apply Kd.R_drewN | apply Kd.R_drew)); exact HO_239001.out) (Kd.R_base ho0) hb); have n2_ := Aside0.mk (Kd.R_elder' (by (with_reducible repeat (first | apply Kd.R_alloc | apply Kd.R_drewN | apply Kd.R_drew)); exact HO_246001.out) (Kd.R_base ho0) hb); have n3_ := Aside0.mk (Kd.R_elder' (by (with_reducible repeat (first | apply Kd.R_alloc | apply Kd.R_drewN | apply Kd.R_drew)); exact HO261.out) (Kd.R_base ho0) hb); have n4_ := Aside0.mk (Kd.R_lower (Kd.R_new' (Kd.R_new' (Kd.R_new' (Kd.R_new' ho0 (Kd.R_lt (by (with_reducible repeat (first | apply Kd.R_alloc | apply Kd.R_drewN | apply Kd.R_drew)); exact HO_234001.out))) (Kd.R_lt (by (with_reducible repeat (first | apply Kd.R_alloc | apply Kd.R_drewN | apply Kd.R_drew)); exact HO_239001.out))) (Kd.R_lt (by (with_reducible repeat (first | apply Kd.R_alloc | apply Kd.R_drewN | apply Kd.R_drew)); exact HO_246001.out))) (Kd.R_lt (by (with_reducible repeat (first | apply Kd.R_alloc | apply Kd.R_drewN | apply Kd.R_drew)); exact HO261.out))) (below_size (by repeat (first | (with_reducible first | exact HB.out | apply below_alloc | apply pw_below_drewN | apply below_drew1 | refine below_set ?_ GE221.out | refine below_set ?_ GE233.out | refine below_set ?_ GE238.out | refine below_set ?_ GE245.out) | exact HB.out)))); have n5_ := Aside0.mk (blk_below (g := gb221) (o := .cells #[.int .i64 a0_0, .slice A0_1 l0_1.length c0_1] 29 (0, 0)) (by (with_reducible repeat (first | refine blk_drewN ?_ _ | refine blk_drew ?_ | refine blk_alloc ?_ _)); exact BK221.out) hb); have n6_ := Aside0.mk (blk_below (g := gb233) (o := .cells #[.int .i64 t227, .slice Ao23 t228.length co23] 24 (0, 0)) (by (with_reducible repeat (first | refine blk_drewN ?_ _ | refine blk_drew ?_ | refine blk_alloc ?_ _)); exact BK233.out) hb); have n7_ := Aside0.mk (blk_below (g := gb238) (o := .cells #[.int .i64 t234, .slice Ao30 t253.length co30] 24 (0, 0)) (by (with_reducible repeat (first | refine blk_drewN ?_ _ | refine blk_drew ?_ | refine blk_alloc ?_ _)); exact BK238.out) hb); have n8_ := Aside0.mk (blk_below (g := gb245) (o := .cells #[.int .i64 t239, .slice Ao37 t240.length co37] 24 (0, 0)) (by (with_reducible repeat (first | refine blk_drewN ?_ _ | refine blk_drew ?_ | refine blk_alloc ?_ _)); exact BK245.out) hb); have n9_ := Aside0.mk (below_step (by repeat (first | (with_reducible first | exact HB.out | apply below_alloc | apply pw_below_drewN | apply below_drew1 | refine below_set ?_ GE221.out | refine below_set ?_ GE233.out | refine below_set ?_ GE238.out | refine below_set ?_ GE245.out) | exact HB.out)) hb); clear HO_234001; clear HO_239001; clear HO_246001; clear HO261; clear BK221; clear BK233; clear BK238; clear BK245; clear HB; have HO_234001 := n0_; have HO_239001 := n1_; have HO_246001 := n2_; have HO261 := n3_; have HO265 := n4_; have BK221 := n5_; have BK233 := n6_; have BK238 := n7_; have BK245 := n8_; have HB := n9_; clear n0_ n1_ n2_ n3_ n4_ n5_ n6_ n7_ n8_ n9_; (try clear hb); (try clear hb2); (try clear hk); (try clear hi); (try clear ho0)) | ((with_reducible refine gate_dst (N := 16) rfl ?_); refine box_event ?hg (N := 16) ?hd (cs := #[.int .i64 0, .slice none 0 0]) (t := 24) ?hr ?_; (case hd => rfl); (case hg => rfl); (case hr => first | (go_simp; done) | (go_simp; rfl)); intro gb268 hg w136 hbox hb; have n0_ := Aside0.mk (Kd.R_below (by (with_reducible repeat (first | apply Kd.R_alloc | apply Kd.R_drewN | apply Kd.R_drew)); exact HO_234001.out) hb); have n1_ := Aside0.mk (Kd.R_below (by (with_reducible repeat (first | apply Kd.R_alloc | apply Kd.R_drewN | apply Kd.R_drew)); exact HO_239001.out) hb); have n2_ := Aside0.mk (Kd.R_below (by (with_reducible repeat (first | apply Kd.R_alloc | apply Kd.R_drewN | apply Kd.R_drew)); exact HO_246001.out) hb); have n3_ := Aside0.mk (Kd.R_below (by (with_reducible repeat (first | apply Kd.R_alloc | apply Kd.R_drewN | apply Kd.R_drew)); exact HO261.out) hb); have n4_ := Aside0.mk (Kd.R_below (by (with_reducible repeat (first | apply Kd.R_alloc | apply Kd.R_drewN | apply Kd.R_drew)); exact HO265.out) hb); have n5_ := Aside0.mk (blk_below (g := gb221) (o := .cells #[.int .i64 a0_0, .slice A0_1 l0_1.length c0_1] 29 (0, 0)) (by (with_reducible repeat (first | refine blk_drewN ?_ _ | refine blk_drew ?_ | refine blk_alloc ?_ _)); exact BK221.out) hb); have n6_ := Aside0.mk (blk_below (g := gb233) (o := .cells #[.int .i64 t227, .slice Ao23 t228.length co23] 24 (0, 0)) (by (with_reducible repeat (first | refine blk_drewN ?_ _ | refine blk_drew ?_ | refine blk_alloc ?_ _)); exact BK233.out) hb); have n7_ := Aside0.mk (blk_below (g := gb238) (o := .cells #[.int .i64 t234, .slice Ao30 t253.length co30] 24 (0, 0)) (by (with_reducible repeat (first | refine blk_drewN ?_ _ | refine blk_drew ?_ | refine blk_alloc ?_ _)); exact BK238.out) hb); have n8_ := Aside0.mk (blk_below (g := gb245) (o := .cells #[.int .i64 t239, .slice Ao37 t240.length co37] 24 (0, 0)) (by (with_reducible repeat (first | refine blk_drewN ?_ _ | refine blk_drew ?_ | refine blk_alloc ?_ _)); exact BK245.out) hb); have n9_ := Aside0.mk (below_step (by repeat (first | (with_reducible first | exact HB.out | apply below_alloc | apply pw_below_drewN | apply below_drew1 | refine below_set ?_ GE221.out | refine below_set ?_ GE233.out | refine below_set ?_ GE238.out | refine below_set ?_ GE245.out) | exact HB.out)) hb); have n10_ := Aside0.mk (hbox); have n11_ := Aside0.mk ((by rw [hg]; exact (below_size (by repeat (first | (with_reducible first | exact HB.out | apply below_alloc | apply pw_below_drewN | apply below_drew1 | refine below_set ?_ GE221.out | refine below_set ?_ GE233.out | refine below_set ?_ GE238.out | refine below_set ?_ GE245.out) | exact HB.out))) : w.heap.size ≤ gb268)); have n12_ := Aside0.mk ((by rw [hg]; exact (below_size (by repeat (first | (with_reducible first | exact HB.out | apply below_alloc | apply pw_below_drewN | apply below_drew1 | refine below_set ?_ GE221.out | refine below_set ?_ GE233.out | refine below_set ?_ GE238.out | refine below_set ?_ GE245.out) | exact HB.out))) : w.heap.size ≤ gb268)); have n13_ := Aside0.mk ((by rw [hg]; exact Nat.ne_of_lt (blk_lt (g := gb221) (o := .cells #[.int .i64 a0_0, .slice A0_1 l0_1.length c0_1] 29 (0, 0)) (by (with_reducible repeat (first | refine blk_drewN ?_ _ | refine blk_drew ?_ | refine blk_alloc ?_ _)); exact BK221.out)) : gb221 ≠ gb268)); have n14_ := Aside0.mk ((by rw [hg]; exact Nat.ne_of_gt (blk_lt (g := gb221) (o := .cells #[.int .i64 a0_0, .slice A0_1 l0_1.length c0_1] 29 (0, 0)) (by (with_reducible repeat (first | refine blk_drewN ?_ _ | refine blk_drew ?_ | refine blk_alloc ?_ _)); exact BK221.out)) : gb268 ≠ gb221)); have n15_ := Aside0.mk ((by rw [hg]; exact Nat.ne_of_lt (blk_lt (g := gb233) (o := .cells #[.int .i64 t227, .slice Ao23 t228.length co23] 24 (0, 0)) (by (with_reducible repeat (first | refine blk_drewN ?_ _ | refine blk_drew ?_ | refine blk_alloc ?_ _)); exact BK233.out)) : gb233 ≠ gb268)); have n16_ := Aside0.mk ((by rw [hg]; exact Nat.ne_of_gt (blk_lt (g := gb233) (o := .cells #[.int .i64 t227, .slice Ao23 t228.length co23] 24 (0, 0)) (by (with_reducible repeat (first | refine blk_drewN ?_ _ | refine blk_drew ?_ | refine blk_alloc ?_ _)); exact BK233.out)) : gb268 ≠ gb233)); have n17_ := Aside0.mk ((by rw [hg]; exact Nat.ne_of_lt (blk_lt (g := gb238) (o := .cells #[.int .i64 t234, .slice Ao30 t253.length co30] 24 (0, 0)) (by (with_reducible repeat (first | refine blk_drewN ?_ _ | refine blk_drew ?_ | refine blk_alloc ?_ _)); exact BK238.out)) : gb238 ≠ gb268)); have n18_ := Aside0.mk ((by rw [hg]; exact Nat.ne_of_gt (blk_lt (g := gb238) (o := .cells #[.int .i64 t234, .slice Ao30 t253.length co30] 24 (0, 0)) (by (with_reducible repeat (first | refine blk_drewN ?_ _ | refine blk_drew ?_ | refine blk_alloc ?_ _)); exact BK238.out)) : gb268 ≠ gb238)); have n19_ := Aside0.mk ((by rw [hg]; exact Nat.ne_of_lt (blk_lt (g := gb245) (o := .cells #[.int .i64 t239, .slice Ao37 t240.length co37] 24 (0, 0)) (by (with_reducible repeat (first | refine blk_drewN ?_ _ | refine blk_drew ?_ | refine blk_alloc ?_ _)); exact BK245.out)) : gb245 ≠ gb268)); have n20_ := Aside0.mk ((by rw [hg]; exact Nat.ne_of_gt (blk_lt (g := gb245) (o := .cells #[.int .i64 t239, .slice Ao37 t240.length co37] 24 (0, 0)) (by (with_reducible repeat (first | refine blk_drewN ?_ _ | refine blk_drew ?_ | refine blk_alloc ?_ _)); exact BK245.out)) : gb268 ≠ gb245)); clear HO_234001; clear HO_239001; clear HO_246001; clear HO261; clear HO265; clear BK221; clear BK233; clear BK238; clear BK245; clear HB; have HO_234001 := n0_; have HO_239001 := n1_; have HO_246001 := n2_; have HO261 := n3_; have HO265 := n4_; have BK221 := n5_; have BK233 := n6_; have BK238 := n7_; have BK245 := n8_; have HB := n9_; have BK268 := n10_; have GW268 := n11_; have GE268 := n12_; have NB221_268 := n13_; have NB268_221 := n14_; have NB233_268 := n15_; have NB268_233 := n16_; have NB238_268 := n17_; have NB268_238 := n18_; have NB245_268 := n19_; have NB268_245 := n20_; clear n0_ n1_ n2_ n3_ n4_ n5_ n6_ n7_ n8_ n9_ n10_ n11_ n12_ n13_ n14_ n15_ n16_ n17_ n18_ n19_ n20_; clear hb hbox hg; have hnb137 := NB268_221.out; have hnc137 := NB221_268.out; have hnb138 := NB268_233.out; have hnc138 := NB233_268.out; have hnb139 := NB268_238.out; have hnc139 := NB238_268.out; have hnb140 := NB268_245.out; have hnc140 := NB245_268.out; have hcz141_0 : w136.cell? ⟨gb268, 0, none⟩ = some (.int .i64 0) := (blk_cell BK268.out 0).trans rfl; have hcz141_1 : w136.cell? ⟨gb268, 1, none⟩ = some (.slice none 0 0) := (blk_cell BK268.out 1).trans rfl; have hfz141_0 := blk_frozen BK268.out 0; have hfz141_1 := blk_frozen BK268.out 1; obtain ⟨Ao142, co142, eo142⟩ := Kd.R_slice HO265.out; subst eo142))
           (try simp only [Act.put, List.setIfInBounds_toArray, List.set_cons_zero, List.set_cons_succ])
           go_cut [113] (fun v113 wc => ∃ (kq : Nat) (x113_121 : Bool), v113 = .bool x113_121 ∧ Aside0 (laws_FnExactSlabTake.j2 kq t255 x113_121 t239 t256 = some r) ∧ Aside0 (kq ≤ kj69) ∧ Aside0 (Kd.R (Kd.int .i64) 3 wc w.heap.size (fun k_ => some k_ ≠ ((.slice Ao30 t253.length co30) : Value).ownBlock ∧ some k_ ≠ ((.slice Ao37 t240.length co37) : Value).ownBlock ∧ some k_ ≠ ((.slice Ao142 t263.length co142) : Value).ownBlock) (.slice Ao23 t228.length co23) t228) ∧ Aside0 (Kd.R (Kd.int .i64) 3 wc w.heap.size (fun k_ => some k_ ≠ ((.slice Ao23 t228.length co23) : Value).ownBlock ∧ some k_ ≠ ((.slice Ao37 t240.length co37) : Value).ownBlock ∧ some k_ ≠ ((.slice Ao142 t263.length co142) : Value).ownBlock) (.slice Ao30 t253.length co30) t253) ∧ Aside0 (Kd.R (Kd.int .i64) 3 wc w.heap.size (fun k_ => some k_ ≠ ((.slice Ao23 t228.length co23) : Value).ownBlock ∧ some k_ ≠ ((.slice Ao30 t253.length co30) : Value).ownBlock ∧ some k_ ≠ ((.slice Ao142 t263.length co142) : Value).ownBlock) (.slice Ao37 t240.length co37) t256) ∧ Aside0 (Kd.R (Kd.int .i64) 3 wc w.heap.size (fun k_ => some k_ ≠ ((.slice Ao23 t228.length co23) : Value).ownBlock ∧ some k_ ≠ ((.slice Ao30 t253.length co30) : Value).ownBlock ∧ some k_ ≠ ((.slice Ao37 t240.length co37) : Value).ownBlock) (.slice Ao142 t263.length co142) t263) ∧ Aside0 (wc.heap[gb221]? = some (.cells #[.int .i64 a0_0, (.slice A0_1 l0_1.length c0_1)] 29 (0, 0))) ∧ Aside0 (wc.heap[gb233]? = some (.cells #[.int .i64 t227, (.slice Ao23 t228.length co23)] 24 (0, 0))) ∧ Aside0 (wc.heap[gb238]? = some (.cells #[.int .i64 t234, (.slice Ao30 t253.length co30)] 24 (0, 0))) ∧ Aside0 (wc.heap[gb245]? = some (.cells #[.int .i64 t239, (.slice Ao37 t240.length co37)] 24 (0, 0))) ∧ Aside0 (wc.heap[gb268]? = some (.cells #[.int .i64 t262, (.slice Ao142 t263.length co142)] 24 (0, 0))) ∧ Aside0 (Below w.heap.size w wc))
           case first =>
            have H := HC122.out
            clear HC122
            replace H := Option.bind_eq_some_iff.mp H
            obtain ⟨t269, A1430, H⟩ := H
            replace H : (if t269 = true then (if t266 = t231 then (laws_FnExactSlabTake.j2 kj69 t255 (t267 != t232) t239 t256) else (laws_FnExactSlabTake.j2 kj69 t255 true t239 t256)) else (laws_FnExactSlabTake.j2 kj69 t255 true t239 t256)) = some r := H
            have A143 := Aside0.mk A1430
            clear A1430
            by_cases c144 : t269 = true
            ·subst c144
             have H1 : (if t266 = t231 then (laws_FnExactSlabTake.j2 kj69 t255 (t267 != t232) t239 t256) else (laws_FnExactSlabTake.j2 kj69 t255 true t239 t256)) = some r := by rw [if_pos rfl] at H; exact H
             clear H
             have H := H1
             clear H1
             by_cases c145 : t266 = t231
             ·rw [if_pos c145] at H
              have c145b0 : (t266 == t231) = true := beq_iff_eq.mpr c145
              have c145b0l := c145b0
              (try simp only [hl239001_69] at c145b0l)
              have c145b1 : (t266 != t231) = false := bne_eq_false_iff_eq.mpr c145
              have c145b1l := c145b1
              (try simp only [hl239001_69] at c145b1l)
              clear c145
              (first | rw [c145b0] | (simp only [i64_w, i32_w]; rw [c145b0]) | skip)
              have H' := Aside0.mk H
              clear H
              have hnb146 := NB268_221.out
              have hnc146 := NB221_268.out
              have hnb147 := NB268_233.out
              have hnc147 := NB233_268.out
              have hnb148 := NB268_238.out
              have hnc148 := NB238_268.out
              have hnb149 := NB268_245.out
              have hnc149 := NB245_268.out
              have hcz150_0 : w136.cell? ⟨gb268, 0, none⟩ = some (.int .i64 0) := (blk_cell BK268.out 0).trans rfl
              have hcz150_1 : w136.cell? ⟨gb268, 1, none⟩ = some (.slice none 0 0) := (blk_cell BK268.out 1).trans rfl
              have hfz150_0 := blk_frozen BK268.out 0
              have hfz150_1 := blk_frozen BK268.out 1
              have hnb151 := NB233_221.out
              have hnc151 := NB221_233.out
              have hnb152 := NB233_238.out
              have hnc152 := NB238_233.out
              have hnb153 := NB233_245.out
              have hnc153 := NB245_233.out
              have hcz154_0 : w136.cell? ⟨gb233, 0, none⟩ = some (.int .i64 t227) := (blk_cell BK233.out 0).trans rfl
              have hcz154_1 : w136.cell? ⟨gb233, 1, none⟩ = some (.slice Ao23 t228.length co23) := (blk_cell BK233.out 1).trans rfl
              have hfz154_0 := blk_frozen BK233.out 0
              have hfz154_1 := blk_frozen BK233.out 1
              go_wp2_with (first | ((with_reducible refine gate_callee (f := 19) rfl ?_); refine goesL_ (some 102) rfl rfl Try.func19 (by kernel_rfl) rfl #[.agg #[.int .i64 t262, .slice Ao142 t263.length co142], .agg #[.int .i64 t227, .slice Ao23 t228.length co23]] rfl (by (try simp only [List.map_toArray, List.map_cons, List.map_nil]); first | done | rfl | (simp only [List.length_drop, List.length_take]; rfl)) ?_; (with_reducible refine (laws_eqSlab.calls kj69 t262 _ _ t263 t227 _ _ t228 true _ ?side1 ?side2 ?side3 ?side4 A143.out).mono ?_); (case side1 => refine (Kd.R_reads' (e := 3) (base := w.heap.size) (ok := fun k_ => ((((True ∧ some k_ ≠ (.slice Ao23 t228.length co23 : Value).ownBlock) ∧ some k_ ≠ (.slice Ao30 t253.length co30 : Value).ownBlock) ∧ some k_ ≠ (.slice Ao37 t240.length co37 : Value).ownBlock) ∧ some k_ ≠ (.slice Ao134 t259.length co134 : Value).ownBlock)) (n := t263.length) (c := co142) ?_).2.2; exact (by (with_reducible repeat (first | apply Kd.R_alloc | apply Kd.R_drewN | apply Kd.R_drew)); exact (Kd.R_mono (Kd.R_far (p := ⟨gb268, 1, none⟩) (Kd.R_far (p := ⟨gb268, 0, none⟩) (Kd.R_types HO265.out BK268.out (by decide)) (fun _ hk => by first | exact hk.2 | grind) (.int .i64 t262)) (fun _ hk => by first | exact hk.2 | grind) (.slice Ao142 t263.length co142)) (fun _ h_ => h_.1)))); (case side2 => exact (Kd.R_reads' HO265.out).2.1); (case side3 => refine (Kd.R_reads' (e := 3) (base := w.heap.size) (ok := fun k_ => (((some k_ ≠ (.slice Ao30 t253.length co30 : Value).ownBlock ∧ some k_ ≠ (.slice Ao37 t240.length co37 : Value).ownBlock) ∧ some k_ ≠ (.slice Ao134 t259.length co134 : Value).ownBlock) ∧ some k_ ≠ (.slice Ao142 t263.length co142 : Value).ownBlock)) (n := t228.length) (c := co23) ?_).2.2; exact (by (with_reducible repeat (first | apply Kd.R_alloc | apply Kd.R_drewN | apply Kd.R_drew)); exact (Kd.R_mono (Kd.R_far (p := ⟨gb268, 1, none⟩) (Kd.R_far (p := ⟨gb268, 0, none⟩) (Kd.R_types HO_234001.out BK268.out (by decide)) (fun _ hk => by first | exact hk.2 | grind) (.int .i64 t262)) (fun _ hk => by first | exact hk.2 | grind) (.slice Ao142 t263.length co142)) (fun _ h_ => h_.1)))); (case side4 => exact (Kd.R_reads' HO_234001.out).2.1); rintro e w155 ⟨rfl, hb⟩; refine ⟨_, rfl, ?_⟩; have n0_ := Aside0.mk (Kd.R_below (by (with_reducible repeat (first | apply Kd.R_alloc | apply Kd.R_drewN | apply Kd.R_drew)); exact (Kd.R_mono (Kd.R_far (p := ⟨gb268, 1, none⟩) (Kd.R_far (p := ⟨gb268, 0, none⟩) (Kd.R_types HO_234001.out BK268.out (by decide)) (fun _ hk => by first | exact hk.2 | grind) (.int .i64 t262)) (fun _ hk => by first | exact hk.2 | grind) (.slice Ao142 t263.length co142)) (fun _ h_ => h_.1))) hb); have n1_ := Aside0.mk (Kd.R_below (by (with_reducible repeat (first | apply Kd.R_alloc | apply Kd.R_drewN | apply Kd.R_drew)); exact (Kd.R_mono (Kd.R_far (p := ⟨gb268, 1, none⟩) (Kd.R_far (p := ⟨gb268, 0, none⟩) (Kd.R_types HO_239001.out BK268.out (by decide)) (fun _ hk => by first | exact hk.2 | grind) (.int .i64 t262)) (fun _ hk => by first | exact hk.2 | grind) (.slice Ao142 t263.length co142)) (fun _ h_ => h_.1))) hb); have n2_ := Aside0.mk (Kd.R_below (by (with_reducible repeat (first | apply Kd.R_alloc | apply Kd.R_drewN | apply Kd.R_drew)); exact (Kd.R_mono (Kd.R_far (p := ⟨gb268, 1, none⟩) (Kd.R_far (p := ⟨gb268, 0, none⟩) (Kd.R_types HO_246001.out BK268.out (by decide)) (fun _ hk => by first | exact hk.2 | grind) (.int .i64 t262)) (fun _ hk => by first | exact hk.2 | grind) (.slice Ao142 t263.length co142)) (fun _ h_ => h_.1))) hb); have n3_ := Aside0.mk (Kd.R_below (by (with_reducible repeat (first | apply Kd.R_alloc | apply Kd.R_drewN | apply Kd.R_drew)); exact (Kd.R_mono (Kd.R_far (p := ⟨gb268, 1, none⟩) (Kd.R_far (p := ⟨gb268, 0, none⟩) (Kd.R_types HO261.out BK268.out (by decide)) (fun _ hk => by first | exact hk.2 | grind) (.int .i64 t262)) (fun _ hk => by first | exact hk.2 | grind) (.slice Ao142 t263.length co142)) (fun _ h_ => h_.1))) hb); have n4_ := Aside0.mk (Kd.R_below (by (with_reducible repeat (first | apply Kd.R_alloc | apply Kd.R_drewN | apply Kd.R_drew)); exact (Kd.R_mono (Kd.R_far (p := ⟨gb268, 1, none⟩) (Kd.R_far (p := ⟨gb268, 0, none⟩) (Kd.R_types HO265.out BK268.out (by decide)) (fun _ hk => by first | exact hk.2 | grind) (.int .i64 t262)) (fun _ hk => by first | exact hk.2 | grind) (.slice Ao142 t263.length co142)) (fun _ h_ => h_.1))) hb); have n5_ := Aside0.mk (blk_below (g := gb221) (o := .cells #[.int .i64 a0_0, .slice A0_1 l0_1.length c0_1] 29 (0, 0)) (by (with_reducible repeat (first | refine blk_drewN ?_ _ | refine blk_drew ?_ | refine blk_alloc ?_ _)); refine blk_far ?_ NB221_268.out _; (with_reducible repeat (first | refine blk_drewN ?_ _ | refine blk_drew ?_ | refine blk_alloc ?_ _)); refine blk_far ?_ NB221_268.out _; (with_reducible repeat (first | refine blk_drewN ?_ _ | refine blk_drew ?_ | refine blk_alloc ?_ _)); exact BK221.out) hb); have n6_ := Aside0.mk (blk_below (g := gb233) (o := .cells #[.int .i64 t227, .slice Ao23 t228.length co23] 24 (0, 0)) (by (with_reducible repeat (first | refine blk_drewN ?_ _ | refine blk_drew ?_ | refine blk_alloc ?_ _)); refine blk_far ?_ NB233_268.out _; (with_reducible repeat (first | refine blk_drewN ?_ _ | refine blk_drew ?_ | refine blk_alloc ?_ _)); refine blk_far ?_ NB233_268.out _; (with_reducible repeat (first | refine blk_drewN ?_ _ | refine blk_drew ?_ | refine blk_alloc ?_ _)); exact BK233.out) hb); have n7_ := Aside0.mk (blk_below (g := gb238) (o := .cells #[.int .i64 t234, .slice Ao30 t253.length co30] 24 (0, 0)) (by (with_reducible repeat (first | refine blk_drewN ?_ _ | refine blk_drew ?_ | refine blk_alloc ?_ _)); refine blk_far ?_ NB238_268.out _; (with_reducible repeat (first | refine blk_drewN ?_ _ | refine blk_drew ?_ | refine blk_alloc ?_ _)); refine blk_far ?_ NB238_268.out _; (with_reducible repeat (first | refine blk_drewN ?_ _ | refine blk_drew ?_ | refine blk_alloc ?_ _)); exact BK238.out) hb); have n8_ := Aside0.mk (blk_below (g := gb245) (o := .cells #[.int .i64 t239, .slice Ao37 t240.length co37] 24 (0, 0)) (by (with_reducible repeat (first | refine blk_drewN ?_ _ | refine blk_drew ?_ | refine blk_alloc ?_ _)); refine blk_far ?_ NB245_268.out _; (with_reducible repeat (first | refine blk_drewN ?_ _ | refine blk_drew ?_ | refine blk_alloc ?_ _)); refine blk_far ?_ NB245_268.out _; (with_reducible repeat (first | refine blk_drewN ?_ _ | refine blk_drew ?_ | refine blk_alloc ?_ _)); exact BK245.out) hb); have n9_ := Aside0.mk (blk_below (g := gb268) (o := .cells #[.int .i64 t262, .slice Ao142 t263.length co142] 24 (0, 0)) (by (with_reducible repeat (first | refine blk_drewN ?_ _ | refine blk_drew ?_ | refine blk_alloc ?_ _)); refine blk_put (cs := #[.int .i64 t262, .slice none 0 0]) ?_ 1 _ rfl; (with_reducible repeat (first | refine blk_drewN ?_ _ | refine blk_drew ?_ | refine blk_alloc ?_ _)); refine blk_put (cs := #[.int .i64 0, .slice none 0 0]) ?_ 0 _ rfl; (with_reducible repeat (first | refine blk_drewN ?_ _ | refine blk_drew ?_ | refine blk_alloc ?_ _)); exact BK268.out) hb); have n10_ := Aside0.mk (below_step (by repeat (first | (with_reducible first | exact HB.out | apply below_alloc | apply pw_below_drewN | apply below_drew1 | refine below_set ?_ GE221.out | refine below_set ?_ GE233.out | refine below_set ?_ GE238.out | refine below_set ?_ GE245.out | refine below_set ?_ GE268.out) | exact HB.out)) hb); clear HO_234001; clear HO_239001; clear HO_246001; clear HO261; clear HO265; clear BK221; clear BK233; clear BK238; clear BK245; clear BK268; clear HB; have HO_234001 := n0_; have HO_239001 := n1_; have HO_246001 := n2_; have HO261 := n3_; have HO265 := n4_; have BK221 := n5_; have BK233 := n6_; have BK238 := n7_; have BK245 := n8_; have BK268 := n9_; have HB := n10_; clear n0_ n1_ n2_ n3_ n4_ n5_ n6_ n7_ n8_ n9_ n10_; (try clear hb); (try clear hb2); (try clear hk); (try clear hi)))
              go_meet
              case rel => exact ⟨_, ((t267 != t232)), (by first | rfl | (simp; done) | (simp [*]; done)), H', ⟨by have := HJ11.out; have := HJ69.out; first | omega | exact Nat.le_refl _⟩, ⟨by (try simp only [hl239001_69]); (with_reducible repeat (first | apply Kd.R_alloc | apply Kd.R_drewN | apply Kd.R_drew)); exact Kd.R_mono HO_234001.out (fun _ hk => by first | exact ⟨hk.1.1.1, ⟨hk.1.1.2, hk.2⟩⟩ | grind)⟩, ⟨by (try simp only [hl239001_69]); (with_reducible repeat (first | apply Kd.R_alloc | apply Kd.R_drewN | apply Kd.R_drew)); exact Kd.R_mono HO_239001.out (fun _ hk => by first | exact ⟨hk.1.1.1, ⟨hk.1.1.2, hk.2⟩⟩ | grind)⟩, ⟨by (try simp only [hl239001_69]); (with_reducible repeat (first | apply Kd.R_alloc | apply Kd.R_drewN | apply Kd.R_drew)); exact Kd.R_mono HO_246001.out (fun _ hk => by first | exact ⟨hk.1.1.1, ⟨hk.1.1.2, hk.2⟩⟩ | grind)⟩, ⟨by (try simp only [hl239001_69]); (with_reducible repeat (first | apply Kd.R_alloc | apply Kd.R_drewN | apply Kd.R_drew)); exact Kd.R_mono HO265.out (fun _ hk => by first | exact ⟨hk.1.1.1.2, ⟨hk.1.1.2, hk.1.2⟩⟩ | grind)⟩, ⟨by (try simp only [hl239001_69]); (with_reducible repeat (first | refine blk_drewN ?_ _ | refine blk_drew ?_ | refine blk_alloc ?_ _)); exact BK221.out⟩, ⟨by (try simp only [hl239001_69]); (with_reducible repeat (first | refine blk_drewN ?_ _ | refine blk_drew ?_ | refine blk_alloc ?_ _)); exact BK233.out⟩, ⟨by (try simp only [hl239001_69]); (with_reducible repeat (first | refine blk_drewN ?_ _ | refine blk_drew ?_ | refine blk_alloc ?_ _)); exact BK238.out⟩, ⟨by (try simp only [hl239001_69]); (with_reducible repeat (first | refine blk_drewN ?_ _ | refine blk_drew ?_ | refine blk_alloc ?_ _)); exact BK245.out⟩, ⟨by (try simp only [hl239001_69]); (with_reducible repeat (first | refine blk_drewN ?_ _ | refine blk_drew ?_ | refine blk_alloc ?_ _)); exact BK268.out⟩, ⟨by repeat (first | (with_reducible first | exact HB.out | apply below_alloc | apply pw_below_drewN | apply below_drew1 | refine below_set ?_ GE221.out | refine below_set ?_ GE233.out | refine below_set ?_ GE238.out | refine below_set ?_ GE245.out | refine below_set ?_ GE268.out) | exact HB.out)⟩⟩
             ·rw [if_neg c145] at H
              have c145b0 : (t266 == t231) = false := beq_eq_false_iff_ne.mpr c145
              have c145b0l := c145b0
              (try simp only [hl239001_69] at c145b0l)
              have c145b1 : (t266 != t231) = true := bne_iff_ne.mpr c145
              have c145b1l := c145b1
              (try simp only [hl239001_69] at c145b1l)
              (first | rw [c145b0] | (simp only [i64_w, i32_w]; rw [c145b0]) | skip)
              have H' := Aside0.mk H
              clear H
              have hnb156 := NB268_221.out
              have hnc156 := NB221_268.out
              have hnb157 := NB268_233.out
              have hnc157 := NB233_268.out
              have hnb158 := NB268_238.out
              have hnc158 := NB238_268.out
              have hnb159 := NB268_245.out
              have hnc159 := NB245_268.out
              have hcz160_0 : w136.cell? ⟨gb268, 0, none⟩ = some (.int .i64 0) := (blk_cell BK268.out 0).trans rfl
              have hcz160_1 : w136.cell? ⟨gb268, 1, none⟩ = some (.slice none 0 0) := (blk_cell BK268.out 1).trans rfl
              have hfz160_0 := blk_frozen BK268.out 0
              have hfz160_1 := blk_frozen BK268.out 1
              have hnb161 := NB233_221.out
              have hnc161 := NB221_233.out
              have hnb162 := NB233_238.out
              have hnc162 := NB238_233.out
              have hnb163 := NB233_245.out
              have hnc163 := NB245_233.out
              have hcz164_0 : w136.cell? ⟨gb233, 0, none⟩ = some (.int .i64 t227) := (blk_cell BK233.out 0).trans rfl
              have hcz164_1 : w136.cell? ⟨gb233, 1, none⟩ = some (.slice Ao23 t228.length co23) := (blk_cell BK233.out 1).trans rfl
              have hfz164_0 := blk_frozen BK233.out 0
              have hfz164_1 := blk_frozen BK233.out 1
              go_wp2_with (first | ((with_reducible refine gate_callee (f := 19) rfl ?_); refine goesL_ (some 102) rfl rfl Try.func19 (by kernel_rfl) rfl #[.agg #[.int .i64 t262, .slice Ao142 t263.length co142], .agg #[.int .i64 t227, .slice Ao23 t228.length co23]] rfl (by (try simp only [List.map_toArray, List.map_cons, List.map_nil]); first | done | rfl | (simp only [List.length_drop, List.length_take]; rfl)) ?_; (with_reducible refine (laws_eqSlab.calls kj69 t262 _ _ t263 t227 _ _ t228 true _ ?side1 ?side2 ?side3 ?side4 A143.out).mono ?_); (case side1 => refine (Kd.R_reads' (e := 3) (base := w.heap.size) (ok := fun k_ => ((((True ∧ some k_ ≠ (.slice Ao23 t228.length co23 : Value).ownBlock) ∧ some k_ ≠ (.slice Ao30 t253.length co30 : Value).ownBlock) ∧ some k_ ≠ (.slice Ao37 t240.length co37 : Value).ownBlock) ∧ some k_ ≠ (.slice Ao134 t259.length co134 : Value).ownBlock)) (n := t263.length) (c := co142) ?_).2.2; exact (by (with_reducible repeat (first | apply Kd.R_alloc | apply Kd.R_drewN | apply Kd.R_drew)); exact (Kd.R_mono (Kd.R_far (p := ⟨gb268, 1, none⟩) (Kd.R_far (p := ⟨gb268, 0, none⟩) (Kd.R_types HO265.out BK268.out (by decide)) (fun _ hk => by first | exact hk.2 | grind) (.int .i64 t262)) (fun _ hk => by first | exact hk.2 | grind) (.slice Ao142 t263.length co142)) (fun _ h_ => h_.1)))); (case side2 => exact (Kd.R_reads' HO265.out).2.1); (case side3 => refine (Kd.R_reads' (e := 3) (base := w.heap.size) (ok := fun k_ => (((some k_ ≠ (.slice Ao30 t253.length co30 : Value).ownBlock ∧ some k_ ≠ (.slice Ao37 t240.length co37 : Value).ownBlock) ∧ some k_ ≠ (.slice Ao134 t259.length co134 : Value).ownBlock) ∧ some k_ ≠ (.slice Ao142 t263.length co142 : Value).ownBlock)) (n := t228.length) (c := co23) ?_).2.2; exact (by (with_reducible repeat (first | apply Kd.R_alloc | apply Kd.R_drewN | apply Kd.R_drew)); exact (Kd.R_mono (Kd.R_far (p := ⟨gb268, 1, none⟩) (Kd.R_far (p := ⟨gb268, 0, none⟩) (Kd.R_types HO_234001.out BK268.out (by decide)) (fun _ hk => by first | exact hk.2 | grind) (.int .i64 t262)) (fun _ hk => by first | exact hk.2 | grind) (.slice Ao142 t263.length co142)) (fun _ h_ => h_.1)))); (case side4 => exact (Kd.R_reads' HO_234001.out).2.1); rintro e w165 ⟨rfl, hb⟩; refine ⟨_, rfl, ?_⟩; have n0_ := Aside0.mk (Kd.R_below (by (with_reducible repeat (first | apply Kd.R_alloc | apply Kd.R_drewN | apply Kd.R_drew)); exact (Kd.R_mono (Kd.R_far (p := ⟨gb268, 1, none⟩) (Kd.R_far (p := ⟨gb268, 0, none⟩) (Kd.R_types HO_234001.out BK268.out (by decide)) (fun _ hk => by first | exact hk.2 | grind) (.int .i64 t262)) (fun _ hk => by first | exact hk.2 | grind) (.slice Ao142 t263.length co142)) (fun _ h_ => h_.1))) hb); have n1_ := Aside0.mk (Kd.R_below (by (with_reducible repeat (first | apply Kd.R_alloc | apply Kd.R_drewN | apply Kd.R_drew)); exact (Kd.R_mono (Kd.R_far (p := ⟨gb268, 1, none⟩) (Kd.R_far (p := ⟨gb268, 0, none⟩) (Kd.R_types HO_239001.out BK268.out (by decide)) (fun _ hk => by first | exact hk.2 | grind) (.int .i64 t262)) (fun _ hk => by first | exact hk.2 | grind) (.slice Ao142 t263.length co142)) (fun _ h_ => h_.1))) hb); have n2_ := Aside0.mk (Kd.R_below (by (with_reducible repeat (first | apply Kd.R_alloc | apply Kd.R_drewN | apply Kd.R_drew)); exact (Kd.R_mono (Kd.R_far (p := ⟨gb268, 1, none⟩) (Kd.R_far (p := ⟨gb268, 0, none⟩) (Kd.R_types HO_246001.out BK268.out (by decide)) (fun _ hk => by first | exact hk.2 | grind) (.int .i64 t262)) (fun _ hk => by first | exact hk.2 | grind) (.slice Ao142 t263.length co142)) (fun _ h_ => h_.1))) hb); have n3_ := Aside0.mk (Kd.R_below (by (with_reducible repeat (first | apply Kd.R_alloc | apply Kd.R_drewN | apply Kd.R_drew)); exact (Kd.R_mono (Kd.R_far (p := ⟨gb268, 1, none⟩) (Kd.R_far (p := ⟨gb268, 0, none⟩) (Kd.R_types HO261.out BK268.out (by decide)) (fun _ hk => by first | exact hk.2 | grind) (.int .i64 t262)) (fun _ hk => by first | exact hk.2 | grind) (.slice Ao142 t263.length co142)) (fun _ h_ => h_.1))) hb); have n4_ := Aside0.mk (Kd.R_below (by (with_reducible repeat (first | apply Kd.R_alloc | apply Kd.R_drewN | apply Kd.R_drew)); exact (Kd.R_mono (Kd.R_far (p := ⟨gb268, 1, none⟩) (Kd.R_far (p := ⟨gb268, 0, none⟩) (Kd.R_types HO265.out BK268.out (by decide)) (fun _ hk => by first | exact hk.2 | grind) (.int .i64 t262)) (fun _ hk => by first | exact hk.2 | grind) (.slice Ao142 t263.length co142)) (fun _ h_ => h_.1))) hb); have n5_ := Aside0.mk (blk_below (g := gb221) (o := .cells #[.int .i64 a0_0, .slice A0_1 l0_1.length c0_1] 29 (0, 0)) (by (with_reducible repeat (first | refine blk_drewN ?_ _ | refine blk_drew ?_ | refine blk_alloc ?_ _)); refine blk_far ?_ NB221_268.out _; (with_reducible repeat (first | refine blk_drewN ?_ _ | refine blk_drew ?_ | refine blk_alloc ?_ _)); refine blk_far ?_ NB221_268.out _; (with_reducible repeat (first | refine blk_drewN ?_ _ | refine blk_drew ?_ | refine blk_alloc ?_ _)); exact BK221.out) hb); have n6_ := Aside0.mk (blk_below (g := gb233) (o := .cells #[.int .i64 t227, .slice Ao23 t228.length co23] 24 (0, 0)) (by (with_reducible repeat (first | refine blk_drewN ?_ _ | refine blk_drew ?_ | refine blk_alloc ?_ _)); refine blk_far ?_ NB233_268.out _; (with_reducible repeat (first | refine blk_drewN ?_ _ | refine blk_drew ?_ | refine blk_alloc ?_ _)); refine blk_far ?_ NB233_268.out _; (with_reducible repeat (first | refine blk_drewN ?_ _ | refine blk_drew ?_ | refine blk_alloc ?_ _)); exact BK233.out) hb); have n7_ := Aside0.mk (blk_below (g := gb238) (o := .cells #[.int .i64 t234, .slice Ao30 t253.length co30] 24 (0, 0)) (by (with_reducible repeat (first | refine blk_drewN ?_ _ | refine blk_drew ?_ | refine blk_alloc ?_ _)); refine blk_far ?_ NB238_268.out _; (with_reducible repeat (first | refine blk_drewN ?_ _ | refine blk_drew ?_ | refine blk_alloc ?_ _)); refine blk_far ?_ NB238_268.out _; (with_reducible repeat (first | refine blk_drewN ?_ _ | refine blk_drew ?_ | refine blk_alloc ?_ _)); exact BK238.out) hb); have n8_ := Aside0.mk (blk_below (g := gb245) (o := .cells #[.int .i64 t239, .slice Ao37 t240.length co37] 24 (0, 0)) (by (with_reducible repeat (first | refine blk_drewN ?_ _ | refine blk_drew ?_ | refine blk_alloc ?_ _)); refine blk_far ?_ NB245_268.out _; (with_reducible repeat (first | refine blk_drewN ?_ _ | refine blk_drew ?_ | refine blk_alloc ?_ _)); refine blk_far ?_ NB245_268.out _; (with_reducible repeat (first | refine blk_drewN ?_ _ | refine blk_drew ?_ | refine blk_alloc ?_ _)); exact BK245.out) hb); have n9_ := Aside0.mk (blk_below (g := gb268) (o := .cells #[.int .i64 t262, .slice Ao142 t263.length co142] 24 (0, 0)) (by (with_reducible repeat (first | refine blk_drewN ?_ _ | refine blk_drew ?_ | refine blk_alloc ?_ _)); refine blk_put (cs := #[.int .i64 t262, .slice none 0 0]) ?_ 1 _ rfl; (with_reducible repeat (first | refine blk_drewN ?_ _ | refine blk_drew ?_ | refine blk_alloc ?_ _)); refine blk_put (cs := #[.int .i64 0, .slice none 0 0]) ?_ 0 _ rfl; (with_reducible repeat (first | refine blk_drewN ?_ _ | refine blk_drew ?_ | refine blk_alloc ?_ _)); exact BK268.out) hb); have n10_ := Aside0.mk (below_step (by repeat (first | (with_reducible first | exact HB.out | apply below_alloc | apply pw_below_drewN | apply below_drew1 | refine below_set ?_ GE221.out | refine below_set ?_ GE233.out | refine below_set ?_ GE238.out | refine below_set ?_ GE245.out | refine below_set ?_ GE268.out) | exact HB.out)) hb); clear HO_234001; clear HO_239001; clear HO_246001; clear HO261; clear HO265; clear BK221; clear BK233; clear BK238; clear BK245; clear BK268; clear HB; have HO_234001 := n0_; have HO_239001 := n1_; have HO_246001 := n2_; have HO261 := n3_; have HO265 := n4_; have BK221 := n5_; have BK233 := n6_; have BK238 := n7_; have BK245 := n8_; have BK268 := n9_; have HB := n10_; clear n0_ n1_ n2_ n3_ n4_ n5_ n6_ n7_ n8_ n9_ n10_; (try clear hb); (try clear hb2); (try clear hk); (try clear hi)))
              go_meet
              case rel => exact ⟨_, (true), (by first | rfl | (simp; done) | (simp [*]; done)), H', ⟨by have := HJ11.out; have := HJ69.out; first | omega | exact Nat.le_refl _⟩, ⟨by (try simp only [hl239001_69]); (with_reducible repeat (first | apply Kd.R_alloc | apply Kd.R_drewN | apply Kd.R_drew)); exact Kd.R_mono HO_234001.out (fun _ hk => by first | exact ⟨hk.1.1.1, ⟨hk.1.1.2, hk.2⟩⟩ | grind)⟩, ⟨by (try simp only [hl239001_69]); (with_reducible repeat (first | apply Kd.R_alloc | apply Kd.R_drewN | apply Kd.R_drew)); exact Kd.R_mono HO_239001.out (fun _ hk => by first | exact ⟨hk.1.1.1, ⟨hk.1.1.2, hk.2⟩⟩ | grind)⟩, ⟨by (try simp only [hl239001_69]); (with_reducible repeat (first | apply Kd.R_alloc | apply Kd.R_drewN | apply Kd.R_drew)); exact Kd.R_mono HO_246001.out (fun _ hk => by first | exact ⟨hk.1.1.1, ⟨hk.1.1.2, hk.2⟩⟩ | grind)⟩, ⟨by (try simp only [hl239001_69]); (with_reducible repeat (first | apply Kd.R_alloc | apply Kd.R_drewN | apply Kd.R_drew)); exact Kd.R_mono HO265.out (fun _ hk => by first | exact ⟨hk.1.1.1.2, ⟨hk.1.1.2, hk.1.2⟩⟩ | grind)⟩, ⟨by (try simp only [hl239001_69]); (with_reducible repeat (first | refine blk_drewN ?_ _ | refine blk_drew ?_ | refine blk_alloc ?_ _)); exact BK221.out⟩, ⟨by (try simp only [hl239001_69]); (with_reducible repeat (first | refine blk_drewN ?_ _ | refine blk_drew ?_ | refine blk_alloc ?_ _)); exact BK233.out⟩, ⟨by (try simp only [hl239001_69]); (with_reducible repeat (first | refine blk_drewN ?_ _ | refine blk_drew ?_ | refine blk_alloc ?_ _)); exact BK238.out⟩, ⟨by (try simp only [hl239001_69]); (with_reducible repeat (first | refine blk_drewN ?_ _ | refine blk_drew ?_ | refine blk_alloc ?_ _)); exact BK245.out⟩, ⟨by (try simp only [hl239001_69]); (with_reducible repeat (first | refine blk_drewN ?_ _ | refine blk_drew ?_ | refine blk_alloc ?_ _)); exact BK268.out⟩, ⟨by repeat (first | (with_reducible first | exact HB.out | apply below_alloc | apply pw_below_drewN | apply below_drew1 | refine below_set ?_ GE221.out | refine below_set ?_ GE233.out | refine below_set ?_ GE238.out | refine below_set ?_ GE245.out | refine below_set ?_ GE268.out) | exact HB.out)⟩⟩
            ·replace c144 := Bool.eq_false_iff.mpr c144
             subst c144
             have H1 : (laws_FnExactSlabTake.j2 kj69 t255 true t239 t256) = some r := by rw [if_neg (show ¬ (false = true) by decide)] at H; exact H
             clear H
             have H := H1
             clear H1
             have H' := Aside0.mk H
             clear H
             have hnb166 := NB268_221.out
             have hnc166 := NB221_268.out
             have hnb167 := NB268_233.out
             have hnc167 := NB233_268.out
             have hnb168 := NB268_238.out
             have hnc168 := NB238_268.out
             have hnb169 := NB268_245.out
             have hnc169 := NB245_268.out
             have hcz170_0 : w136.cell? ⟨gb268, 0, none⟩ = some (.int .i64 0) := (blk_cell BK268.out 0).trans rfl
             have hcz170_1 : w136.cell? ⟨gb268, 1, none⟩ = some (.slice none 0 0) := (blk_cell BK268.out 1).trans rfl
             have hfz170_0 := blk_frozen BK268.out 0
             have hfz170_1 := blk_frozen BK268.out 1
             have hnb171 := NB233_221.out
             have hnc171 := NB221_233.out
             have hnb172 := NB233_238.out
             have hnc172 := NB238_233.out
             have hnb173 := NB233_245.out
             have hnc173 := NB245_233.out
             have hcz174_0 : w136.cell? ⟨gb233, 0, none⟩ = some (.int .i64 t227) := (blk_cell BK233.out 0).trans rfl
             have hcz174_1 : w136.cell? ⟨gb233, 1, none⟩ = some (.slice Ao23 t228.length co23) := (blk_cell BK233.out 1).trans rfl
             have hfz174_0 := blk_frozen BK233.out 0
             have hfz174_1 := blk_frozen BK233.out 1
             go_wp2_with (first | ((with_reducible refine gate_callee (f := 19) rfl ?_); refine goesL_ (some 102) rfl rfl Try.func19 (by kernel_rfl) rfl #[.agg #[.int .i64 t262, .slice Ao142 t263.length co142], .agg #[.int .i64 t227, .slice Ao23 t228.length co23]] rfl (by (try simp only [List.map_toArray, List.map_cons, List.map_nil]); first | done | rfl | (simp only [List.length_drop, List.length_take]; rfl)) ?_; (with_reducible refine (laws_eqSlab.calls kj69 t262 _ _ t263 t227 _ _ t228 false _ ?side1 ?side2 ?side3 ?side4 A143.out).mono ?_); (case side1 => refine (Kd.R_reads' (e := 3) (base := w.heap.size) (ok := fun k_ => ((((True ∧ some k_ ≠ (.slice Ao23 t228.length co23 : Value).ownBlock) ∧ some k_ ≠ (.slice Ao30 t253.length co30 : Value).ownBlock) ∧ some k_ ≠ (.slice Ao37 t240.length co37 : Value).ownBlock) ∧ some k_ ≠ (.slice Ao134 t259.length co134 : Value).ownBlock)) (n := t263.length) (c := co142) ?_).2.2; exact (by (with_reducible repeat (first | apply Kd.R_alloc | apply Kd.R_drewN | apply Kd.R_drew)); exact (Kd.R_mono (Kd.R_far (p := ⟨gb268, 1, none⟩) (Kd.R_far (p := ⟨gb268, 0, none⟩) (Kd.R_types HO265.out BK268.out (by decide)) (fun _ hk => by first | exact hk.2 | grind) (.int .i64 t262)) (fun _ hk => by first | exact hk.2 | grind) (.slice Ao142 t263.length co142)) (fun _ h_ => h_.1)))); (case side2 => exact (Kd.R_reads' HO265.out).2.1); (case side3 => refine (Kd.R_reads' (e := 3) (base := w.heap.size) (ok := fun k_ => (((some k_ ≠ (.slice Ao30 t253.length co30 : Value).ownBlock ∧ some k_ ≠ (.slice Ao37 t240.length co37 : Value).ownBlock) ∧ some k_ ≠ (.slice Ao134 t259.length co134 : Value).ownBlock) ∧ some k_ ≠ (.slice Ao142 t263.length co142 : Value).ownBlock)) (n := t228.length) (c := co23) ?_).2.2; exact (by (with_reducible repeat (first | apply Kd.R_alloc | apply Kd.R_drewN | apply Kd.R_drew)); exact (Kd.R_mono (Kd.R_far (p := ⟨gb268, 1, none⟩) (Kd.R_far (p := ⟨gb268, 0, none⟩) (Kd.R_types HO_234001.out BK268.out (by decide)) (fun _ hk => by first | exact hk.2 | grind) (.int .i64 t262)) (fun _ hk => by first | exact hk.2 | grind) (.slice Ao142 t263.length co142)) (fun _ h_ => h_.1)))); (case side4 => exact (Kd.R_reads' HO_234001.out).2.1); rintro e w175 ⟨rfl, hb⟩; refine ⟨_, rfl, ?_⟩; have n0_ := Aside0.mk (Kd.R_below (by (with_reducible repeat (first | apply Kd.R_alloc | apply Kd.R_drewN | apply Kd.R_drew)); exact (Kd.R_mono (Kd.R_far (p := ⟨gb268, 1, none⟩) (Kd.R_far (p := ⟨gb268, 0, none⟩) (Kd.R_types HO_234001.out BK268.out (by decide)) (fun _ hk => by first | exact hk.2 | grind) (.int .i64 t262)) (fun _ hk => by first | exact hk.2 | grind) (.slice Ao142 t263.length co142)) (fun _ h_ => h_.1))) hb); have n1_ := Aside0.mk (Kd.R_below (by (with_reducible repeat (first | apply Kd.R_alloc | apply Kd.R_drewN | apply Kd.R_drew)); exact (Kd.R_mono (Kd.R_far (p := ⟨gb268, 1, none⟩) (Kd.R_far (p := ⟨gb268, 0, none⟩) (Kd.R_types HO_239001.out BK268.out (by decide)) (fun _ hk => by first | exact hk.2 | grind) (.int .i64 t262)) (fun _ hk => by first | exact hk.2 | grind) (.slice Ao142 t263.length co142)) (fun _ h_ => h_.1))) hb); have n2_ := Aside0.mk (Kd.R_below (by (with_reducible repeat (first | apply Kd.R_alloc | apply Kd.R_drewN | apply Kd.R_drew)); exact (Kd.R_mono (Kd.R_far (p := ⟨gb268, 1, none⟩) (Kd.R_far (p := ⟨gb268, 0, none⟩) (Kd.R_types HO_246001.out BK268.out (by decide)) (fun _ hk => by first | exact hk.2 | grind) (.int .i64 t262)) (fun _ hk => by first | exact hk.2 | grind) (.slice Ao142 t263.length co142)) (fun _ h_ => h_.1))) hb); have n3_ := Aside0.mk (Kd.R_below (by (with_reducible repeat (first | apply Kd.R_alloc | apply Kd.R_drewN | apply Kd.R_drew)); exact (Kd.R_mono (Kd.R_far (p := ⟨gb268, 1, none⟩) (Kd.R_far (p := ⟨gb268, 0, none⟩) (Kd.R_types HO261.out BK268.out (by decide)) (fun _ hk => by first | exact hk.2 | grind) (.int .i64 t262)) (fun _ hk => by first | exact hk.2 | grind) (.slice Ao142 t263.length co142)) (fun _ h_ => h_.1))) hb); have n4_ := Aside0.mk (Kd.R_below (by (with_reducible repeat (first | apply Kd.R_alloc | apply Kd.R_drewN | apply Kd.R_drew)); exact (Kd.R_mono (Kd.R_far (p := ⟨gb268, 1, none⟩) (Kd.R_far (p := ⟨gb268, 0, none⟩) (Kd.R_types HO265.out BK268.out (by decide)) (fun _ hk => by first | exact hk.2 | grind) (.int .i64 t262)) (fun _ hk => by first | exact hk.2 | grind) (.slice Ao142 t263.length co142)) (fun _ h_ => h_.1))) hb); have n5_ := Aside0.mk (blk_below (g := gb221) (o := .cells #[.int .i64 a0_0, .slice A0_1 l0_1.length c0_1] 29 (0, 0)) (by (with_reducible repeat (first | refine blk_drewN ?_ _ | refine blk_drew ?_ | refine blk_alloc ?_ _)); refine blk_far ?_ NB221_268.out _; (with_reducible repeat (first | refine blk_drewN ?_ _ | refine blk_drew ?_ | refine blk_alloc ?_ _)); refine blk_far ?_ NB221_268.out _; (with_reducible repeat (first | refine blk_drewN ?_ _ | refine blk_drew ?_ | refine blk_alloc ?_ _)); exact BK221.out) hb); have n6_ := Aside0.mk (blk_below (g := gb233) (o := .cells #[.int .i64 t227, .slice Ao23 t228.length co23] 24 (0, 0)) (by (with_reducible repeat (first | refine blk_drewN ?_ _ | refine blk_drew ?_ | refine blk_alloc ?_ _)); refine blk_far ?_ NB233_268.out _; (with_reducible repeat (first | refine blk_drewN ?_ _ | refine blk_drew ?_ | refine blk_alloc ?_ _)); refine blk_far ?_ NB233_268.out _; (with_reducible repeat (first | refine blk_drewN ?_ _ | refine blk_drew ?_ | refine blk_alloc ?_ _)); exact BK233.out) hb); have n7_ := Aside0.mk (blk_below (g := gb238) (o := .cells #[.int .i64 t234, .slice Ao30 t253.length co30] 24 (0, 0)) (by (with_reducible repeat (first | refine blk_drewN ?_ _ | refine blk_drew ?_ | refine blk_alloc ?_ _)); refine blk_far ?_ NB238_268.out _; (with_reducible repeat (first | refine blk_drewN ?_ _ | refine blk_drew ?_ | refine blk_alloc ?_ _)); refine blk_far ?_ NB238_268.out _; (with_reducible repeat (first | refine blk_drewN ?_ _ | refine blk_drew ?_ | refine blk_alloc ?_ _)); exact BK238.out) hb); have n8_ := Aside0.mk (blk_below (g := gb245) (o := .cells #[.int .i64 t239, .slice Ao37 t240.length co37] 24 (0, 0)) (by (with_reducible repeat (first | refine blk_drewN ?_ _ | refine blk_drew ?_ | refine blk_alloc ?_ _)); refine blk_far ?_ NB245_268.out _; (with_reducible repeat (first | refine blk_drewN ?_ _ | refine blk_drew ?_ | refine blk_alloc ?_ _)); refine blk_far ?_ NB245_268.out _; (with_reducible repeat (first | refine blk_drewN ?_ _ | refine blk_drew ?_ | refine blk_alloc ?_ _)); exact BK245.out) hb); have n9_ := Aside0.mk (blk_below (g := gb268) (o := .cells #[.int .i64 t262, .slice Ao142 t263.length co142] 24 (0, 0)) (by (with_reducible repeat (first | refine blk_drewN ?_ _ | refine blk_drew ?_ | refine blk_alloc ?_ _)); refine blk_put (cs := #[.int .i64 t262, .slice none 0 0]) ?_ 1 _ rfl; (with_reducible repeat (first | refine blk_drewN ?_ _ | refine blk_drew ?_ | refine blk_alloc ?_ _)); refine blk_put (cs := #[.int .i64 0, .slice none 0 0]) ?_ 0 _ rfl; (with_reducible repeat (first | refine blk_drewN ?_ _ | refine blk_drew ?_ | refine blk_alloc ?_ _)); exact BK268.out) hb); have n10_ := Aside0.mk (below_step (by repeat (first | (with_reducible first | exact HB.out | apply below_alloc | apply pw_below_drewN | apply below_drew1 | refine below_set ?_ GE221.out | refine below_set ?_ GE233.out | refine below_set ?_ GE238.out | refine below_set ?_ GE245.out | refine below_set ?_ GE268.out) | exact HB.out)) hb); clear HO_234001; clear HO_239001; clear HO_246001; clear HO261; clear HO265; clear BK221; clear BK233; clear BK238; clear BK245; clear BK268; clear HB; have HO_234001 := n0_; have HO_239001 := n1_; have HO_246001 := n2_; have HO261 := n3_; have HO265 := n4_; have BK221 := n5_; have BK233 := n6_; have BK238 := n7_; have BK245 := n8_; have BK268 := n9_; have HB := n10_; clear n0_ n1_ n2_ n3_ n4_ n5_ n6_ n7_ n8_ n9_ n10_; (try clear hb); (try clear hb2); (try clear hk); (try clear hi)))
             go_meet
             case rel => exact ⟨_, (true), (by first | rfl | (simp; done) | (simp [*]; done)), H', ⟨by have := HJ11.out; have := HJ69.out; first | omega | exact Nat.le_refl _⟩, ⟨by (try simp only [hl239001_69]); (with_reducible repeat (first | apply Kd.R_alloc | apply Kd.R_drewN | apply Kd.R_drew)); exact Kd.R_mono HO_234001.out (fun _ hk => by first | exact ⟨hk.1.1.1, ⟨hk.1.1.2, hk.2⟩⟩ | grind)⟩, ⟨by (try simp only [hl239001_69]); (with_reducible repeat (first | apply Kd.R_alloc | apply Kd.R_drewN | apply Kd.R_drew)); exact Kd.R_mono HO_239001.out (fun _ hk => by first | exact ⟨hk.1.1.1, ⟨hk.1.1.2, hk.2⟩⟩ | grind)⟩, ⟨by (try simp only [hl239001_69]); (with_reducible repeat (first | apply Kd.R_alloc | apply Kd.R_drewN | apply Kd.R_drew)); exact Kd.R_mono HO_246001.out (fun _ hk => by first | exact ⟨hk.1.1.1, ⟨hk.1.1.2, hk.2⟩⟩ | grind)⟩, ⟨by (try simp only [hl239001_69]); (with_reducible repeat (first | apply Kd.R_alloc | apply Kd.R_drewN | apply Kd.R_drew)); exact Kd.R_mono HO265.out (fun _ hk => by first | exact ⟨hk.1.1.1.2, ⟨hk.1.1.2, hk.1.2⟩⟩ | grind)⟩, ⟨by (try simp only [hl239001_69]); (with_reducible repeat (first | refine blk_drewN ?_ _ | refine blk_drew ?_ | refine blk_alloc ?_ _)); exact BK221.out⟩, ⟨by (try simp only [hl239001_69]); (with_reducible repeat (first | refine blk_drewN ?_ _ | refine blk_drew ?_ | refine blk_alloc ?_ _)); exact BK233.out⟩, ⟨by (try simp only [hl239001_69]); (with_reducible repeat (first | refine blk_drewN ?_ _ | refine blk_drew ?_ | refine blk_alloc ?_ _)); exact BK238.out⟩, ⟨by (try simp only [hl239001_69]); (with_reducible repeat (first | refine blk_drewN ?_ _ | refine blk_drew ?_ | refine blk_alloc ?_ _)); exact BK245.out⟩, ⟨by (try simp only [hl239001_69]); (with_reducible repeat (first | refine blk_drewN ?_ _ | refine blk_drew ?_ | refine blk_alloc ?_ _)); exact BK268.out⟩, ⟨by repeat (first | (with_reducible first | exact HB.out | apply below_alloc | apply pw_below_drewN | apply below_drew1 | refine below_set ?_ GE221.out | refine below_set ?_ GE233.out | refine below_set ?_ GE238.out | refine below_set ?_ GE245.out | refine below_set ?_ GE268.out) | exact HB.out)⟩⟩
           case rest =>
            clear HC122
            try clear c1
            try clear c2
            try clear p2
            try clear c3
            try clear c4
            try clear c4b0
            try clear c5
            try clear c6
            try clear c7
            try clear c8
            try clear c9
            try clear c10
            try clear c11
            try clear c12
            try clear c13
            try clear c14
            try clear c15
            try clear c16
            try clear c17
            try clear c19
            try clear c20
            try clear c21
            try clear c22
            try clear c24
            try clear c27
            try clear c28
            try clear c33
            try clear c34
            try clear c35
            try clear c39
            try clear c40
            try clear c40b0
            try clear c40b1
            try clear c41
            try clear c42
            try clear c43
            try clear c44
            try clear c45
            try clear c46
            try clear c49
            try clear c50
            try clear c51
            try clear c53
            try clear c54
            try clear c57
            try clear c58
            try clear c59
            try clear c61
            try clear c62
            try clear c65
            try clear c68
            try clear c75
            try clear c76
            try clear c77
            try clear c80
            try clear c80b0
            try clear c82
            try clear c83
            try clear c83b0
            try clear c83b1
            try clear c84
            try clear c85
            try clear c86
            try clear c88
            try clear c89
            try clear c92
            try clear c93
            try clear c94
            try clear c96
            try clear c97
            try clear c100
            try clear c101
            try clear c102
            try clear c104
            try clear c105
            try clear c108
            try clear c111
            try clear c111b0
            try clear c112
            try clear c113
            try clear c114
            try clear c119
            try clear c119b0
            try clear c119b1
            try clear c123
            try clear c124
            try clear c125
            try clear c130
            try clear c131
            try clear c137
            try clear c138
            try clear c139
            try clear c140
            try clear c144
            try clear c145
            try clear c145b0
            try clear c145b1
            try clear c146
            try clear c147
            try clear c148
            try clear c149
            try clear c151
            try clear c152
            try clear c153
            try clear c156
            try clear c157
            try clear c158
            try clear c159
            try clear c161
            try clear c162
            try clear c163
            try clear c166
            try clear c167
            try clear c168
            try clear c169
            try clear c171
            try clear c172
            try clear c173
            try clear hcz103_0
            try clear hcz103_1
            try clear hcz106_0
            try clear hcz106_1
            try clear hcz115_0
            try clear hcz115_1
            try clear hcz117_0
            try clear hcz117_1
            try clear hcz126_0
            try clear hcz126_1
            try clear hcz128_0
            try clear hcz128_1
            try clear hcz132_0
            try clear hcz132_1
            try clear hcz141_0
            try clear hcz141_1
            try clear hcz14_0
            try clear hcz14_1
            try clear hcz150_0
            try clear hcz150_1
            try clear hcz154_0
            try clear hcz154_1
            try clear hcz160_0
            try clear hcz160_1
            try clear hcz164_0
            try clear hcz164_1
            try clear hcz16_0
            try clear hcz16_1
            try clear hcz170_0
            try clear hcz170_1
            try clear hcz174_0
            try clear hcz174_1
            try clear hcz22_0
            try clear hcz22_1
            try clear hcz24_0
            try clear hcz24_1
            try clear hcz29_0
            try clear hcz29_1
            try clear hcz36_0
            try clear hcz36_1
            try clear hcz44_0
            try clear hcz44_1
            try clear hcz47_0
            try clear hcz47_1
            try clear hcz52_0
            try clear hcz52_1
            try clear hcz55_0
            try clear hcz55_1
            try clear hcz60_0
            try clear hcz60_1
            try clear hcz63_0
            try clear hcz63_1
            try clear hcz6_0
            try clear hcz6_1
            try clear hcz78_0
            try clear hcz78_1
            try clear hcz87_0
            try clear hcz87_1
            try clear hcz90_0
            try clear hcz90_1
            try clear hcz95_0
            try clear hcz95_1
            try clear hcz98_0
            try clear hcz98_1
            try clear hfz103_0
            try clear hfz103_1
            try clear hfz106_0
            try clear hfz106_1
            try clear hfz115_0
            try clear hfz115_1
            try clear hfz117_0
            try clear hfz117_1
            try clear hfz126_0
            try clear hfz126_1
            try clear hfz128_0
            try clear hfz128_1
            try clear hfz132_0
            try clear hfz132_1
            try clear hfz141_0
            try clear hfz141_1
            try clear hfz14_0
            try clear hfz14_1
            try clear hfz150_0
            try clear hfz150_1
            try clear hfz154_0
            try clear hfz154_1
            try clear hfz160_0
            try clear hfz160_1
            try clear hfz164_0
            try clear hfz164_1
            try clear hfz16_0
            try clear hfz16_1
            try clear hfz170_0
            try clear hfz170_1
            try clear hfz174_0
            try clear hfz174_1
            try clear hfz22_0
            try clear hfz22_1
            try clear hfz24_0
            try clear hfz24_1
            try clear hfz29_0
            try clear hfz29_1
            try clear hfz36_0
            try clear hfz36_1
            try clear hfz44_0
            try clear hfz44_1
            try clear hfz47_0
            try clear hfz47_1
            try clear hfz52_0
            try clear hfz52_1
            try clear hfz55_0
            try clear hfz55_1
            try clear hfz60_0
            try clear hfz60_1
            try clear hfz63_0
            try clear hfz63_1
            try clear hfz6_0
            try clear hfz6_1
            try clear hfz78_0
            try clear hfz78_1
            try clear hfz87_0
            try clear hfz87_1
            try clear hfz90_0
            try clear hfz90_1
            try clear hfz95_0
            try clear hfz95_1
            try clear hfz98_0
            try clear hfz98_1
            try clear p2
            obtain ⟨kq, x113_121, rfl, HA, HJ121, HO_234001, HO_239001, HO_246001, HO_269001, BK221, BK233, BK238, BK245, BK268, HB⟩ := hcut
            have hl246001_121 := (Kd.R_reads' HO_246001.out).1
            rw [hl246001_121] at HO_246001
            (try simp only [hl246001_121])
            (try simp only [hl246001_121] at BK221)
            (try simp only [hl246001_121] at BK233)
            (try simp only [hl246001_121] at BK238)
            (try simp only [hl246001_121] at BK245)
            (try simp only [hl246001_121] at BK268)
            (try simp only [hl246001_121] at HO_234001)
            (try simp only [hl246001_121] at HO_239001)
            (try simp only [hl246001_121] at HO_269001)
            cases kq with
            | zero => exact absurd HA.out (by simp [laws_FnExactSlabTake.j2])
            | succ kj121 =>
             have H := HA.out
             clear HA
             simp only [laws_FnExactSlabTake.j2] at H
             by_cases c176 : x113_121 = true
             ·subst c176
              have H1 : (some false) = some r := by rw [if_pos rfl] at H; exact H
              clear H
              have H := H1
              clear H1
              obtain rfl := Option.some.inj H
              go_wp2
              go_ret
              exact ⟨by first | rfl | (simp [errW_none, errW_some] <;> rfl) | (simp [*, errW_none, errW_some] <;> rfl), by repeat (first | (with_reducible first | exact HB.out | apply below_alloc | apply pw_below_drewN | apply below_drew1 | refine below_set ?_ GE221.out | refine below_set ?_ GE233.out | refine below_set ?_ GE238.out | refine below_set ?_ GE245.out | refine below_set ?_ GE268.out) | exact HB.out)⟩
             ·replace c176 := Bool.eq_false_iff.mpr c176
              subst c176
              have H1 : ((laws_heldSlab.f kj121 t239 t256 1).bind fun t270 => (if t270 < 0 then (some false) else (if t270 = t255 then (some true) else (some false)))) = some r := by rw [if_neg (show ¬ (false = true) by decide)] at H; exact H
              clear H
              have H := H1
              clear H1
              replace H := Option.bind_eq_some_iff.mp H
              obtain ⟨t270, A1770, H⟩ := H
              replace H : (if t270 < 0 then (some false) else (if t270 = t255 then (some true) else (some false))) = some r := H
              have A177 := Aside0.mk A1770
              clear A1770
              by_cases c178 : t270 < 0
              ·rw [if_pos c178] at H
               have c178b0 : decide (t270 < 0) = true := decide_eq_true c178
               have c178b0l := c178b0
               (try simp only [hl239001_69, hl246001_121] at c178b0l)
               clear c178
               obtain rfl := Option.some.inj H
               have hnb179 := NB245_221.out
               have hnc179 := NB221_245.out
               have hnb180 := NB245_233.out
               have hnc180 := NB233_245.out
               have hnb181 := NB245_238.out
               have hnc181 := NB238_245.out
               have hnb182 := NB245_268.out
               have hnc182 := NB268_245.out
               have hcz183_0 : wc.cell? ⟨gb245, 0, none⟩ = some (.int .i64 t239) := (blk_cell BK245.out 0).trans rfl
               have hcz183_1 : wc.cell? ⟨gb245, 1, none⟩ = some (.slice Ao37 t256.length co37) := (blk_cell BK245.out 1).trans rfl
               have hfz183_0 := blk_frozen BK245.out 0
               have hfz183_1 := blk_frozen BK245.out 1
               go_wp2_with (first | ((with_reducible refine gate_callee (f := 21) rfl ?_); refine goesL_ (some 116) rfl rfl Try.func21 (by kernel_rfl) rfl #[.agg #[.int .i64 t239, .slice Ao37 t256.length co37], .int .i64 1] rfl (by (try simp only [List.map_toArray, List.map_cons, List.map_nil]); first | done | rfl | (simp only [List.length_drop, List.length_take]; rfl)) ?_; (with_reducible refine (laws_heldSlab.calls kj121 t239 _ _ t256 1 t270 _ ?side1 ?side2 A177.out).mono ?_); (case side1 => repeat (first | exact (Kd.R_reads' HO_246001.out).2.2 | (with_reducible refine Kd.C_alloc ?_ _) | (with_reducible refine Kd.C_drewN ?_ _) | (with_reducible refine Kd.C_drew ?_))); (case side2 => exact (Kd.R_reads' HO_246001.out).2.1); rintro e w184 ⟨rfl, hb⟩; refine ⟨_, rfl, ?_⟩; have n0_ := Aside0.mk (Kd.R_below (by (with_reducible repeat (first | apply Kd.R_alloc | apply Kd.R_drewN | apply Kd.R_drew)); exact HO_234001.out) hb); have n1_ := Aside0.mk (Kd.R_below (by (with_reducible repeat (first | apply Kd.R_alloc | apply Kd.R_drewN | apply Kd.R_drew)); exact HO_239001.out) hb); have n2_ := Aside0.mk (Kd.R_below (by (with_reducible repeat (first | apply Kd.R_alloc | apply Kd.R_drewN | apply Kd.R_drew)); exact HO_246001.out) hb); have n3_ := Aside0.mk (Kd.R_below (by (with_reducible repeat (first | apply Kd.R_alloc | apply Kd.R_drewN | apply Kd.R_drew)); exact HO_269001.out) hb); have n4_ := Aside0.mk (blk_below (g := gb221) (o := .cells #[.int .i64 a0_0, .slice A0_1 l0_1.length c0_1] 29 (0, 0)) (by (with_reducible repeat (first | refine blk_drewN ?_ _ | refine blk_drew ?_ | refine blk_alloc ?_ _)); exact BK221.out) hb); have n5_ := Aside0.mk (blk_below (g := gb233) (o := .cells #[.int .i64 t227, .slice Ao23 t228.length co23] 24 (0, 0)) (by (with_reducible repeat (first | refine blk_drewN ?_ _ | refine blk_drew ?_ | refine blk_alloc ?_ _)); exact BK233.out) hb); have n6_ := Aside0.mk (blk_below (g := gb238) (o := .cells #[.int .i64 t234, .slice Ao30 t253.length co30] 24 (0, 0)) (by (with_reducible repeat (first | refine blk_drewN ?_ _ | refine blk_drew ?_ | refine blk_alloc ?_ _)); exact BK238.out) hb); have n7_ := Aside0.mk (blk_below (g := gb245) (o := .cells #[.int .i64 t239, .slice Ao37 t256.length co37] 24 (0, 0)) (by (with_reducible repeat (first | refine blk_drewN ?_ _ | refine blk_drew ?_ | refine blk_alloc ?_ _)); exact BK245.out) hb); have n8_ := Aside0.mk (blk_below (g := gb268) (o := .cells #[.int .i64 t262, .slice Ao142 t263.length co142] 24 (0, 0)) (by (with_reducible repeat (first | refine blk_drewN ?_ _ | refine blk_drew ?_ | refine blk_alloc ?_ _)); exact BK268.out) hb); have n9_ := Aside0.mk (below_step (by repeat (first | (with_reducible first | exact HB.out | apply below_alloc | apply pw_below_drewN | apply below_drew1 | refine below_set ?_ GE221.out | refine below_set ?_ GE233.out | refine below_set ?_ GE238.out | refine below_set ?_ GE245.out | refine below_set ?_ GE268.out) | exact HB.out)) hb); clear HO_234001; clear HO_239001; clear HO_246001; clear HO_269001; clear BK221; clear BK233; clear BK238; clear BK245; clear BK268; clear HB; have HO_234001 := n0_; have HO_239001 := n1_; have HO_246001 := n2_; have HO_269001 := n3_; have BK221 := n4_; have BK233 := n5_; have BK238 := n6_; have BK245 := n7_; have BK268 := n8_; have HB := n9_; clear n0_ n1_ n2_ n3_ n4_ n5_ n6_ n7_ n8_ n9_; (try clear hb); (try clear hb2); (try clear hk); (try clear hi)))
               go_ret
               exact ⟨by first | rfl | (simp [errW_none, errW_some] <;> rfl) | (simp [*, errW_none, errW_some] <;> rfl), by repeat (first | (with_reducible first | exact HB.out | apply below_alloc | apply pw_below_drewN | apply below_drew1 | refine below_set ?_ GE221.out | refine below_set ?_ GE233.out | refine below_set ?_ GE238.out | refine below_set ?_ GE245.out | refine below_set ?_ GE268.out) | exact HB.out)⟩
              ·rw [if_neg c178] at H
               have c178b0 : decide (t270 < 0) = false := decide_eq_false c178
               have c178b0l := c178b0
               (try simp only [hl239001_69, hl246001_121] at c178b0l)
               clear c178
               by_cases c185 : t270 = t255
               ·rw [if_pos c185] at H
                have c185b0 : (t270 == t255) = true := beq_iff_eq.mpr c185
                have c185b0l := c185b0
                (try simp only [hl239001_69, hl246001_121] at c185b0l)
                have c185b1 : (t270 != t255) = false := bne_eq_false_iff_eq.mpr c185
                have c185b1l := c185b1
                (try simp only [hl239001_69, hl246001_121] at c185b1l)
                clear c185
                obtain rfl := Option.some.inj H
                have hnb186 := NB245_221.out
                have hnc186 := NB221_245.out
                have hnb187 := NB245_233.out
                have hnc187 := NB233_245.out
                have hnb188 := NB245_238.out
                have hnc188 := NB238_245.out
                have hnb189 := NB245_268.out
                have hnc189 := NB268_245.out
                have hcz190_0 : wc.cell? ⟨gb245, 0, none⟩ = some (.int .i64 t239) := (blk_cell BK245.out 0).trans rfl
                have hcz190_1 : wc.cell? ⟨gb245, 1, none⟩ = some (.slice Ao37 t256.length co37) := (blk_cell BK245.out 1).trans rfl
                have hfz190_0 := blk_frozen BK245.out 0
                have hfz190_1 := blk_frozen BK245.out 1
                go_wp2_with (first | ((with_reducible refine gate_callee (f := 21) rfl ?_); refine goesL_ (some 116) rfl rfl Try.func21 (by kernel_rfl) rfl #[.agg #[.int .i64 t239, .slice Ao37 t256.length co37], .int .i64 1] rfl (by (try simp only [List.map_toArray, List.map_cons, List.map_nil]); first | done | rfl | (simp only [List.length_drop, List.length_take]; rfl)) ?_; (with_reducible refine (laws_heldSlab.calls kj121 t239 _ _ t256 1 t270 _ ?side1 ?side2 A177.out).mono ?_); (case side1 => repeat (first | exact (Kd.R_reads' HO_246001.out).2.2 | (with_reducible refine Kd.C_alloc ?_ _) | (with_reducible refine Kd.C_drewN ?_ _) | (with_reducible refine Kd.C_drew ?_))); (case side2 => exact (Kd.R_reads' HO_246001.out).2.1); rintro e w191 ⟨rfl, hb⟩; refine ⟨_, rfl, ?_⟩; have n0_ := Aside0.mk (Kd.R_below (by (with_reducible repeat (first | apply Kd.R_alloc | apply Kd.R_drewN | apply Kd.R_drew)); exact HO_234001.out) hb); have n1_ := Aside0.mk (Kd.R_below (by (with_reducible repeat (first | apply Kd.R_alloc | apply Kd.R_drewN | apply Kd.R_drew)); exact HO_239001.out) hb); have n2_ := Aside0.mk (Kd.R_below (by (with_reducible repeat (first | apply Kd.R_alloc | apply Kd.R_drewN | apply Kd.R_drew)); exact HO_246001.out) hb); have n3_ := Aside0.mk (Kd.R_below (by (with_reducible repeat (first | apply Kd.R_alloc | apply Kd.R_drewN | apply Kd.R_drew)); exact HO_269001.out) hb); have n4_ := Aside0.mk (blk_below (g := gb221) (o := .cells #[.int .i64 a0_0, .slice A0_1 l0_1.length c0_1] 29 (0, 0)) (by (with_reducible repeat (first | refine blk_drewN ?_ _ | refine blk_drew ?_ | refine blk_alloc ?_ _)); exact BK221.out) hb); have n5_ := Aside0.mk (blk_below (g := gb233) (o := .cells #[.int .i64 t227, .slice Ao23 t228.length co23] 24 (0, 0)) (by (with_reducible repeat (first | refine blk_drewN ?_ _ | refine blk_drew ?_ | refine blk_alloc ?_ _)); exact BK233.out) hb); have n6_ := Aside0.mk (blk_below (g := gb238) (o := .cells #[.int .i64 t234, .slice Ao30 t253.length co30] 24 (0, 0)) (by (with_reducible repeat (first | refine blk_drewN ?_ _ | refine blk_drew ?_ | refine blk_alloc ?_ _)); exact BK238.out) hb); have n7_ := Aside0.mk (blk_below (g := gb245) (o := .cells #[.int .i64 t239, .slice Ao37 t256.length co37] 24 (0, 0)) (by (with_reducible repeat (first | refine blk_drewN ?_ _ | refine blk_drew ?_ | refine blk_alloc ?_ _)); exact BK245.out) hb); have n8_ := Aside0.mk (blk_below (g := gb268) (o := .cells #[.int .i64 t262, .slice Ao142 t263.length co142] 24 (0, 0)) (by (with_reducible repeat (first | refine blk_drewN ?_ _ | refine blk_drew ?_ | refine blk_alloc ?_ _)); exact BK268.out) hb); have n9_ := Aside0.mk (below_step (by repeat (first | (with_reducible first | exact HB.out | apply below_alloc | apply pw_below_drewN | apply below_drew1 | refine below_set ?_ GE221.out | refine below_set ?_ GE233.out | refine below_set ?_ GE238.out | refine below_set ?_ GE245.out | refine below_set ?_ GE268.out) | exact HB.out)) hb); clear HO_234001; clear HO_239001; clear HO_246001; clear HO_269001; clear BK221; clear BK233; clear BK238; clear BK245; clear BK268; clear HB; have HO_234001 := n0_; have HO_239001 := n1_; have HO_246001 := n2_; have HO_269001 := n3_; have BK221 := n4_; have BK233 := n5_; have BK238 := n6_; have BK245 := n7_; have BK268 := n8_; have HB := n9_; clear n0_ n1_ n2_ n3_ n4_ n5_ n6_ n7_ n8_ n9_; (try clear hb); (try clear hb2); (try clear hk); (try clear hi)))
                go_ret
                exact ⟨by first | rfl | (simp [errW_none, errW_some] <;> rfl) | (simp [*, errW_none, errW_some] <;> rfl), by repeat (first | (with_reducible first | exact HB.out | apply below_alloc | apply pw_below_drewN | apply below_drew1 | refine below_set ?_ GE221.out | refine below_set ?_ GE233.out | refine below_set ?_ GE238.out | refine below_set ?_ GE245.out | refine below_set ?_ GE268.out) | exact HB.out)⟩
               ·rw [if_neg c185] at H
                have c185b0 : (t270 == t255) = false := beq_eq_false_iff_ne.mpr c185
                have c185b0l := c185b0
                (try simp only [hl239001_69, hl246001_121] at c185b0l)
                have c185b1 : (t270 != t255) = true := bne_iff_ne.mpr c185
                have c185b1l := c185b1
                (try simp only [hl239001_69, hl246001_121] at c185b1l)
                obtain rfl := Option.some.inj H
                have hnb192 := NB245_221.out
                have hnc192 := NB221_245.out
                have hnb193 := NB245_233.out
                have hnc193 := NB233_245.out
                have hnb194 := NB245_238.out
                have hnc194 := NB238_245.out
                have hnb195 := NB245_268.out
                have hnc195 := NB268_245.out
                have hcz196_0 : wc.cell? ⟨gb245, 0, none⟩ = some (.int .i64 t239) := (blk_cell BK245.out 0).trans rfl
                have hcz196_1 : wc.cell? ⟨gb245, 1, none⟩ = some (.slice Ao37 t256.length co37) := (blk_cell BK245.out 1).trans rfl
                have hfz196_0 := blk_frozen BK245.out 0
                have hfz196_1 := blk_frozen BK245.out 1
                go_wp2_with (first | ((with_reducible refine gate_callee (f := 21) rfl ?_); refine goesL_ (some 116) rfl rfl Try.func21 (by kernel_rfl) rfl #[.agg #[.int .i64 t239, .slice Ao37 t256.length co37], .int .i64 1] rfl (by (try simp only [List.map_toArray, List.map_cons, List.map_nil]); first | done | rfl | (simp only [List.length_drop, List.length_take]; rfl)) ?_; (with_reducible refine (laws_heldSlab.calls kj121 t239 _ _ t256 1 t270 _ ?side1 ?side2 A177.out).mono ?_); (case side1 => repeat (first | exact (Kd.R_reads' HO_246001.out).2.2 | (with_reducible refine Kd.C_alloc ?_ _) | (with_reducible refine Kd.C_drewN ?_ _) | (with_reducible refine Kd.C_drew ?_))); (case side2 => exact (Kd.R_reads' HO_246001.out).2.1); rintro e w197 ⟨rfl, hb⟩; refine ⟨_, rfl, ?_⟩; have n0_ := Aside0.mk (Kd.R_below (by (with_reducible repeat (first | apply Kd.R_alloc | apply Kd.R_drewN | apply Kd.R_drew)); exact HO_234001.out) hb); have n1_ := Aside0.mk (Kd.R_below (by (with_reducible repeat (first | apply Kd.R_alloc | apply Kd.R_drewN | apply Kd.R_drew)); exact HO_239001.out) hb); have n2_ := Aside0.mk (Kd.R_below (by (with_reducible repeat (first | apply Kd.R_alloc | apply Kd.R_drewN | apply Kd.R_drew)); exact HO_246001.out) hb); have n3_ := Aside0.mk (Kd.R_below (by (with_reducible repeat (first | apply Kd.R_alloc | apply Kd.R_drewN | apply Kd.R_drew)); exact HO_269001.out) hb); have n4_ := Aside0.mk (blk_below (g := gb221) (o := .cells #[.int .i64 a0_0, .slice A0_1 l0_1.length c0_1] 29 (0, 0)) (by (with_reducible repeat (first | refine blk_drewN ?_ _ | refine blk_drew ?_ | refine blk_alloc ?_ _)); exact BK221.out) hb); have n5_ := Aside0.mk (blk_below (g := gb233) (o := .cells #[.int .i64 t227, .slice Ao23 t228.length co23] 24 (0, 0)) (by (with_reducible repeat (first | refine blk_drewN ?_ _ | refine blk_drew ?_ | refine blk_alloc ?_ _)); exact BK233.out) hb); have n6_ := Aside0.mk (blk_below (g := gb238) (o := .cells #[.int .i64 t234, .slice Ao30 t253.length co30] 24 (0, 0)) (by (with_reducible repeat (first | refine blk_drewN ?_ _ | refine blk_drew ?_ | refine blk_alloc ?_ _)); exact BK238.out) hb); have n7_ := Aside0.mk (blk_below (g := gb245) (o := .cells #[.int .i64 t239, .slice Ao37 t256.length co37] 24 (0, 0)) (by (with_reducible repeat (first | refine blk_drewN ?_ _ | refine blk_drew ?_ | refine blk_alloc ?_ _)); exact BK245.out) hb); have n8_ := Aside0.mk (blk_below (g := gb268) (o := .cells #[.int .i64 t262, .slice Ao142 t263.length co142] 24 (0, 0)) (by (with_reducible repeat (first | refine blk_drewN ?_ _ | refine blk_drew ?_ | refine blk_alloc ?_ _)); exact BK268.out) hb); have n9_ := Aside0.mk (below_step (by repeat (first | (with_reducible first | exact HB.out | apply below_alloc | apply pw_below_drewN | apply below_drew1 | refine below_set ?_ GE221.out | refine below_set ?_ GE233.out | refine below_set ?_ GE238.out | refine below_set ?_ GE245.out | refine below_set ?_ GE268.out) | exact HB.out)) hb); clear HO_234001; clear HO_239001; clear HO_246001; clear HO_269001; clear BK221; clear BK233; clear BK238; clear BK245; clear BK268; clear HB; have HO_234001 := n0_; have HO_239001 := n1_; have HO_246001 := n2_; have HO_269001 := n3_; have BK221 := n4_; have BK233 := n5_; have BK238 := n6_; have BK245 := n7_; have BK268 := n8_; have HB := n9_; clear n0_ n1_ n2_ n3_ n4_ n5_ n6_ n7_ n8_ n9_; (try clear hb); (try clear hb2); (try clear hk); (try clear hi)))
                go_ret
                exact ⟨by first | rfl | (simp [errW_none, errW_some] <;> rfl) | (simp [*, errW_none, errW_some] <;> rfl), by repeat (first | (with_reducible first | exact HB.out | apply below_alloc | apply pw_below_drewN | apply below_drew1 | refine below_set ?_ GE221.out | refine below_set ?_ GE233.out | refine below_set ?_ GE238.out | refine below_set ?_ GE245.out | refine below_set ?_ GE268.out) | exact HB.out)⟩
          ·rw [if_neg c119] at H
           have c119b0 : (t257 == t255) = false := beq_eq_false_iff_ne.mpr c119
           have c119b0l := c119b0
           (try simp only [hl239001_69] at c119b0l)
           have c119b1 : (t257 != t255) = true := bne_iff_ne.mpr c119
           have c119b1l := c119b1
           (try simp only [hl239001_69] at c119b1l)
           obtain rfl := Option.some.inj H
           have hnb198 := NB245_221.out
           have hnc198 := NB221_245.out
           have hnb199 := NB245_233.out
           have hnc199 := NB233_245.out
           have hnb200 := NB245_238.out
           have hnc200 := NB238_245.out
           have hcz201_0 : wc.cell? ⟨gb245, 0, none⟩ = some (.int .i64 t239) := (blk_cell BK245.out 0).trans rfl
           have hcz201_1 : wc.cell? ⟨gb245, 1, none⟩ = some (.slice Ao37 t240.length co37) := (blk_cell BK245.out 1).trans rfl
           have hfz201_0 := blk_frozen BK245.out 0
           have hfz201_1 := blk_frozen BK245.out 1
           go_wp2_with (first | ((with_reducible refine gate_callee (f := 20) rfl ?_); refine goesL_ (some 83) rfl rfl Try.func20 (by kernel_rfl) rfl #[.agg #[.int .i64 t239, .slice Ao37 t240.length co37], .int .i64 1] rfl (by (try simp only [List.map_toArray, List.map_cons, List.map_nil]); first | done | rfl | (simp only [List.length_drop, List.length_take]; rfl)) ?_; (with_reducible refine (laws_markSlab.calls kj69 t239 (fun k_ => some k_ = (.slice Ao37 t240.length co37 : Value).ownBlock) (.slice Ao37 t240.length co37) t240 1 t255 t256 w _ ?side1 ?side2 A109.out).mono ?_); (case side1 => repeat (first | (with_reducible first | exact HB.out | apply below_alloc | apply pw_below_drewN | apply below_drew1 | refine below_set ?_ GE221.out | refine below_set ?_ GE233.out | refine below_set ?_ GE238.out | refine below_set ?_ GE245.out) | exact HB.out)); (case side2 => exact Kd.R_tight rfl HO_246001.out); rintro e w202 ⟨rfl, hy0, hb, hkp⟩; refine ⟨_, rfl, ?_⟩; have n0_ := Aside0.mk (Kd.R_mono (ok' := fun k_ => some k_ ≠ (.slice Ao30 t253.length co30 : Value).ownBlock ∧ some k_ ≠ (.slice Ao37 t240.length co37 : Value).ownBlock) (Kd.R_keptB (HO_234001.out) hkp (fun k_ hk_ hs_ => by first | exact (hk_.2) hs_ | grind)) (fun k_ hk_ => by first | exact ⟨hk_.1.1, hk_.1.2⟩ | grind)); have n1_ := Aside0.mk (Kd.R_mono (ok' := fun k_ => some k_ ≠ (.slice Ao23 t228.length co23 : Value).ownBlock ∧ some k_ ≠ (.slice Ao37 t240.length co37 : Value).ownBlock) (Kd.R_keptB (HO_239001.out) hkp (fun k_ hk_ hs_ => by first | exact (hk_.2) hs_ | grind)) (fun k_ hk_ => by first | exact ⟨hk_.1.1, hk_.1.2⟩ | grind)); have n2_ := Aside0.mk (Kd.R_reok rfl hy0 (fun k_ e_ => HO_246001.out.1 k_ e_)); have n3_ := Aside0.mk (blk_kept (by (with_reducible repeat (first | refine blk_drewN ?_ _ | refine blk_drew ?_ | refine blk_alloc ?_ _)); exact BK221.out) hkp (fun hs_ => (fun e_ => (Kd.R_ne HO_246001.out BK221.out (by decide)) e_) hs_)); have n4_ := Aside0.mk (blk_kept (by (with_reducible repeat (first | refine blk_drewN ?_ _ | refine blk_drew ?_ | refine blk_alloc ?_ _)); exact BK233.out) hkp (fun hs_ => (fun e_ => (Kd.R_ne HO_246001.out BK233.out (by decide)) e_) hs_)); have n5_ := Aside0.mk (blk_kept (by (with_reducible repeat (first | refine blk_drewN ?_ _ | refine blk_drew ?_ | refine blk_alloc ?_ _)); exact BK238.out) hkp (fun hs_ => (fun e_ => (Kd.R_ne HO_246001.out BK238.out (by decide)) e_) hs_)); have n6_ := Aside0.mk (blk_kept (by (with_reducible repeat (first | refine blk_drewN ?_ _ | refine blk_drew ?_ | refine blk_alloc ?_ _)); exact BK245.out) hkp (fun hs_ => (fun e_ => (Kd.R_ne HO_246001.out BK245.out (by decide)) e_) hs_)); have n7_ := Aside0.mk (hb); clear HO_234001; clear HO_239001; clear HO_246001; clear BK221; clear BK233; clear BK238; clear BK245; clear HB; have HO_234001 := n0_; have HO_239001 := n1_; have HO_246001 := n2_; have BK221 := n3_; have BK233 := n4_; have BK238 := n5_; have BK245 := n6_; have HB := n7_; clear n0_ n1_ n2_ n3_ n4_ n5_ n6_ n7_; (try clear hb); (try clear hkp); (try clear hy0); have hcz203_0 : w202.cell? ⟨gb245, 0, none⟩ = some (.int .i64 t239) := (blk_cell BK245.out 0).trans rfl; have hcz203_1 : w202.cell? ⟨gb245, 1, none⟩ = some (.slice Ao37 t240.length co37) := (blk_cell BK245.out 1).trans rfl; have hfz203_0 := blk_frozen BK245.out 0; have hfz203_1 := blk_frozen BK245.out 1) | ((with_reducible refine gate_callee (f := 21) rfl ?_); refine goesL_ (some 86) rfl rfl Try.func21 (by kernel_rfl) rfl #[.agg #[.int .i64 t239, .slice Ao37 t256.length co37], .int .i64 1] rfl (by (try simp only [List.map_toArray, List.map_cons, List.map_nil]); first | done | (rw [show t256.length = t240.length from (Kd.R_reads' HO_246001.out).1.symm] <;> rfl) | rfl | (simp only [List.length_drop, List.length_take]; rfl)) ?_; (with_reducible refine (laws_heldSlab.calls kj69 t239 _ _ t256 1 t257 _ ?side1 ?side2 A110.out).mono ?_); (case side1 => repeat (first | exact (Kd.R_reads' HO_246001.out).2.2 | (with_reducible refine Kd.C_alloc ?_ _) | (with_reducible refine Kd.C_drewN ?_ _) | (with_reducible refine Kd.C_drew ?_))); (case side2 => rw [show t256.length = t240.length from (Kd.R_reads' HO_246001.out).1.symm]; exact (Kd.R_reads' HO_246001.out).2.1); rintro e w204 ⟨rfl, hb⟩; refine ⟨_, rfl, ?_⟩; have n0_ := Aside0.mk (Kd.R_below (by (with_reducible repeat (first | apply Kd.R_alloc | apply Kd.R_drewN | apply Kd.R_drew)); exact HO_234001.out) hb); have n1_ := Aside0.mk (Kd.R_below (by (with_reducible repeat (first | apply Kd.R_alloc | apply Kd.R_drewN | apply Kd.R_drew)); exact HO_239001.out) hb); have n2_ := Aside0.mk (Kd.R_below (by (with_reducible repeat (first | apply Kd.R_alloc | apply Kd.R_drewN | apply Kd.R_drew)); exact HO_246001.out) hb); have n3_ := Aside0.mk (blk_below (g := gb221) (o := .cells #[.int .i64 a0_0, .slice A0_1 l0_1.length c0_1] 29 (0, 0)) (by (with_reducible repeat (first | refine blk_drewN ?_ _ | refine blk_drew ?_ | refine blk_alloc ?_ _)); exact BK221.out) hb); have n4_ := Aside0.mk (blk_below (g := gb233) (o := .cells #[.int .i64 t227, .slice Ao23 t228.length co23] 24 (0, 0)) (by (with_reducible repeat (first | refine blk_drewN ?_ _ | refine blk_drew ?_ | refine blk_alloc ?_ _)); exact BK233.out) hb); have n5_ := Aside0.mk (blk_below (g := gb238) (o := .cells #[.int .i64 t234, .slice Ao30 t253.length co30] 24 (0, 0)) (by (with_reducible repeat (first | refine blk_drewN ?_ _ | refine blk_drew ?_ | refine blk_alloc ?_ _)); exact BK238.out) hb); have n6_ := Aside0.mk (blk_below (g := gb245) (o := .cells #[.int .i64 t239, .slice Ao37 t240.length co37] 24 (0, 0)) (by (with_reducible repeat (first | refine blk_drewN ?_ _ | refine blk_drew ?_ | refine blk_alloc ?_ _)); exact BK245.out) hb); have n7_ := Aside0.mk (below_step (by repeat (first | (with_reducible first | exact HB.out | apply below_alloc | apply pw_below_drewN | apply below_drew1 | refine below_set ?_ GE221.out | refine below_set ?_ GE233.out | refine below_set ?_ GE238.out | refine below_set ?_ GE245.out) | exact HB.out)) hb); clear HO_234001; clear HO_239001; clear HO_246001; clear BK221; clear BK233; clear BK238; clear BK245; clear HB; have HO_234001 := n0_; have HO_239001 := n1_; have HO_246001 := n2_; have BK221 := n3_; have BK233 := n4_; have BK238 := n5_; have BK245 := n6_; have HB := n7_; clear n0_ n1_ n2_ n3_ n4_ n5_ n6_ n7_; (try clear hb); (try clear hb2); (try clear hk); (try clear hi)))
           go_ret
           exact ⟨by first | rfl | (simp [errW_none, errW_some] <;> rfl) | (simp [*, errW_none, errW_some] <;> rfl), by repeat (first | (with_reducible first | exact HB.out | apply below_alloc | apply pw_below_drewN | apply below_drew1 | refine below_set ?_ GE221.out | refine below_set ?_ GE233.out | refine below_set ?_ GE238.out | refine below_set ?_ GE245.out) | exact HB.out)⟩
     ·replace c68 := Bool.eq_false_iff.mpr c68
      subst c68
      have H1 : (some false) = some r := by rw [if_neg (show ¬ (false = true) by decide)] at H; exact H
      clear H
      have H := H1
      clear H1
      obtain rfl := Option.some.inj H
      try go_wp2
      have n0_ := Aside0.mk (Kd.R_drew HO_234001.out)
      have n1_ := Aside0.mk (Kd.R_drew HO_239001.out)
      have n2_ := Aside0.mk (Kd.R_drew HO_246001.out)
      have n3_ := Aside0.mk (blk_drew BK221.out)
      have n4_ := Aside0.mk (blk_drew BK233.out)
      have n5_ := Aside0.mk (blk_drew BK238.out)
      have n6_ := Aside0.mk (blk_drew BK245.out)
      have n7_ := Aside0.mk (below_drew1 HB.out)
      clear HO_234001
      clear HO_239001
      clear HO_246001
      clear BK221
      clear BK233
      clear BK238
      clear BK245
      clear HB
      have HO_234001 := n0_
      have HO_239001 := n1_
      have HO_246001 := n2_
      have BK221 := n3_
      have BK233 := n4_
      have BK238 := n5_
      have BK245 := n6_
      have HB := n7_
      clear n0_ n1_ n2_ n3_ n4_ n5_ n6_ n7_
      refine start_ (n := 5) (S := fun w' => w'.cell? ⟨gb238, 0, none⟩ = some (.int .i64 t234) ∧ w'.cell? ⟨gb238, 1, none⟩ = some (.slice Ao30 t235.length co30) ∧ w'.cell? ⟨gb221, 0, none⟩ = some (.int .i64 a0_0) ∧ w'.cell? ⟨gb221, 1, none⟩ = some (.slice A0_1 l0_1.length c0_1)) (ds := []) (bs 5 0) (by kernel_rfl) rfl rfl ⟨(blk_cell BK238.out 0).trans rfl, (blk_cell BK238.out 1).trans rfl, (blk_cell BK221.out 0).trans rfl, (blk_cell BK221.out 1).trans rfl⟩ (fun hHeld => ?_)
      generalize wc.drew = w205 at HO_234001 HO_239001 HO_246001 BK221 BK233 BK238 BK245 HB hHeld ⊢
      refine take_ (i := 0) (N := some 55) (v := ?_) (a' := ?_) (bs 5 1) rfl rfl (by kernel_rfl) (fun _ _ _ h => h) (Or.inl ⟨by rfl, ?_⟩) hHeld ?_ ?_
      rotate_left
      ·rintro w' ⟨s0, s1, s2, s3⟩
       go_simp
       with_reducible rfl
      rotate_left
      ·simp only [Act.put, List.setIfInBounds_toArray, List.set_cons_zero, List.set_cons_succ, i64_w, i32_w]
       rfl
      refine take_ (i := 1) (N := some 56) (v := ?_) (a' := ?_) (bs 5 2) rfl rfl (by kernel_rfl) (fun _ _ _ h => h) (Or.inl ⟨by rfl, ?_⟩) hHeld ?_ ?_
      rotate_left
      ·rintro w' ⟨s0, s1, s2, s3⟩
       go_simp
       with_reducible rfl
      rotate_left
      ·simp only [Act.put, List.setIfInBounds_toArray, List.set_cons_zero, List.set_cons_succ, i64_w, i32_w]
       rfl
      refine one_ (i := 2) (N := some 57) (bs 5 3) rfl rfl (by kernel_rfl) (by decide) (fun K hK => ?_)
      refine goes_ Try.func24 (by kernel_rfl) rfl #[.agg #[.int .i64 a0_0, .slice A0_1 l0_1.length c0_1]] (by rfl) rfl rfl (by (try simp only [List.map_toArray, List.map_cons, List.map_nil]); first | done | rfl | (simp only [List.length_drop, List.length_take]; rfl)) ?_
      with_reducible refine (laws_toSlab.calls kj11 a0_0 _ _ l0_1 t247 t248 _ ?side1 ?side2 A66.out).mono ?_
      (case side1 => repeat (first | exact (Kd.C_below HR0_1.out HB.out) | (with_reducible refine Kd.C_alloc ?_ _) | (with_reducible refine Kd.C_drewN ?_ _) | (with_reducible refine Kd.C_drew ?_)))
      (case side2 => exact HC0_1.out)
      rintro e w206 ⟨v249, rfl, ho0, hb⟩
      refine ⟨_, rfl, ?_⟩
      have n0_ := Aside0.mk (Kd.R_elder' (by (with_reducible repeat (first | apply Kd.R_alloc | apply Kd.R_drewN | apply Kd.R_drew)); exact HO_234001.out) (Kd.R_base ho0) hb)
      have n1_ := Aside0.mk (Kd.R_elder' (by (with_reducible repeat (first | apply Kd.R_alloc | apply Kd.R_drewN | apply Kd.R_drew)); exact HO_239001.out) (Kd.R_base ho0) hb)
      have n2_ := Aside0.mk (Kd.R_elder' (by (with_reducible repeat (first | apply Kd.R_alloc | apply Kd.R_drewN | apply Kd.R_drew)); exact HO_246001.out) (Kd.R_base ho0) hb)
      have n3_ := Aside0.mk (Kd.R_lower (Kd.R_new' (Kd.R_new' (Kd.R_new' ho0 (Kd.R_lt (by (with_reducible repeat (first | apply Kd.R_alloc | apply Kd.R_drewN | apply Kd.R_drew)); exact HO_234001.out))) (Kd.R_lt (by (with_reducible repeat (first | apply Kd.R_alloc | apply Kd.R_drewN | apply Kd.R_drew)); exact HO_239001.out))) (Kd.R_lt (by (with_reducible repeat (first | apply Kd.R_alloc | apply Kd.R_drewN | apply Kd.R_drew)); exact HO_246001.out))) (below_size (by repeat (first | (with_reducible first | exact HB.out | apply below_alloc | apply pw_below_drewN | apply below_drew1 | refine below_set ?_ GE221.out | refine below_set ?_ GE233.out | refine below_set ?_ GE238.out | refine below_set ?_ GE245.out) | exact HB.out))))
      have n4_ := Aside0.mk (blk_below (g := gb221) (o := .cells #[.int .i64 a0_0, .slice A0_1 l0_1.length c0_1] 29 (0, 0)) (by (with_reducible repeat (first | refine blk_drewN ?_ _ | refine blk_drew ?_ | refine blk_alloc ?_ _)); exact BK221.out) hb)
      have n5_ := Aside0.mk (blk_below (g := gb233) (o := .cells #[.int .i64 t227, .slice Ao23 t228.length co23] 24 (0, 0)) (by (with_reducible repeat (first | refine blk_drewN ?_ _ | refine blk_drew ?_ | refine blk_alloc ?_ _)); exact BK233.out) hb)
      have n6_ := Aside0.mk (blk_below (g := gb238) (o := .cells #[.int .i64 t234, .slice Ao30 t235.length co30] 24 (0, 0)) (by (with_reducible repeat (first | refine blk_drewN ?_ _ | refine blk_drew ?_ | refine blk_alloc ?_ _)); exact BK238.out) hb)
      have n7_ := Aside0.mk (blk_below (g := gb245) (o := .cells #[.int .i64 t239, .slice Ao37 t240.length co37] 24 (0, 0)) (by (with_reducible repeat (first | refine blk_drewN ?_ _ | refine blk_drew ?_ | refine blk_alloc ?_ _)); exact BK245.out) hb)
      have n8_ := Aside0.mk (below_step (by repeat (first | (with_reducible first | exact HB.out | apply below_alloc | apply pw_below_drewN | apply below_drew1 | refine below_set ?_ GE221.out | refine below_set ?_ GE233.out | refine below_set ?_ GE238.out | refine below_set ?_ GE245.out) | exact HB.out)) hb)
      clear HO_234001
      clear HO_239001
      clear HO_246001
      clear BK221
      clear BK233
      clear BK238
      clear BK245
      clear HB
      have HO_234001 := n0_
      have HO_239001 := n1_
      have HO_246001 := n2_
      have HO250 := n3_
      have BK221 := n4_
      have BK233 := n5_
      have BK238 := n6_
      have BK245 := n7_
      have HB := n8_
      clear n0_ n1_ n2_ n3_ n4_ n5_ n6_ n7_ n8_
      (try clear hb)
      (try clear hb2)
      (try clear hk)
      (try clear hi)
      (try clear ho0)
      obtain ⟨Ao207, co207, eo207⟩ := Kd.R_slice HO250.out
      (first | subst eo207 | (injection eo207 with f1_ f2_ f3_; have f4_ := f1_.symm; have f5_ := f3_.symm; clear f1_ f2_ f3_; subst f4_; subst f5_))
      refine hK.out _ _ ⟨(blk_cell BK238.out 0).trans rfl, (blk_cell BK238.out 1).trans rfl, (blk_cell BK221.out 0).trans rfl, (blk_cell BK221.out 1).trans rfl⟩ (fun hHeld => ?_)
      clear hK K
      refine norm_ (a' := ?_) ?_ ?_
      rotate_left
      ·show Act.put _ (some 57) _ = _
       simp only [Act.put, List.setIfInBounds_toArray, List.set_cons_zero, List.set_cons_succ, i64_w, i32_w]
       rfl
      refine one_ (i := 3) (N := some 58) (bs 5 4) rfl rfl (by kernel_rfl) (by decide) (fun K hK => ?_)
      refine goes_ Try.func19 (by kernel_rfl) rfl #[.agg #[.int .i64 t234, .slice Ao30 t235.length co30], .agg #[.int .i64 t247, .slice Ao207 t248.length co207]] (by rfl) rfl rfl (by (try simp only [List.map_toArray, List.map_cons, List.map_nil]); first | done | rfl | (simp only [List.length_drop, List.length_take]; rfl)) ?_
      with_reducible refine (laws_eqSlab.calls kj11 t234 _ _ t235 t247 _ _ t248 false _ ?side1 ?side2 ?side3 ?side4 A67.out).mono ?_
      (case side1 => repeat (first | exact (Kd.R_reads' HO_239001.out).2.2 | (with_reducible refine Kd.C_alloc ?_ _) | (with_reducible refine Kd.C_drewN ?_ _) | (with_reducible refine Kd.C_drew ?_)))
      (case side2 => exact (Kd.R_reads' HO_239001.out).2.1)
      (case side3 => repeat (first | exact (Kd.R_reads' HO250.out).2.2 | (with_reducible refine Kd.C_alloc ?_ _) | (with_reducible refine Kd.C_drewN ?_ _) | (with_reducible refine Kd.C_drew ?_)))
      (case side4 => exact (Kd.R_reads' HO250.out).2.1)
      rintro e w208 ⟨rfl, hb⟩
      refine ⟨_, rfl, ?_⟩
      have n0_ := Aside0.mk (Kd.R_below (by (with_reducible repeat (first | apply Kd.R_alloc | apply Kd.R_drewN | apply Kd.R_drew)); exact HO_234001.out) hb)
      have n1_ := Aside0.mk (Kd.R_below (by (with_reducible repeat (first | apply Kd.R_alloc | apply Kd.R_drewN | apply Kd.R_drew)); exact HO_239001.out) hb)
      have n2_ := Aside0.mk (Kd.R_below (by (with_reducible repeat (first | apply Kd.R_alloc | apply Kd.R_drewN | apply Kd.R_drew)); exact HO_246001.out) hb)
      have n3_ := Aside0.mk (Kd.R_below (by (with_reducible repeat (first | apply Kd.R_alloc | apply Kd.R_drewN | apply Kd.R_drew)); exact HO250.out) hb)
      have n4_ := Aside0.mk (blk_below (g := gb221) (o := .cells #[.int .i64 a0_0, .slice A0_1 l0_1.length c0_1] 29 (0, 0)) (by (with_reducible repeat (first | refine blk_drewN ?_ _ | refine blk_drew ?_ | refine blk_alloc ?_ _)); exact BK221.out) hb)
      have n5_ := Aside0.mk (blk_below (g := gb233) (o := .cells #[.int .i64 t227, .slice Ao23 t228.length co23] 24 (0, 0)) (by (with_reducible repeat (first | refine blk_drewN ?_ _ | refine blk_drew ?_ | refine blk_alloc ?_ _)); exact BK233.out) hb)
      have n6_ := Aside0.mk (blk_below (g := gb238) (o := .cells #[.int .i64 t234, .slice Ao30 t235.length co30] 24 (0, 0)) (by (with_reducible repeat (first | refine blk_drewN ?_ _ | refine blk_drew ?_ | refine blk_alloc ?_ _)); exact BK238.out) hb)
      have n7_ := Aside0.mk (blk_below (g := gb245) (o := .cells #[.int .i64 t239, .slice Ao37 t240.length co37] 24 (0, 0)) (by (with_reducible repeat (first | refine blk_drewN ?_ _ | refine blk_drew ?_ | refine blk_alloc ?_ _)); exact BK245.out) hb)
      have n8_ := Aside0.mk (below_step (by repeat (first | (with_reducible first | exact HB.out | apply below_alloc | apply pw_below_drewN | apply below_drew1 | refine below_set ?_ GE221.out | refine below_set ?_ GE233.out | refine below_set ?_ GE238.out | refine below_set ?_ GE245.out) | exact HB.out)) hb)
      clear HO_234001
      clear HO_239001
      clear HO_246001
      clear HO250
      clear BK221
      clear BK233
      clear BK238
      clear BK245
      clear HB
      have HO_234001 := n0_
      have HO_239001 := n1_
      have HO_246001 := n2_
      have HO250 := n3_
      have BK221 := n4_
      have BK233 := n5_
      have BK238 := n6_
      have BK245 := n7_
      have HB := n8_
      clear n0_ n1_ n2_ n3_ n4_ n5_ n6_ n7_ n8_
      (try clear hb)
      (try clear hb2)
      (try clear hk)
      (try clear hi)
      refine hK.out _ _ ⟨(blk_cell BK238.out 0).trans rfl, (blk_cell BK238.out 1).trans rfl, (blk_cell BK221.out 0).trans rfl, (blk_cell BK221.out 1).trans rfl⟩ (fun hHeld => ?_)
      clear hK K
      refine norm_ (a' := ?_) ?_ ?_
      rotate_left
      ·show Act.put _ (some 58) _ = _
       simp only [Act.put, List.setIfInBounds_toArray, List.set_cons_zero, List.set_cons_succ, i64_w, i32_w]
       rfl
      refine pure_s (i := 4) (N := some 59) (bs 5 5) (by kernel_rfl) (h := ?_)
      refine done_ (by kernel_rfl) ?_
      try go_wp2
      go_ret
      exact ⟨by first | rfl | (simp [errW_none, errW_some] <;> rfl) | (simp [*, errW_none, errW_some] <;> rfl), by repeat (first | (with_reducible first | exact HB.out | apply below_alloc | apply pw_below_drewN | apply below_drew1 | refine below_set ?_ GE221.out | refine below_set ?_ GE233.out | refine below_set ?_ GE238.out | refine below_set ?_ GE245.out) | exact HB.out)⟩

/-! What is told of arguments that came in -/
def W29 (x : S29) : Prop := ((Lit.int .i64 x.f0).wf = true) ∧ ((x.f1.length ≤ maxLen ∧ ∀ y_ ∈ x.f1, (Lit.int .i64 y_).wf = true))
/-- THE ONE PURE STATEMENT of laws_FnExactSlabTake: yours. -/
def laws_FnExactSlabTake.Pure : Prop := ∀ (a0_0 : Int) (l0_1 : List Int) (a1 : Int), W29 (⟨a0_0, l0_1⟩ : S29) → (Lit.int .i64 a1).wf = true → ∃ k, laws_FnExactSlabTake.f k a0_0 l0_1 a1 = some true
theorem laws_FnExactSlabTake.walk (P : laws_FnExactSlabTake.Pure) (w : World) (x0 : S29) (A0_1 : Option Addr) (c0_1 : Nat) (hc0_1 : x0.f1.length ≤ c0_1) (hr0_1 : Kd.C (Kd.int .i64) w A0_1 x0.f1.length x0.f1) (hw0 : W29 x0) (a1 : Int) (hw1 : (Lit.int .i64 a1).wf = true) :
  Calls Try.prog 10 #[.agg #[.int .i64 x0.f0, .slice A0_1 x0.f1.length c0_1], .int .i64 a1] w fun e w' => e = .returned (.bool true) ∧ Below w.heap.size w w' := by
 obtain ⟨k, h⟩ := P (x0.f0) (x0.f1) a1 hw0 hw1
 refine (laws_FnExactSlabTake.calls k (x0.f0) A0_1 c0_1 x0.f1 a1 true w hr0_1 hc0_1 h).mono ?_
 rintro e w' ⟨rfl, hd⟩
 exact ⟨rfl, hd⟩

end Go.Proofs.Ytaglpjlapfocfaa.PFnExactSlabTake
