-- printed by a program of this session (wip/printx) out of the translation; Lean checks it
import Derived.Test.YtaglpjlapfocfaaPFnTakeGivex0
import Derived.Test.YtaglpjlapfocfaaPFnTakeGivex3
import Derived.Test.YtaglpjlapfocfaaPFnTakeGivex4
import Derived.Test.YtaglpjlapfocfaaPFnTakeGivex5
import Derived.Test.YtaglpjlapfocfaaPFnTakeGivex6
import Derived.Test.YtaglpjlapfocfaaPFnTakeGivex7
import Derived.Test.YtaglpjlapfocfaaPFnTakeGivex12
namespace Go.Proofs.Ytaglpjlapfocfaa.PFnTakeGive
open Go.RowKit Go.Proofs.YtaglpjlapfocfaaW.PrintWords Go.Proofs.YtaglpjlapfocfaaW.PrintLast Go.Proofs.YtaglpjlapfocfaaW.PrintMore
attribute [local go_sem] max2_int min2_int max_two min_two max_three min_three max_four min_four   -- for this text's walks alone
set_option linter.unusedVariables false
set_option linter.unusedSimpArgs false

/-! ### laws_FnTakeGive: function 14 -/
mutual
def laws_FnTakeGive.j0 : Nat → Int → Int → Int → Int → Bool → Int → List Int → Int → List Int → Option (Bool)
  | 0, _, _, _, _, _, _, _, _, _ => none
  | k + 1, x4, x7, x11, x12, x47, x393000, x393001, x413000, x413001 => if x47 = true then (some (x12 == x7)) else ((impl_SlabChain.f k x413000 x413001 x11).bind fun t413 => (if (t413.length : Int) = x4 then ((impl_SlabRoom.f k x413000 x413001).bind fun t416 => ((spec_SlabRoom.f k x393000 x393001).bind fun t417 => (laws_FnTakeGive.j1 k x11 (t416 != (wrap64 (t417 - x4))) x393000 x393001 x413000 x413001))) else (laws_FnTakeGive.j1 k x11 true x393000 x393001 x413000 x413001)))
def laws_FnTakeGive.j1 : Nat → Int → Bool → Int → List Int → Int → List Int → Option (Bool)
  | 0, _, _, _, _, _, _ => none
  | k + 1, x11, x65, x393000, x393001, x413000, x413001 => if x65 = true then (some false) else ((impl_SlabGive.f k x413000 x413001 x11).bind fun bt418 => (if bt418.2.2 = 0 then (if bt418.1 = x393000 then ((laws_same.f k bt418.2.1 x393001).bind fun t424 => (some t424)) else (some false)) else (some false)))
end
def laws_FnTakeGive.f (k : Nat) (l0 : List Int) : Option (Bool) := (laws_big.f l0).bind fun t386 => (if t386 = true then (some true) else ((spec_DrawSlabTake.f k l0).bind fun bt387 => ((spec_SlabTake.f k bt387.1 bt387.2.1 bt387.2.2).bind fun bt393 => ((spec_DrawSlabTake.f k l0).bind fun bt400 => ((impl_SlabTake.f k bt400.1 bt400.2.1 bt387.2.2).bind fun bt406 => (if bt406.2.2.2 = bt393.2.2.2 then (laws_FnTakeGive.j0 k bt387.2.2 bt393.2.2.2 bt406.2.2.1 bt406.2.2.2 (bt406.2.2.2 != 0) bt387.1 bt387.2.1 bt406.1 bt406.2.1) else (laws_FnTakeGive.j0 k bt387.2.2 bt393.2.2.2 bt406.2.2.1 bt406.2.2.2 true bt387.1 bt387.2.1 bt406.1 bt406.2.1)))))))
theorem laws_FnTakeGive.mono_l : ∀ k, (∀ y0 y1 y2 y3 y4 y5 y6 y7 y8, LeO (laws_FnTakeGive.j0 k y0 y1 y2 y3 y4 y5 y6 y7 y8) (laws_FnTakeGive.j0 (k + 1) y0 y1 y2 y3 y4 y5 y6 y7 y8)) ∧ (∀ y0 y1 y2 y3 y4 y5, LeO (laws_FnTakeGive.j1 k y0 y1 y2 y3 y4 y5) (laws_FnTakeGive.j1 (k + 1) y0 y1 y2 y3 y4 y5))
 | 0 => ⟨fun _ _ _ _ _ _ _ _ _ r h => by simp [laws_FnTakeGive.j0] at h, fun _ _ _ _ _ _ r h => by simp [laws_FnTakeGive.j1] at h⟩
 | k + 1 => by
  obtain ⟨ih0, ih1⟩ := laws_FnTakeGive.mono_l k
  refine ⟨?_, ?_⟩
  ·intro y0 y1 y2 y3 y4 y5 y6 y7 y8
   unfold laws_FnTakeGive.j0
   repeat' first
   | (with_reducible exact ih0 _ _ _ _ _ _ _ _ _)
   | (with_reducible exact ih1 _ _ _ _ _ _)
   | (with_reducible exact impl_SlabChain.mono _ _ _ _)
   | (with_reducible exact impl_SlabGive.mono _ _ _ _)
   | (with_reducible exact impl_SlabRoom.mono _ _ _)
   | (with_reducible exact impl_SlabTake.mono _ _ _ _)
   | (with_reducible exact laws_same.mono _ _ _)
   | (with_reducible exact spec_DrawSlabTake.mono _ _)
   | (with_reducible exact spec_SlabRoom.mono _ _ _)
   | (with_reducible exact spec_SlabTake.mono _ _ _ _)
   | (with_reducible exact LeO.refl _)
   | (with_reducible exact LeO.none _)
   | (with_reducible refine LeO.ite ?_ ?_)
   | (with_reducible refine LeO.bind ?_ (fun _ => ?_))
   | exact ih0 _ _ _ _ _ _ _ _ _
   | exact ih1 _ _ _ _ _ _
   | exact impl_SlabChain.mono _ _ _ _
   | exact impl_SlabGive.mono _ _ _ _
   | exact impl_SlabRoom.mono _ _ _
   | exact impl_SlabTake.mono _ _ _ _
   | exact laws_same.mono _ _ _
   | exact spec_DrawSlabTake.mono _ _
   | exact spec_SlabRoom.mono _ _ _
   | exact spec_SlabTake.mono _ _ _ _
   | exact LeO.none _
   | refine LeO.ite ?_ ?_
   | refine LeO.bind ?_ (fun _ => ?_)
  ·intro y0 y1 y2 y3 y4 y5
   unfold laws_FnTakeGive.j1
   repeat' first
   | (with_reducible exact ih0 _ _ _ _ _ _ _ _ _)
   | (with_reducible exact ih1 _ _ _ _ _ _)
   | (with_reducible exact impl_SlabChain.mono _ _ _ _)
   | (with_reducible exact impl_SlabGive.mono _ _ _ _)
   | (with_reducible exact impl_SlabRoom.mono _ _ _)
   | (with_reducible exact impl_SlabTake.mono _ _ _ _)
   | (with_reducible exact laws_same.mono _ _ _)
   | (with_reducible exact spec_DrawSlabTake.mono _ _)
   | (with_reducible exact spec_SlabRoom.mono _ _ _)
   | (with_reducible exact spec_SlabTake.mono _ _ _ _)
   | (with_reducible exact LeO.refl _)
   | (with_reducible exact LeO.none _)
   | (with_reducible refine LeO.ite ?_ ?_)
   | (with_reducible refine LeO.bind ?_ (fun _ => ?_))
   | exact ih0 _ _ _ _ _ _ _ _ _
   | exact ih1 _ _ _ _ _ _
   | exact impl_SlabChain.mono _ _ _ _
   | exact impl_SlabGive.mono _ _ _ _
   | exact impl_SlabRoom.mono _ _ _
   | exact impl_SlabTake.mono _ _ _ _
   | exact laws_same.mono _ _ _
   | exact spec_DrawSlabTake.mono _ _
   | exact spec_SlabRoom.mono _ _ _
   | exact spec_SlabTake.mono _ _ _ _
   | exact LeO.none _
   | refine LeO.ite ?_ ?_
   | refine LeO.bind ?_ (fun _ => ?_)
theorem laws_FnTakeGive.mono : ∀ a0 k, LeO (laws_FnTakeGive.f k a0) (laws_FnTakeGive.f (k + 1) a0) := by
 intro a0 k
 obtain ⟨ih0, ih1⟩ := laws_FnTakeGive.mono_l k
 unfold laws_FnTakeGive.f
 repeat' first
   | (with_reducible exact ih0 _ _ _ _ _ _ _ _ _)
   | (with_reducible exact ih1 _ _ _ _ _ _)
   | (with_reducible exact impl_SlabChain.mono _ _ _ _)
   | (with_reducible exact impl_SlabGive.mono _ _ _ _)
   | (with_reducible exact impl_SlabRoom.mono _ _ _)
   | (with_reducible exact impl_SlabTake.mono _ _ _ _)
   | (with_reducible exact laws_same.mono _ _ _)
   | (with_reducible exact spec_DrawSlabTake.mono _ _)
   | (with_reducible exact spec_SlabRoom.mono _ _ _)
   | (with_reducible exact spec_SlabTake.mono _ _ _ _)
   | (with_reducible exact LeO.refl _)
   | (with_reducible exact LeO.none _)
   | (with_reducible refine LeO.ite ?_ ?_)
   | (with_reducible refine LeO.bind ?_ (fun _ => ?_))
   | exact ih0 _ _ _ _ _ _ _ _ _
   | exact ih1 _ _ _ _ _ _
   | exact impl_SlabChain.mono _ _ _ _
   | exact impl_SlabGive.mono _ _ _ _
   | exact impl_SlabRoom.mono _ _ _
   | exact impl_SlabTake.mono _ _ _ _
   | exact laws_same.mono _ _ _
   | exact spec_DrawSlabTake.mono _ _
   | exact spec_SlabRoom.mono _ _ _
   | exact spec_SlabTake.mono _ _ _ _
   | exact LeO.none _
   | refine LeO.ite ?_ ?_
   | refine LeO.bind ?_ (fun _ => ?_)
def laws_FnTakeGive.T9 : Bool × List (List Nat × List Nat) := (true, [([], []), ([], []), ([0, 1], [0, 1]), ([2], [2]), ([], []), ([3, 4], [3, 4]), ([5, 2], [5]), ([6], [6]), ([7, 6, 6], [6, 7]), ([6], [6]), ([9, 8, 6], [6, 9]), ([6], [6]), ([10, 11, 6], [6, 10, 11]), ([8, 12, 6], [6, 8, 12]), ([6, 13], [6, 13])])
def laws_FnTakeGive.B9 : List Nat := [0, 0, 3, 7, 0, 31, 63, 127, 255, 127, 1023, 127, 4095, 8191, 16383]
theorem laws_FnTakeGive.tab9 : rtab .any (opsOf Try.f14 9) = laws_FnTakeGive.T9 := by kernel_rfl
theorem laws_FnTakeGive.bits9 : waitsOk laws_FnTakeGive.T9.2 laws_FnTakeGive.B9 = true := by kernel_rfl
set_option maxHeartbeats 8000000 in
set_option maxRecDepth 100000 in
theorem laws_FnTakeGive.calls (k : Nat) (A0 : Option Addr) (c0 : Nat) (l0 : List Int) (r : Bool) (w : World) (hr0 : Kd.C (Kd.int .u8) w A0 l0.length l0) (hc0 : l0.length ≤ c0) (h : laws_FnTakeGive.f k l0 = some r) :
  Calls Try.prog 14 #[.slice A0 l0.length c0] w fun e w' => e = .returned (.bool r) ∧ Below w.heap.size w w' := by
 have hu24 := Try.underlying24
 have HR0 := Aside0.mk hr0
 have HC0 := Aside0.mk hc0
 clear hr0 hc0
 have HB := Aside0.mk (Below.refl w.heap.size w)
 have H : ((laws_big.f l0).bind fun t386 => (if t386 = true then (some true) else ((spec_DrawSlabTake.f k l0).bind fun bt387 => ((spec_SlabTake.f k bt387.1 bt387.2.1 bt387.2.2).bind fun bt393 => ((spec_DrawSlabTake.f k l0).bind fun bt400 => ((impl_SlabTake.f k bt400.1 bt400.2.1 bt387.2.2).bind fun bt406 => (if bt406.2.2.2 = bt393.2.2.2 then (laws_FnTakeGive.j0 k bt387.2.2 bt393.2.2.2 bt406.2.2.1 bt406.2.2.2 (bt406.2.2.2 != 0) bt387.1 bt387.2.1 bt406.1 bt406.2.1) else (laws_FnTakeGive.j0 k bt387.2.2 bt393.2.2.2 bt406.2.2.1 bt406.2.2.2 true bt387.1 bt387.2.1 bt406.1 bt406.2.1)))))))) = some r := h
 clear h
 replace H := Option.bind_eq_some_iff.mp H
 obtain ⟨t386, A20, H⟩ := H
 replace H : (if t386 = true then (some true) else ((spec_DrawSlabTake.f k l0).bind fun bt387 => ((spec_SlabTake.f k bt387.1 bt387.2.1 bt387.2.2).bind fun bt393 => ((spec_DrawSlabTake.f k l0).bind fun bt400 => ((impl_SlabTake.f k bt400.1 bt400.2.1 bt387.2.2).bind fun bt406 => (if bt406.2.2.2 = bt393.2.2.2 then (laws_FnTakeGive.j0 k bt387.2.2 bt393.2.2.2 bt406.2.2.1 bt406.2.2.2 (bt406.2.2.2 != 0) bt387.1 bt387.2.1 bt406.1 bt406.2.1) else (laws_FnTakeGive.j0 k bt387.2.2 bt393.2.2.2 bt406.2.2.1 bt406.2.2.2 true bt387.1 bt387.2.1 bt406.1 bt406.2.1))))))) = some r := H
 have A2 := Aside0.mk A20
 clear A20
 by_cases c3 : t386 = true
 ·subst c3
  have H1 : (some true) = some r := by rw [if_pos rfl] at H; exact H
  clear H
  have H := H1
  clear H1
  obtain rfl := Option.some.inj H
  go_enter Try.func14, Try.ntmps14
  go_wp2_with (first | ((with_reducible refine gate_callee (f := 46) rfl ?_); refine goesL_ (some 16) rfl rfl Try.func46 (by kernel_rfl) rfl #[.slice A0 l0.length c0] rfl mt_ ?_; (with_reducible refine (laws_big.calls _ _ l0 true _ ?side1 ?side2 A2.out).mono ?_); (case side1 => repeat (first | exact HR0.out | (with_reducible refine Kd.C_alloc ?_ _) | (with_reducible refine Kd.C_drewN ?_ _) | (with_reducible refine Kd.C_drew ?_))); (case side2 => exact HC0.out); rintro e w' ⟨rfl, ⟨nd, rfl⟩⟩; refine ⟨_, rfl, ?_⟩))
  go_ret
  exact ⟨by first | rfl | (simp [errW_none, errW_some] <;> rfl) | (simp [*, errW_none, errW_some] <;> rfl), be_ HB⟩
 ·replace c3 := Bool.eq_false_iff.mpr c3
  subst c3
  have H1 : ((spec_DrawSlabTake.f k l0).bind fun bt387 => ((spec_SlabTake.f k bt387.1 bt387.2.1 bt387.2.2).bind fun bt393 => ((spec_DrawSlabTake.f k l0).bind fun bt400 => ((impl_SlabTake.f k bt400.1 bt400.2.1 bt387.2.2).bind fun bt406 => (if bt406.2.2.2 = bt393.2.2.2 then (laws_FnTakeGive.j0 k bt387.2.2 bt393.2.2.2 bt406.2.2.1 bt406.2.2.2 (bt406.2.2.2 != 0) bt387.1 bt387.2.1 bt406.1 bt406.2.1) else (laws_FnTakeGive.j0 k bt387.2.2 bt393.2.2.2 bt406.2.2.1 bt406.2.2.2 true bt387.1 bt387.2.1 bt406.1 bt406.2.1)))))) = some r := by rw [if_neg (show ¬ (false = true) by decide)] at H; exact H
  clear H
  have H := H1
  clear H1
  replace H := Option.bind_eq_some_iff.mp H
  obtain ⟨⟨t387, t388, t391⟩, A40, H⟩ := H
  replace H : ((spec_SlabTake.f k t387 t388 t391).bind fun bt393 => ((spec_DrawSlabTake.f k l0).bind fun bt400 => ((impl_SlabTake.f k bt400.1 bt400.2.1 t391).bind fun bt406 => (if bt406.2.2.2 = bt393.2.2.2 then (laws_FnTakeGive.j0 k t391 bt393.2.2.2 bt406.2.2.1 bt406.2.2.2 (bt406.2.2.2 != 0) t387 t388 bt406.1 bt406.2.1) else (laws_FnTakeGive.j0 k t391 bt393.2.2.2 bt406.2.2.1 bt406.2.2.2 true t387 t388 bt406.1 bt406.2.1))))) = some r := H
  have A4 := Aside0.mk A40
  clear A40
  replace H := Option.bind_eq_some_iff.mp H
  obtain ⟨⟨t393, t394, t397, t398⟩, A50, H⟩ := H
  replace H : ((spec_DrawSlabTake.f k l0).bind fun bt400 => ((impl_SlabTake.f k bt400.1 bt400.2.1 t391).bind fun bt406 => (if bt406.2.2.2 = t398 then (laws_FnTakeGive.j0 k t391 t398 bt406.2.2.1 bt406.2.2.2 (bt406.2.2.2 != 0) t387 t388 bt406.1 bt406.2.1) else (laws_FnTakeGive.j0 k t391 t398 bt406.2.2.1 bt406.2.2.2 true t387 t388 bt406.1 bt406.2.1)))) = some r := H
  have A5 := Aside0.mk A50
  clear A50
  replace H := Option.bind_eq_some_iff.mp H
  obtain ⟨⟨t400, t401, t404⟩, A60, H⟩ := H
  replace H : ((impl_SlabTake.f k t400 t401 t391).bind fun bt406 => (if bt406.2.2.2 = t398 then (laws_FnTakeGive.j0 k t391 t398 bt406.2.2.1 bt406.2.2.2 (bt406.2.2.2 != 0) t387 t388 bt406.1 bt406.2.1) else (laws_FnTakeGive.j0 k t391 t398 bt406.2.2.1 bt406.2.2.2 true t387 t388 bt406.1 bt406.2.1))) = some r := H
  have A6 := Aside0.mk A60
  clear A60
  replace H := Option.bind_eq_some_iff.mp H
  obtain ⟨⟨t406, t407, t410, t411⟩, A70, H⟩ := H
  replace H : (if t411 = t398 then (laws_FnTakeGive.j0 k t391 t398 t410 t411 (t411 != 0) t387 t388 t406 t407) else (laws_FnTakeGive.j0 k t391 t398 t410 t411 true t387 t388 t406 t407)) = some r := H
  have A7 := Aside0.mk A70
  clear A70
  have HC8 := Aside0.mk H
  clear H
  go_enter Try.func14, Try.ntmps14
  go_upto_region 7 with (first | ((with_reducible refine gate_callee (f := 46) rfl ?_); refine goesL_ (some 16) rfl rfl Try.func46 (by kernel_rfl) rfl #[.slice A0 l0.length c0] rfl mt_ ?_; (with_reducible refine (laws_big.calls _ _ l0 false _ ?side1 ?side2 A2.out).mono ?_); (case side1 => repeat (first | exact HR0.out | (with_reducible refine Kd.C_alloc ?_ _) | (with_reducible refine Kd.C_drewN ?_ _) | (with_reducible refine Kd.C_drew ?_))); (case side2 => exact HC0.out); rintro e w' ⟨rfl, ⟨nd, rfl⟩⟩; refine ⟨_, rfl, ?_⟩) | ((with_reducible refine gate_callee (f := 58) rfl ?_); refine goesL_ (some 19) rfl rfl Try.func58 (by kernel_rfl) rfl #[.slice A0 l0.length c0] rfl mt_ ?_; (with_reducible refine (spec_DrawSlabTake.calls k _ _ l0 t387 t388 t391 _ ?side1 ?side2 A4.out).mono ?_); (case side1 => repeat (first | exact HR0.out | (with_reducible refine Kd.C_alloc ?_ _) | (with_reducible refine Kd.C_drewN ?_ _) | (with_reducible refine Kd.C_drew ?_))); (case side2 => exact HC0.out); rintro e w9 ⟨v389, rfl, ho0, hb⟩; refine ⟨_, rfl, ?_⟩; have n0_ := Aside0.mk (Kd.R_lower ho0 (below_size (be_ HB))); have n1_ := Aside0.mk (below_step (be_ HB) hb); clear HB; have HO390 := n0_; have HB := n1_; clear n0_ n1_; (try clear hb); (try clear hb2); (try clear hk); (try clear hi); (try clear ho0)) | ((with_reducible refine gate_dst (N := 3) rfl ?_); refine box_event ?hg (N := 3) ?hd (cs := #[.int .i64 0, .slice none 0 0]) (t := 24) ?hr ?_; (case hd => rfl); (case hg => rfl); (case hr => first | (go_simp; done) | (go_simp; rfl)); intro gb392 hg w10 hbox hb; have n0_ := Aside0.mk (Kd.R_below (kr_ HO390) hb); have n1_ := Aside0.mk (below_step (be_ HB) hb); have n2_ := Aside0.mk (hbox); have n3_ := Aside0.mk ((by rw [hg]; exact (below_size (be_ HB)) : w.heap.size ≤ gb392)); have n4_ := Aside0.mk ((by rw [hg]; exact (below_size (be_ HB)) : w.heap.size ≤ gb392)); clear HO390; clear HB; have HO390 := n0_; have HB := n1_; have BK392 := n2_; have GW392 := n3_; have GE392 := n4_; clear n0_ n1_ n2_ n3_ n4_; clear hb hbox hg; have hcz11_0 : w10.cell? ⟨gb392, 0, none⟩ = some (.int .i64 0) := (blk_cell BK392.out 0).trans rfl; have hcz11_1 : w10.cell? ⟨gb392, 1, none⟩ = some (.slice none 0 0) := (blk_cell BK392.out 1).trans rfl; have hfz11_0 := blk_frozen BK392.out 0; have hfz11_1 := blk_frozen BK392.out 1; obtain ⟨Ao12, co12, eo12⟩ := Kd.R_slice HO390.out; subst eo12) | ((with_reducible refine gate_callee (f := 44) rfl ?_); refine goesL_ (some 25) rfl rfl Try.func44 (by kernel_rfl) rfl #[.agg #[.int .i64 t387, .slice Ao12 t388.length co12], .int .i64 t391] rfl mt_ ?_; (with_reducible refine (spec_SlabTake.calls k t387 _ _ t388 t391 t393 t394 t397 t398 _ ?side1 ?side2 A5.out).mono ?_); (case side1 => refine (Kd.R_reads' (e := 3) (base := w.heap.size) (ok := fun k_ => True) (n := t388.length) (c := co12) ?_).2.2; exact (by (with_reducible repeat (first | apply Kd.R_alloc | apply Kd.R_drewN | apply Kd.R_drew)); exact (Kd.R_mono (Kd.R_far (p := ⟨gb392, 1, none⟩) (Kd.R_far (p := ⟨gb392, 0, none⟩) (Kd.R_types HO390.out BK392.out (by decide)) (fun _ hk => by first | exact hk.2 | grind) (.int .i64 t387)) (fun _ hk => by first | exact hk.2 | grind) (.slice Ao12 t388.length co12)) (fun _ h_ => h_.1)))); (case side2 => exact (Kd.R_reads' HO390.out).2.1); rintro e w13 ⟨v395, rfl, ho0, hb⟩; refine ⟨_, rfl, ?_⟩; have n0_ := Aside0.mk (Kd.R_elder' (by (with_reducible repeat (first | apply Kd.R_alloc | apply Kd.R_drewN | apply Kd.R_drew)); exact (Kd.R_mono (Kd.R_far (p := ⟨gb392, 1, none⟩) (Kd.R_far (p := ⟨gb392, 0, none⟩) (Kd.R_types HO390.out BK392.out (by decide)) (fun _ hk => by first | exact hk.2 | grind) (.int .i64 t387)) (fun _ hk => by first | exact hk.2 | grind) (.slice Ao12 t388.length co12)) (fun _ h_ => h_.1))) (Kd.R_base ho0) hb); have n1_ := Aside0.mk (Kd.R_lower (Kd.R_new' ho0 (Kd.R_lt (by (with_reducible repeat (first | apply Kd.R_alloc | apply Kd.R_drewN | apply Kd.R_drew)); exact (Kd.R_mono (Kd.R_far (p := ⟨gb392, 1, none⟩) (Kd.R_far (p := ⟨gb392, 0, none⟩) (Kd.R_types HO390.out BK392.out (by decide)) (fun _ hk => by first | exact hk.2 | grind) (.int .i64 t387)) (fun _ hk => by first | exact hk.2 | grind) (.slice Ao12 t388.length co12)) (fun _ h_ => h_.1))))) (below_size (by repeat (first | (with_reducible first | exact HB.out | apply below_alloc | apply pw_below_drewN | apply below_drew1 | refine below_set ?_ GE392.out) | exact HB.out)))); have n2_ := Aside0.mk (blk_below (g := gb392) (o := .cells #[.int .i64 t387, .slice Ao12 t388.length co12] 24 (0, 0)) (by (with_reducible repeat (first | refine blk_drewN ?_ _ | refine blk_drew ?_ | refine blk_alloc ?_ _)); refine blk_put (cs := #[.int .i64 t387, .slice none 0 0]) ?_ 1 _ rfl; (with_reducible repeat (first | refine blk_drewN ?_ _ | refine blk_drew ?_ | refine blk_alloc ?_ _)); refine blk_put (cs := #[.int .i64 0, .slice none 0 0]) ?_ 0 _ rfl; exact bk_ BK392) hb); have n3_ := Aside0.mk (below_step (by repeat (first | (with_reducible first | exact HB.out | apply below_alloc | apply pw_below_drewN | apply below_drew1 | refine below_set ?_ GE392.out) | exact HB.out)) hb); clear HO390; clear BK392; clear HB; have HO390 := n0_; have HO396 := n1_; have BK392 := n2_; have HB := n3_; clear n0_ n1_ n2_ n3_; (try clear hb); (try clear hb2); (try clear hk); (try clear hi); (try clear ho0)) | ((with_reducible refine gate_dst (N := 5) rfl ?_); refine box_event ?hg (N := 5) ?hd (cs := #[.int .i64 0, .slice none 0 0]) (t := 24) ?hr ?_; (case hd => rfl); (case hg => rfl); (case hr => first | (go_simp; done) | (go_simp; rfl)); intro gb399 hg w14 hbox hb; have n0_ := Aside0.mk (Kd.R_below (kr_ HO390) hb); have n1_ := Aside0.mk (Kd.R_below (kr_ HO396) hb); have n2_ := Aside0.mk (blk_below (g := gb392) (o := .cells #[.int .i64 t387, .slice Ao12 t388.length co12] 24 (0, 0)) (bk_ BK392) hb); have n3_ := Aside0.mk (below_step (by repeat (first | (with_reducible first | exact HB.out | apply below_alloc | apply pw_below_drewN | apply below_drew1 | refine below_set ?_ GE392.out) | exact HB.out)) hb); have n4_ := Aside0.mk (hbox); have n5_ := Aside0.mk ((by rw [hg]; exact (below_size (by repeat (first | (with_reducible first | exact HB.out | apply below_alloc | apply pw_below_drewN | apply below_drew1 | refine below_set ?_ GE392.out) | exact HB.out))) : w.heap.size ≤ gb399)); have n6_ := Aside0.mk ((by rw [hg]; exact (below_size (by repeat (first | (with_reducible first | exact HB.out | apply below_alloc | apply pw_below_drewN | apply below_drew1 | refine below_set ?_ GE392.out) | exact HB.out))) : w.heap.size ≤ gb399)); have n7_ := Aside0.mk ((by rw [hg]; exact Nat.ne_of_lt (blk_lt (g := gb392) (o := .cells #[.int .i64 t387, .slice Ao12 t388.length co12] 24 (0, 0)) (bk_ BK392)) : gb392 ≠ gb399)); have n8_ := Aside0.mk ((by rw [hg]; exact Nat.ne_of_gt (blk_lt (g := gb392) (o := .cells #[.int .i64 t387, .slice Ao12 t388.length co12] 24 (0, 0)) (bk_ BK392)) : gb399 ≠ gb392)); clear HO390; clear HO396; clear BK392; clear HB; have HO390 := n0_; have HO396 := n1_; have BK392 := n2_; have HB := n3_; have BK399 := n4_; have GW399 := n5_; have GE399 := n6_; have NB392_399 := n7_; have NB399_392 := n8_; clear n0_ n1_ n2_ n3_ n4_ n5_ n6_ n7_ n8_; clear hb hbox hg; have hnb15 := NB399_392.out; have hnc15 := NB392_399.out; have hcz16_0 : w14.cell? ⟨gb399, 0, none⟩ = some (.int .i64 0) := (blk_cell BK399.out 0).trans rfl; have hcz16_1 : w14.cell? ⟨gb399, 1, none⟩ = some (.slice none 0 0) := (blk_cell BK399.out 1).trans rfl; have hfz16_0 := blk_frozen BK399.out 0; have hfz16_1 := blk_frozen BK399.out 1; obtain ⟨Ao17, co17, eo17⟩ := Kd.R_slice HO396.out; subst eo17) | ((with_reducible refine gate_callee (f := 58) rfl ?_); refine goesL_ (some 31) rfl rfl Try.func58 (by kernel_rfl) rfl #[.slice A0 l0.length c0] rfl mt_ ?_; (with_reducible refine (spec_DrawSlabTake.calls k _ _ l0 t400 t401 t404 _ ?side1 ?side2 A6.out).mono ?_); (case side1 => exact Kd.C_below HR0.out (by repeat (first | (with_reducible first | exact HB.out | apply below_alloc | apply pw_below_drewN | apply below_drew1 | refine below_set ?_ GE392.out | refine below_set ?_ GE399.out) | exact HB.out))); (case side2 => exact HC0.out); rintro e w18 ⟨v402, rfl, ho0, hb⟩; refine ⟨_, rfl, ?_⟩; have n0_ := Aside0.mk (Kd.R_elder' (by (with_reducible repeat (first | apply Kd.R_alloc | apply Kd.R_drewN | apply Kd.R_drew)); exact (Kd.R_mono (Kd.R_far (p := ⟨gb399, 1, none⟩) (Kd.R_far (p := ⟨gb399, 0, none⟩) (Kd.R_types HO390.out BK399.out (by decide)) (fun _ hk => by first | exact hk.2 | grind) (.int .i64 t393)) (fun _ hk => by first | exact hk.2 | grind) (.slice Ao17 t394.length co17)) (fun _ h_ => h_.1))) (Kd.R_base ho0) hb); have n1_ := Aside0.mk (Kd.R_elder' (by (with_reducible repeat (first | apply Kd.R_alloc | apply Kd.R_drewN | apply Kd.R_drew)); exact (Kd.R_mono (Kd.R_far (p := ⟨gb399, 1, none⟩) (Kd.R_far (p := ⟨gb399, 0, none⟩) (Kd.R_types HO396.out BK399.out (by decide)) (fun _ hk => by first | exact hk.2 | grind) (.int .i64 t393)) (fun _ hk => by first | exact hk.2 | grind) (.slice Ao17 t394.length co17)) (fun _ h_ => h_.1))) (Kd.R_base ho0) hb); have n2_ := Aside0.mk (Kd.R_lower (Kd.R_new' (Kd.R_new' ho0 (Kd.R_lt (by (with_reducible repeat (first | apply Kd.R_alloc | apply Kd.R_drewN | apply Kd.R_drew)); exact (Kd.R_mono (Kd.R_far (p := ⟨gb399, 1, none⟩) (Kd.R_far (p := ⟨gb399, 0, none⟩) (Kd.R_types HO390.out BK399.out (by decide)) (fun _ hk => by first | exact hk.2 | grind) (.int .i64 t393)) (fun _ hk => by first | exact hk.2 | grind) (.slice Ao17 t394.length co17)) (fun _ h_ => h_.1))))) (Kd.R_lt (by (with_reducible repeat (first | apply Kd.R_alloc | apply Kd.R_drewN | apply Kd.R_drew)); exact (Kd.R_mono (Kd.R_far (p := ⟨gb399, 1, none⟩) (Kd.R_far (p := ⟨gb399, 0, none⟩) (Kd.R_types HO396.out BK399.out (by decide)) (fun _ hk => by first | exact hk.2 | grind) (.int .i64 t393)) (fun _ hk => by first | exact hk.2 | grind) (.slice Ao17 t394.length co17)) (fun _ h_ => h_.1))))) (below_size (by repeat (first | (with_reducible first | exact HB.out | apply below_alloc | apply pw_below_drewN | apply below_drew1 | refine below_set ?_ GE392.out | refine below_set ?_ GE399.out) | exact HB.out)))); have n3_ := Aside0.mk (blk_below (g := gb392) (o := .cells #[.int .i64 t387, .slice Ao12 t388.length co12] 24 (0, 0)) (by (with_reducible repeat (first | refine blk_drewN ?_ _ | refine blk_drew ?_ | refine blk_alloc ?_ _)); refine blk_far ?_ NB392_399.out _; (with_reducible repeat (first | refine blk_drewN ?_ _ | refine blk_drew ?_ | refine blk_alloc ?_ _)); refine blk_far ?_ NB392_399.out _; exact bk_ BK392) hb); have n4_ := Aside0.mk (blk_below (g := gb399) (o := .cells #[.int .i64 t393, .slice Ao17 t394.length co17] 24 (0, 0)) (by (with_reducible repeat (first | refine blk_drewN ?_ _ | refine blk_drew ?_ | refine blk_alloc ?_ _)); refine blk_put (cs := #[.int .i64 t393, .slice none 0 0]) ?_ 1 _ rfl; (with_reducible repeat (first | refine blk_drewN ?_ _ | refine blk_drew ?_ | refine blk_alloc ?_ _)); refine blk_put (cs := #[.int .i64 0, .slice none 0 0]) ?_ 0 _ rfl; exact bk_ BK399) hb); have n5_ := Aside0.mk (below_step (by repeat (first | (with_reducible first | exact HB.out | apply below_alloc | apply pw_below_drewN | apply below_drew1 | refine below_set ?_ GE392.out | refine below_set ?_ GE399.out) | exact HB.out)) hb); clear HO390; clear HO396; clear BK392; clear BK399; clear HB; have HO390 := n0_; have HO396 := n1_; have HO403 := n2_; have BK392 := n3_; have BK399 := n4_; have HB := n5_; clear n0_ n1_ n2_ n3_ n4_ n5_; (try clear hb); (try clear hb2); (try clear hk); (try clear hi); (try clear ho0)) | ((with_reducible refine gate_dst (N := 8) rfl ?_); refine box_event ?hg (N := 8) ?hd (cs := #[.int .i64 0, .slice none 0 0]) (t := 24) ?hr ?_; (case hd => rfl); (case hg => rfl); (case hr => first | (go_simp; done) | (go_simp; rfl)); intro gb405 hg w19 hbox hb; have n0_ := Aside0.mk (Kd.R_below (kr_ HO390) hb); have n1_ := Aside0.mk (Kd.R_below (kr_ HO396) hb); have n2_ := Aside0.mk (Kd.R_below (kr_ HO403) hb); have n3_ := Aside0.mk (blk_below (g := gb392) (o := .cells #[.int .i64 t387, .slice Ao12 t388.length co12] 24 (0, 0)) (bk_ BK392) hb); have n4_ := Aside0.mk (blk_below (g := gb399) (o := .cells #[.int .i64 t393, .slice Ao17 t394.length co17] 24 (0, 0)) (bk_ BK399) hb); have n5_ := Aside0.mk (below_step (by repeat (first | (with_reducible first | exact HB.out | apply below_alloc | apply pw_below_drewN | apply below_drew1 | refine below_set ?_ GE392.out | refine below_set ?_ GE399.out) | exact HB.out)) hb); have n6_ := Aside0.mk (hbox); have n7_ := Aside0.mk ((by rw [hg]; exact (below_size (by repeat (first | (with_reducible first | exact HB.out | apply below_alloc | apply pw_below_drewN | apply below_drew1 | refine below_set ?_ GE392.out | refine below_set ?_ GE399.out) | exact HB.out))) : w.heap.size ≤ gb405)); have n8_ := Aside0.mk ((by rw [hg]; exact (below_size (by repeat (first | (with_reducible first | exact HB.out | apply below_alloc | apply pw_below_drewN | apply below_drew1 | refine below_set ?_ GE392.out | refine below_set ?_ GE399.out) | exact HB.out))) : w.heap.size ≤ gb405)); have n9_ := Aside0.mk ((by rw [hg]; exact Nat.ne_of_lt (blk_lt (g := gb392) (o := .cells #[.int .i64 t387, .slice Ao12 t388.length co12] 24 (0, 0)) (bk_ BK392)) : gb392 ≠ gb405)); have n10_ := Aside0.mk ((by rw [hg]; exact Nat.ne_of_gt (blk_lt (g := gb392) (o := .cells #[.int .i64 t387, .slice Ao12 t388.length co12] 24 (0, 0)) (bk_ BK392)) : gb405 ≠ gb392)); have n11_ := Aside0.mk ((by rw [hg]; exact Nat.ne_of_lt (blk_lt (g := gb399) (o := .cells #[.int .i64 t393, .slice Ao17 t394.length co17] 24 (0, 0)) (bk_ BK399)) : gb399 ≠ gb405)); have n12_ := Aside0.mk ((by rw [hg]; exact Nat.ne_of_gt (blk_lt (g := gb399) (o := .cells #[.int .i64 t393, .slice Ao17 t394.length co17] 24 (0, 0)) (bk_ BK399)) : gb405 ≠ gb399)); clear HO390; clear HO396; clear HO403; clear BK392; clear BK399; clear HB; have HO390 := n0_; have HO396 := n1_; have HO403 := n2_; have BK392 := n3_; have BK399 := n4_; have HB := n5_; have BK405 := n6_; have GW405 := n7_; have GE405 := n8_; have NB392_405 := n9_; have NB405_392 := n10_; have NB399_405 := n11_; have NB405_399 := n12_; clear n0_ n1_ n2_ n3_ n4_ n5_ n6_ n7_ n8_ n9_ n10_ n11_ n12_; clear hb hbox hg; have hnb20 := NB405_392.out; have hnc20 := NB392_405.out; have hnb21 := NB405_399.out; have hnc21 := NB399_405.out; have hcz22_0 : w19.cell? ⟨gb405, 0, none⟩ = some (.int .i64 0) := (blk_cell BK405.out 0).trans rfl; have hcz22_1 : w19.cell? ⟨gb405, 1, none⟩ = some (.slice none 0 0) := (blk_cell BK405.out 1).trans rfl; have hfz22_0 := blk_frozen BK405.out 0; have hfz22_1 := blk_frozen BK405.out 1; obtain ⟨Ao23, co23, eo23⟩ := Kd.R_slice HO403.out; subst eo23) | ((with_reducible refine gate_callee (f := 45) rfl ?_); refine goesL_ (some 37) rfl rfl Try.func45 (by kernel_rfl) rfl #[.agg #[.int .i64 t400, .slice Ao23 t401.length co23], .int .i64 t391] rfl mt_ ?_; (with_reducible refine (impl_SlabTake.calls k t400 _ _ t401 t391 t406 t407 t410 t411 _ ?side1 ?side2 A7.out).mono ?_); (case side1 => refine (Kd.R_reads' (e := 3) (base := w.heap.size) (ok := fun k_ => ((True ∧ some k_ ≠ (.slice Ao12 t388.length co12 : Value).ownBlock) ∧ some k_ ≠ (.slice Ao17 t394.length co17 : Value).ownBlock)) (n := t401.length) (c := co23) ?_).2.2; exact (by (with_reducible repeat (first | apply Kd.R_alloc | apply Kd.R_drewN | apply Kd.R_drew)); exact (Kd.R_mono (Kd.R_far (p := ⟨gb405, 1, none⟩) (Kd.R_far (p := ⟨gb405, 0, none⟩) (Kd.R_types HO403.out BK405.out (by decide)) (fun _ hk => by first | exact hk.2 | grind) (.int .i64 t400)) (fun _ hk => by first | exact hk.2 | grind) (.slice Ao23 t401.length co23)) (fun _ h_ => h_.1)))); (case side2 => exact (Kd.R_reads' HO403.out).2.1); rintro e w24 ⟨v408, rfl, ho0, hb⟩; refine ⟨_, rfl, ?_⟩; have n0_ := Aside0.mk (Kd.R_elder' (by (with_reducible repeat (first | apply Kd.R_alloc | apply Kd.R_drewN | apply Kd.R_drew)); exact (Kd.R_mono (Kd.R_far (p := ⟨gb405, 1, none⟩) (Kd.R_far (p := ⟨gb405, 0, none⟩) (Kd.R_types HO390.out BK405.out (by decide)) (fun _ hk => by first | exact hk.2 | grind) (.int .i64 t400)) (fun _ hk => by first | exact hk.2 | grind) (.slice Ao23 t401.length co23)) (fun _ h_ => h_.1))) (Kd.R_base ho0) hb); have n1_ := Aside0.mk (Kd.R_elder' (by (with_reducible repeat (first | apply Kd.R_alloc | apply Kd.R_drewN | apply Kd.R_drew)); exact (Kd.R_mono (Kd.R_far (p := ⟨gb405, 1, none⟩) (Kd.R_far (p := ⟨gb405, 0, none⟩) (Kd.R_types HO396.out BK405.out (by decide)) (fun _ hk => by first | exact hk.2 | grind) (.int .i64 t400)) (fun _ hk => by first | exact hk.2 | grind) (.slice Ao23 t401.length co23)) (fun _ h_ => h_.1))) (Kd.R_base ho0) hb); have n2_ := Aside0.mk (Kd.R_elder' (by (with_reducible repeat (first | apply Kd.R_alloc | apply Kd.R_drewN | apply Kd.R_drew)); exact (Kd.R_mono (Kd.R_far (p := ⟨gb405, 1, none⟩) (Kd.R_far (p := ⟨gb405, 0, none⟩) (Kd.R_types HO403.out BK405.out (by decide)) (fun _ hk => by first | exact hk.2 | grind) (.int .i64 t400)) (fun _ hk => by first | exact hk.2 | grind) (.slice Ao23 t401.length co23)) (fun _ h_ => h_.1))) (Kd.R_base ho0) hb); have n3_ := Aside0.mk (Kd.R_lower (Kd.R_new' (Kd.R_new' (Kd.R_new' ho0 (Kd.R_lt (by (with_reducible repeat (first | apply Kd.R_alloc | apply Kd.R_drewN | apply Kd.R_drew)); exact (Kd.R_mono (Kd.R_far (p := ⟨gb405, 1, none⟩) (Kd.R_far (p := ⟨gb405, 0, none⟩) (Kd.R_types HO390.out BK405.out (by decide)) (fun _ hk => by first | exact hk.2 | grind) (.int .i64 t400)) (fun _ hk => by first | exact hk.2 | grind) (.slice Ao23 t401.length co23)) (fun _ h_ => h_.1))))) (Kd.R_lt (by (with_reducible repeat (first | apply Kd.R_alloc | apply Kd.R_drewN | apply Kd.R_drew)); exact (Kd.R_mono (Kd.R_far (p := ⟨gb405, 1, none⟩) (Kd.R_far (p := ⟨gb405, 0, none⟩) (Kd.R_types HO396.out BK405.out (by decide)) (fun _ hk => by first | exact hk.2 | grind) (.int .i64 t400)) (fun _ hk => by first | exact hk.2 | grind) (.slice Ao23 t401.length co23)) (fun _ h_ => h_.1))))) (Kd.R_lt (by (with_reducible repeat (first | apply Kd.R_alloc | apply Kd.R_drewN | apply Kd.R_drew)); exact (Kd.R_mono (Kd.R_far (p := ⟨gb405, 1, none⟩) (Kd.R_far (p := ⟨gb405, 0, none⟩) (Kd.R_types HO403.out BK405.out (by decide)) (fun _ hk => by first | exact hk.2 | grind) (.int .i64 t400)) (fun _ hk => by first | exact hk.2 | grind) (.slice Ao23 t401.length co23)) (fun _ h_ => h_.1))))) (below_size (by repeat (first | (with_reducible first | exact HB.out | apply below_alloc | apply pw_below_drewN | apply below_drew1 | refine below_set ?_ GE392.out | refine below_set ?_ GE399.out | refine below_set ?_ GE405.out) | exact HB.out)))); have n4_ := Aside0.mk (blk_below (g := gb392) (o := .cells #[.int .i64 t387, .slice Ao12 t388.length co12] 24 (0, 0)) (by (with_reducible repeat (first | refine blk_drewN ?_ _ | refine blk_drew ?_ | refine blk_alloc ?_ _)); refine blk_far ?_ NB392_405.out _; (with_reducible repeat (first | refine blk_drewN ?_ _ | refine blk_drew ?_ | refine blk_alloc ?_ _)); refine blk_far ?_ NB392_405.out _; exact bk_ BK392) hb); have n5_ := Aside0.mk (blk_below (g := gb399) (o := .cells #[.int .i64 t393, .slice Ao17 t394.length co17] 24 (0, 0)) (by (with_reducible repeat (first | refine blk_drewN ?_ _ | refine blk_drew ?_ | refine blk_alloc ?_ _)); refine blk_far ?_ NB399_405.out _; (with_reducible repeat (first | refine blk_drewN ?_ _ | refine blk_drew ?_ | refine blk_alloc ?_ _)); refine blk_far ?_ NB399_405.out _; exact bk_ BK399) hb); have n6_ := Aside0.mk (blk_below (g := gb405) (o := .cells #[.int .i64 t400, .slice Ao23 t401.length co23] 24 (0, 0)) (by (with_reducible repeat (first | refine blk_drewN ?_ _ | refine blk_drew ?_ | refine blk_alloc ?_ _)); refine blk_put (cs := #[.int .i64 t400, .slice none 0 0]) ?_ 1 _ rfl; (with_reducible repeat (first | refine blk_drewN ?_ _ | refine blk_drew ?_ | refine blk_alloc ?_ _)); refine blk_put (cs := #[.int .i64 0, .slice none 0 0]) ?_ 0 _ rfl; exact bk_ BK405) hb); have n7_ := Aside0.mk (below_step (by repeat (first | (with_reducible first | exact HB.out | apply below_alloc | apply pw_below_drewN | apply below_drew1 | refine below_set ?_ GE392.out | refine below_set ?_ GE399.out | refine below_set ?_ GE405.out) | exact HB.out)) hb); clear HO390; clear HO396; clear HO403; clear BK392; clear BK399; clear BK405; clear HB; have HO390 := n0_; have HO396 := n1_; have HO403 := n2_; have HO409 := n3_; have BK392 := n4_; have BK399 := n5_; have BK405 := n6_; have HB := n7_; clear n0_ n1_ n2_ n3_ n4_ n5_ n6_ n7_; (try clear hb); (try clear hb2); (try clear hk); (try clear hi); (try clear ho0)) | ((with_reducible refine gate_dst (N := 10) rfl ?_); refine box_event ?hg (N := 10) ?hd (cs := #[.int .i64 0, .slice none 0 0]) (t := 24) ?hr ?_; (case hd => rfl); (case hg => rfl); (case hr => first | (go_simp; done) | (go_simp; rfl)); intro gb412 hg w25 hbox hb; have n0_ := Aside0.mk (Kd.R_below (kr_ HO390) hb); have n1_ := Aside0.mk (Kd.R_below (kr_ HO396) hb); have n2_ := Aside0.mk (Kd.R_below (kr_ HO403) hb); have n3_ := Aside0.mk (Kd.R_below (kr_ HO409) hb); have n4_ := Aside0.mk (blk_below (g := gb392) (o := .cells #[.int .i64 t387, .slice Ao12 t388.length co12] 24 (0, 0)) (bk_ BK392) hb); have n5_ := Aside0.mk (blk_below (g := gb399) (o := .cells #[.int .i64 t393, .slice Ao17 t394.length co17] 24 (0, 0)) (bk_ BK399) hb); have n6_ := Aside0.mk (blk_below (g := gb405) (o := .cells #[.int .i64 t400, .slice Ao23 t401.length co23] 24 (0, 0)) (bk_ BK405) hb); have n7_ := Aside0.mk (below_step (by repeat (first | (with_reducible first | exact HB.out | apply below_alloc | apply pw_below_drewN | apply below_drew1 | refine below_set ?_ GE392.out | refine below_set ?_ GE399.out | refine below_set ?_ GE405.out) | exact HB.out)) hb); have n8_ := Aside0.mk (hbox); have n9_ := Aside0.mk ((by rw [hg]; exact (below_size (by repeat (first | (with_reducible first | exact HB.out | apply below_alloc | apply pw_below_drewN | apply below_drew1 | refine below_set ?_ GE392.out | refine below_set ?_ GE399.out | refine below_set ?_ GE405.out) | exact HB.out))) : w.heap.size ≤ gb412)); have n10_ := Aside0.mk ((by rw [hg]; exact (below_size (by repeat (first | (with_reducible first | exact HB.out | apply below_alloc | apply pw_below_drewN | apply below_drew1 | refine below_set ?_ GE392.out | refine below_set ?_ GE399.out | refine below_set ?_ GE405.out) | exact HB.out))) : w.heap.size ≤ gb412)); have n11_ := Aside0.mk ((by rw [hg]; exact Nat.ne_of_lt (blk_lt (g := gb392) (o := .cells #[.int .i64 t387, .slice Ao12 t388.length co12] 24 (0, 0)) (bk_ BK392)) : gb392 ≠ gb412)); have n12_ := Aside0.mk ((by rw [hg]; exact Nat.ne_of_gt (blk_lt (g := gb392) (o := .cells #[.int .i64 t387, .slice Ao12 t388.length co12] 24 (0, 0)) (bk_ BK392)) : gb412 ≠ gb392)); have n13_ := Aside0.mk ((by rw [hg]; exact Nat.ne_of_lt (blk_lt (g := gb399) (o := .cells #[.int .i64 t393, .slice Ao17 t394.length co17] 24 (0, 0)) (bk_ BK399)) : gb399 ≠ gb412)); have n14_ := Aside0.mk ((by rw [hg]; exact Nat.ne_of_gt (blk_lt (g := gb399) (o := .cells #[.int .i64 t393, .slice Ao17 t394.length co17] 24 (0, 0)) (bk_ BK399)) : gb412 ≠ gb399)); have n15_ := Aside0.mk ((by rw [hg]; exact Nat.ne_of_lt (blk_lt (g := gb405) (o := .cells #[.int .i64 t400, .slice Ao23 t401.length co23] 24 (0, 0)) (bk_ BK405)) : gb405 ≠ gb412)); have n16_ := Aside0.mk ((by rw [hg]; exact Nat.ne_of_gt (blk_lt (g := gb405) (o := .cells #[.int .i64 t400, .slice Ao23 t401.length co23] 24 (0, 0)) (bk_ BK405)) : gb412 ≠ gb405)); clear HO390; clear HO396; clear HO403; clear HO409; clear BK392; clear BK399; clear BK405; clear HB; have HO390 := n0_; have HO396 := n1_; have HO403 := n2_; have HO409 := n3_; have BK392 := n4_; have BK399 := n5_; have BK405 := n6_; have HB := n7_; have BK412 := n8_; have GW412 := n9_; have GE412 := n10_; have NB392_412 := n11_; have NB412_392 := n12_; have NB399_412 := n13_; have NB412_399 := n14_; have NB405_412 := n15_; have NB412_405 := n16_; clear n0_ n1_ n2_ n3_ n4_ n5_ n6_ n7_ n8_ n9_ n10_ n11_ n12_ n13_ n14_ n15_ n16_; clear hb hbox hg; have hnb26 := NB412_392.out; have hnc26 := NB392_412.out; have hnb27 := NB412_399.out; have hnc27 := NB399_412.out; have hnb28 := NB412_405.out; have hnc28 := NB405_412.out; have hcz29_0 : w25.cell? ⟨gb412, 0, none⟩ = some (.int .i64 0) := (blk_cell BK412.out 0).trans rfl; have hcz29_1 : w25.cell? ⟨gb412, 1, none⟩ = some (.slice none 0 0) := (blk_cell BK412.out 1).trans rfl; have hfz29_0 := blk_frozen BK412.out 0; have hfz29_1 := blk_frozen BK412.out 1; obtain ⟨Ao30, co30, eo30⟩ := Kd.R_slice HO409.out; subst eo30))
  (try simp only [Act.put, List.setIfInBounds_toArray, List.set_cons_zero, List.set_cons_succ])
  go_cut [47] (fun v47 wc => ∃ (kq : Nat) (x47_7 : Bool), v47 = .bool x47_7 ∧ Aside0 (laws_FnTakeGive.j0 kq t391 t398 t410 t411 x47_7 t387 t388 t406 t407 = some r) ∧ Aside0 (kq ≤ k) ∧ Aside0 (Kd.R (Kd.int .i64) 3 wc w.heap.size (fun k_ => some k_ ≠ ((.slice Ao17 t394.length co17) : Value).ownBlock ∧ some k_ ≠ ((.slice Ao23 t401.length co23) : Value).ownBlock ∧ some k_ ≠ ((.slice Ao30 t407.length co30) : Value).ownBlock) (.slice Ao12 t388.length co12) t388) ∧ Aside0 (Kd.R (Kd.int .i64) 3 wc w.heap.size (fun k_ => some k_ ≠ ((.slice Ao12 t388.length co12) : Value).ownBlock ∧ some k_ ≠ ((.slice Ao23 t401.length co23) : Value).ownBlock ∧ some k_ ≠ ((.slice Ao30 t407.length co30) : Value).ownBlock) (.slice Ao17 t394.length co17) t394) ∧ Aside0 (Kd.R (Kd.int .i64) 3 wc w.heap.size (fun k_ => some k_ ≠ ((.slice Ao12 t388.length co12) : Value).ownBlock ∧ some k_ ≠ ((.slice Ao17 t394.length co17) : Value).ownBlock ∧ some k_ ≠ ((.slice Ao30 t407.length co30) : Value).ownBlock) (.slice Ao23 t401.length co23) t401) ∧ Aside0 (Kd.R (Kd.int .i64) 3 wc w.heap.size (fun k_ => some k_ ≠ ((.slice Ao12 t388.length co12) : Value).ownBlock ∧ some k_ ≠ ((.slice Ao17 t394.length co17) : Value).ownBlock ∧ some k_ ≠ ((.slice Ao23 t401.length co23) : Value).ownBlock) (.slice Ao30 t407.length co30) t407) ∧ Aside0 (wc.heap[gb392]? = some (.cells #[.int .i64 t387, (.slice Ao12 t388.length co12)] 24 (0, 0))) ∧ Aside0 (wc.heap[gb399]? = some (.cells #[.int .i64 t393, (.slice Ao17 t394.length co17)] 24 (0, 0))) ∧ Aside0 (wc.heap[gb405]? = some (.cells #[.int .i64 t400, (.slice Ao23 t401.length co23)] 24 (0, 0))) ∧ Aside0 (wc.heap[gb412]? = some (.cells #[.int .i64 t406, (.slice Ao30 t407.length co30)] 24 (0, 0))) ∧ Aside0 (Below w.heap.size w wc))
  case first =>
   have H := HC8.out
   clear HC8
   by_cases c31 : t411 = t398
   ·rw [if_pos c31] at H
    have c31b0 : (t411 == t398) = true := beq_iff_eq.mpr c31
    have c31b1 : (t411 != t398) = false := bne_eq_false_iff_eq.mpr c31
    clear c31
    (first | rw [c31b0] | (simp only [i64_w, i32_w]; rw [c31b0]) | skip)
    have H' := Aside0.mk H
    clear H
    go_wp2
    go_meet
    case rel => exact ⟨_, ((t411 != 0)), (by first | rfl | (simp; done) | (simp [*]; done)), H', ⟨by first | omega | exact Nat.le_refl _⟩, ⟨by (with_reducible repeat (first | apply Kd.R_alloc | apply Kd.R_drewN | apply Kd.R_drew)); exact Kd.R_mono (Kd.R_far (p := ⟨gb412, 1, none⟩) (Kd.R_far (p := ⟨gb412, 0, none⟩) (Kd.R_types HO390.out BK412.out (by decide)) (fun _ hk => by first | exact hk.2 | grind) (.int .i64 t406)) (fun _ hk => by first | exact hk.2 | grind) (.slice Ao30 t407.length co30)) (fun _ hk => by first | exact ⟨hk.1.1.1.2, ⟨hk.1.1.2, hk.1.2⟩⟩ | grind)⟩, ⟨by (with_reducible repeat (first | apply Kd.R_alloc | apply Kd.R_drewN | apply Kd.R_drew)); exact Kd.R_mono (Kd.R_far (p := ⟨gb412, 1, none⟩) (Kd.R_far (p := ⟨gb412, 0, none⟩) (Kd.R_types HO396.out BK412.out (by decide)) (fun _ hk => by first | exact hk.2 | grind) (.int .i64 t406)) (fun _ hk => by first | exact hk.2 | grind) (.slice Ao30 t407.length co30)) (fun _ hk => by first | exact ⟨hk.1.1.1.2, ⟨hk.1.1.2, hk.1.2⟩⟩ | grind)⟩, ⟨by (with_reducible repeat (first | apply Kd.R_alloc | apply Kd.R_drewN | apply Kd.R_drew)); exact Kd.R_mono (Kd.R_far (p := ⟨gb412, 1, none⟩) (Kd.R_far (p := ⟨gb412, 0, none⟩) (Kd.R_types HO403.out BK412.out (by decide)) (fun _ hk => by first | exact hk.2 | grind) (.int .i64 t406)) (fun _ hk => by first | exact hk.2 | grind) (.slice Ao30 t407.length co30)) (fun _ hk => by first | exact ⟨hk.1.1.1.2, ⟨hk.1.1.2, hk.1.2⟩⟩ | grind)⟩, ⟨by (with_reducible repeat (first | apply Kd.R_alloc | apply Kd.R_drewN | apply Kd.R_drew)); exact Kd.R_mono (Kd.R_far (p := ⟨gb412, 1, none⟩) (Kd.R_far (p := ⟨gb412, 0, none⟩) (Kd.R_types HO409.out BK412.out (by decide)) (fun _ hk => by first | exact hk.2 | grind) (.int .i64 t406)) (fun _ hk => by first | exact hk.2 | grind) (.slice Ao30 t407.length co30)) (fun _ hk => by first | exact ⟨hk.1.1.1.2, ⟨hk.1.1.2, hk.1.2⟩⟩ | grind)⟩, ⟨by (with_reducible repeat (first | refine blk_drewN ?_ _ | refine blk_drew ?_ | refine blk_alloc ?_ _)); refine blk_far ?_ NB392_412.out _; (with_reducible repeat (first | refine blk_drewN ?_ _ | refine blk_drew ?_ | refine blk_alloc ?_ _)); refine blk_far ?_ NB392_412.out _; exact bk_ BK392⟩, ⟨by (with_reducible repeat (first | refine blk_drewN ?_ _ | refine blk_drew ?_ | refine blk_alloc ?_ _)); refine blk_far ?_ NB399_412.out _; (with_reducible repeat (first | refine blk_drewN ?_ _ | refine blk_drew ?_ | refine blk_alloc ?_ _)); refine blk_far ?_ NB399_412.out _; exact bk_ BK399⟩, ⟨by (with_reducible repeat (first | refine blk_drewN ?_ _ | refine blk_drew ?_ | refine blk_alloc ?_ _)); refine blk_far ?_ NB405_412.out _; (with_reducible repeat (first | refine blk_drewN ?_ _ | refine blk_drew ?_ | refine blk_alloc ?_ _)); refine blk_far ?_ NB405_412.out _; exact bk_ BK405⟩, ⟨by (with_reducible repeat (first | refine blk_drewN ?_ _ | refine blk_drew ?_ | refine blk_alloc ?_ _)); refine blk_put (cs := #[.int .i64 t406, .slice none 0 0]) ?_ 1 _ rfl; (with_reducible repeat (first | refine blk_drewN ?_ _ | refine blk_drew ?_ | refine blk_alloc ?_ _)); refine blk_put (cs := #[.int .i64 0, .slice none 0 0]) ?_ 0 _ rfl; exact bk_ BK412⟩, ⟨by repeat (first | (with_reducible first | exact HB.out | apply below_alloc | apply pw_below_drewN | apply below_drew1 | refine below_set ?_ GE392.out | refine below_set ?_ GE399.out | refine below_set ?_ GE405.out | refine below_set ?_ GE412.out) | exact HB.out)⟩⟩
   ·rw [if_neg c31] at H
    have c31b0 : (t411 == t398) = false := beq_eq_false_iff_ne.mpr c31
    have c31b1 : (t411 != t398) = true := bne_iff_ne.mpr c31
    (first | rw [c31b0] | (simp only [i64_w, i32_w]; rw [c31b0]) | skip)
    have H' := Aside0.mk H
    clear H
    go_wp2
    go_meet
    case rel => exact ⟨_, (true), (by first | rfl | (simp; done) | (simp [*]; done)), H', ⟨by first | omega | exact Nat.le_refl _⟩, ⟨by (with_reducible repeat (first | apply Kd.R_alloc | apply Kd.R_drewN | apply Kd.R_drew)); exact Kd.R_mono (Kd.R_far (p := ⟨gb412, 1, none⟩) (Kd.R_far (p := ⟨gb412, 0, none⟩) (Kd.R_types HO390.out BK412.out (by decide)) (fun _ hk => by first | exact hk.2 | grind) (.int .i64 t406)) (fun _ hk => by first | exact hk.2 | grind) (.slice Ao30 t407.length co30)) (fun _ hk => by first | exact ⟨hk.1.1.1.2, ⟨hk.1.1.2, hk.1.2⟩⟩ | grind)⟩, ⟨by (with_reducible repeat (first | apply Kd.R_alloc | apply Kd.R_drewN | apply Kd.R_drew)); exact Kd.R_mono (Kd.R_far (p := ⟨gb412, 1, none⟩) (Kd.R_far (p := ⟨gb412, 0, none⟩) (Kd.R_types HO396.out BK412.out (by decide)) (fun _ hk => by first | exact hk.2 | grind) (.int .i64 t406)) (fun _ hk => by first | exact hk.2 | grind) (.slice Ao30 t407.length co30)) (fun _ hk => by first | exact ⟨hk.1.1.1.2, ⟨hk.1.1.2, hk.1.2⟩⟩ | grind)⟩, ⟨by (with_reducible repeat (first | apply Kd.R_alloc | apply Kd.R_drewN | apply Kd.R_drew)); exact Kd.R_mono (Kd.R_far (p := ⟨gb412, 1, none⟩) (Kd.R_far (p := ⟨gb412, 0, none⟩) (Kd.R_types HO403.out BK412.out (by decide)) (fun _ hk => by first | exact hk.2 | grind) (.int .i64 t406)) (fun _ hk => by first | exact hk.2 | grind) (.slice Ao30 t407.length co30)) (fun _ hk => by first | exact ⟨hk.1.1.1.2, ⟨hk.1.1.2, hk.1.2⟩⟩ | grind)⟩, ⟨by (with_reducible repeat (first | apply Kd.R_alloc | apply Kd.R_drewN | apply Kd.R_drew)); exact Kd.R_mono (Kd.R_far (p := ⟨gb412, 1, none⟩) (Kd.R_far (p := ⟨gb412, 0, none⟩) (Kd.R_types HO409.out BK412.out (by decide)) (fun _ hk => by first | exact hk.2 | grind) (.int .i64 t406)) (fun _ hk => by first | exact hk.2 | grind) (.slice Ao30 t407.length co30)) (fun _ hk => by first | exact ⟨hk.1.1.1.2, ⟨hk.1.1.2, hk.1.2⟩⟩ | grind)⟩, ⟨by (with_reducible repeat (first | refine blk_drewN ?_ _ | refine blk_drew ?_ | refine blk_alloc ?_ _)); refine blk_far ?_ NB392_412.out _; (with_reducible repeat (first | refine blk_drewN ?_ _ | refine blk_drew ?_ | refine blk_alloc ?_ _)); refine blk_far ?_ NB392_412.out _; exact bk_ BK392⟩, ⟨by (with_reducible repeat (first | refine blk_drewN ?_ _ | refine blk_drew ?_ | refine blk_alloc ?_ _)); refine blk_far ?_ NB399_412.out _; (with_reducible repeat (first | refine blk_drewN ?_ _ | refine blk_drew ?_ | refine blk_alloc ?_ _)); refine blk_far ?_ NB399_412.out _; exact bk_ BK399⟩, ⟨by (with_reducible repeat (first | refine blk_drewN ?_ _ | refine blk_drew ?_ | refine blk_alloc ?_ _)); refine blk_far ?_ NB405_412.out _; (with_reducible repeat (first | refine blk_drewN ?_ _ | refine blk_drew ?_ | refine blk_alloc ?_ _)); refine blk_far ?_ NB405_412.out _; exact bk_ BK405⟩, ⟨by (with_reducible repeat (first | refine blk_drewN ?_ _ | refine blk_drew ?_ | refine blk_alloc ?_ _)); refine blk_put (cs := #[.int .i64 t406, .slice none 0 0]) ?_ 1 _ rfl; (with_reducible repeat (first | refine blk_drewN ?_ _ | refine blk_drew ?_ | refine blk_alloc ?_ _)); refine blk_put (cs := #[.int .i64 0, .slice none 0 0]) ?_ 0 _ rfl; exact bk_ BK412⟩, ⟨by repeat (first | (with_reducible first | exact HB.out | apply below_alloc | apply pw_below_drewN | apply below_drew1 | refine below_set ?_ GE392.out | refine below_set ?_ GE399.out | refine below_set ?_ GE405.out | refine below_set ?_ GE412.out) | exact HB.out)⟩⟩
  case rest =>
   clear HC8
   try clear c1
   try clear c2
   try clear p2
   try clear c3
   try clear c4
   try clear c5
   try clear c14
   try clear c15
   try clear c20
   try clear c21
   try clear c26
   try clear c27
   try clear c28
   try clear c31
   try clear c31b0
   try clear c31b1
   try clear hcz11_0
   try clear hcz11_1
   try clear hcz16_0
   try clear hcz16_1
   try clear hcz22_0
   try clear hcz22_1
   try clear hcz29_0
   try clear hcz29_1
   try clear hfz11_0
   try clear hfz11_1
   try clear hfz16_0
   try clear hfz16_1
   try clear hfz22_0
   try clear hfz22_1
   try clear hfz29_0
   try clear hfz29_1
   obtain ⟨kq, x47_7, rfl, HA, HJ7, HO_393001, HO_400001, HO_406001, HO_413001, BK392, BK399, BK405, BK412, HB⟩ := hcut
   cases kq with
   | zero => exact absurd HA.out (by simp [laws_FnTakeGive.j0])
   | succ kj7 =>
    have H := HA.out
    clear HA
    simp only [laws_FnTakeGive.j0] at H
    by_cases c32 : x47_7 = true
    ·subst c32
     have H1 : (some (t411 == t398)) = some r := by rw [if_pos rfl] at H; exact H
     clear H
     have H := H1
     clear H1
     obtain rfl := Option.some.inj H
     go_wp2
     go_ret
     exact ⟨by first | rfl | (simp [errW_none, errW_some] <;> rfl) | (simp [*, errW_none, errW_some] <;> rfl), by repeat (first | (with_reducible first | exact HB.out | apply below_alloc | apply pw_below_drewN | apply below_drew1 | refine below_set ?_ GE392.out | refine below_set ?_ GE399.out | refine below_set ?_ GE405.out | refine below_set ?_ GE412.out) | exact HB.out)⟩
    ·replace c32 := Bool.eq_false_iff.mpr c32
     subst c32
     have H1 : ((impl_SlabChain.f kj7 t406 t407 t410).bind fun t413 => (if (t413.length : Int) = t391 then ((impl_SlabRoom.f kj7 t406 t407).bind fun t416 => ((spec_SlabRoom.f kj7 t387 t388).bind fun t417 => (laws_FnTakeGive.j1 kj7 t410 (t416 != (wrap64 (t417 - t391))) t387 t388 t406 t407))) else (laws_FnTakeGive.j1 kj7 t410 true t387 t388 t406 t407))) = some r := by rw [if_neg (show ¬ (false = true) by decide)] at H; exact H
     clear H
     have H := H1
     clear H1
     have HC33 := Aside0.mk H
     clear H
     go_upto_region 9 with (fail)
     go_cut [65] (fun v65 wc => ∃ (kq : Nat) (x65_32 : Bool), v65 = .bool x65_32 ∧ Aside0 (laws_FnTakeGive.j1 kq t410 x65_32 t387 t388 t406 t407 = some r) ∧ Aside0 (kq ≤ kj7) ∧ Aside0 (Kd.R (Kd.int .i64) 3 wc w.heap.size (fun k_ => some k_ ≠ ((.slice Ao17 t394.length co17) : Value).ownBlock ∧ some k_ ≠ ((.slice Ao23 t401.length co23) : Value).ownBlock ∧ some k_ ≠ ((.slice Ao30 t407.length co30) : Value).ownBlock) (.slice Ao12 t388.length co12) t388) ∧ Aside0 (Kd.R (Kd.int .i64) 3 wc w.heap.size (fun k_ => some k_ ≠ ((.slice Ao12 t388.length co12) : Value).ownBlock ∧ some k_ ≠ ((.slice Ao23 t401.length co23) : Value).ownBlock ∧ some k_ ≠ ((.slice Ao30 t407.length co30) : Value).ownBlock) (.slice Ao17 t394.length co17) t394) ∧ Aside0 (Kd.R (Kd.int .i64) 3 wc w.heap.size (fun k_ => some k_ ≠ ((.slice Ao12 t388.length co12) : Value).ownBlock ∧ some k_ ≠ ((.slice Ao17 t394.length co17) : Value).ownBlock ∧ some k_ ≠ ((.slice Ao30 t407.length co30) : Value).ownBlock) (.slice Ao23 t401.length co23) t401) ∧ Aside0 (Kd.R (Kd.int .i64) 3 wc w.heap.size (fun k_ => some k_ ≠ ((.slice Ao12 t388.length co12) : Value).ownBlock ∧ some k_ ≠ ((.slice Ao17 t394.length co17) : Value).ownBlock ∧ some k_ ≠ ((.slice Ao23 t401.length co23) : Value).ownBlock) (.slice Ao30 t407.length co30) t407) ∧ Aside0 (wc.heap[gb392]? = some (.cells #[.int .i64 t387, (.slice Ao12 t388.length co12)] 24 (0, 0))) ∧ Aside0 (wc.heap[gb399]? = some (.cells #[.int .i64 t393, (.slice Ao17 t394.length co17)] 24 (0, 0))) ∧ Aside0 (wc.heap[gb405]? = some (.cells #[.int .i64 t400, (.slice Ao23 t401.length co23)] 24 (0, 0))) ∧ Aside0 (wc.heap[gb412]? = some (.cells #[.int .i64 t406, (.slice Ao30 t407.length co30)] 24 (0, 0))) ∧ Aside0 (Below w.heap.size w wc))
     case first =>
      have H := HC33.out
      clear HC33
      replace H := Option.bind_eq_some_iff.mp H
      obtain ⟨t413, A340, H⟩ := H
      replace H : (if (t413.length : Int) = t391 then ((impl_SlabRoom.f kj7 t406 t407).bind fun t416 => ((spec_SlabRoom.f kj7 t387 t388).bind fun t417 => (laws_FnTakeGive.j1 kj7 t410 (t416 != (wrap64 (t417 - t391))) t387 t388 t406 t407))) else (laws_FnTakeGive.j1 kj7 t410 true t387 t388 t406 t407)) = some r := H
      have A34 := Aside0.mk A340
      clear A340
      by_cases c35 : (t413.length : Int) = t391
      ·rw [if_pos c35] at H
       have c35b0 : ((t413.length : Int) == t391) = true := beq_iff_eq.mpr c35
       have c35b1 : ((t413.length : Int) != t391) = false := bne_eq_false_iff_eq.mpr c35
       clear c35
       (first | rw [c35b0] | (simp only [i64_w, i32_w]; rw [c35b0]) | skip)
       replace H := Option.bind_eq_some_iff.mp H
       obtain ⟨t416, A360, H⟩ := H
       replace H : ((spec_SlabRoom.f kj7 t387 t388).bind fun t417 => (laws_FnTakeGive.j1 kj7 t410 (t416 != (wrap64 (t417 - t391))) t387 t388 t406 t407)) = some r := H
       have A36 := Aside0.mk A360
       clear A360
       replace H := Option.bind_eq_some_iff.mp H
       obtain ⟨t417, A370, H⟩ := H
       replace H : (laws_FnTakeGive.j1 kj7 t410 (t416 != (wrap64 (t417 - t391))) t387 t388 t406 t407) = some r := H
       have A37 := Aside0.mk A370
       clear A370
       have H' := Aside0.mk H
       clear H
       try go_wp2
       have n0_ := Aside0.mk (Kd.R_drew HO_393001.out)
       have n1_ := Aside0.mk (Kd.R_drew HO_400001.out)
       have n2_ := Aside0.mk (Kd.R_drew HO_406001.out)
       have n3_ := Aside0.mk (Kd.R_drew HO_413001.out)
       have n4_ := Aside0.mk (blk_drew BK392.out)
       have n5_ := Aside0.mk (blk_drew BK399.out)
       have n6_ := Aside0.mk (blk_drew BK405.out)
       have n7_ := Aside0.mk (blk_drew BK412.out)
       have n8_ := Aside0.mk (below_drew1 HB.out)
       clear HO_393001
       clear HO_400001
       clear HO_406001
       clear HO_413001
       clear BK392
       clear BK399
       clear BK405
       clear BK412
       clear HB
       have HO_393001 := n0_
       have HO_400001 := n1_
       have HO_406001 := n2_
       have HO_413001 := n3_
       have BK392 := n4_
       have BK399 := n5_
       have BK405 := n6_
       have BK412 := n7_
       have HB := n8_
       clear n0_ n1_ n2_ n3_ n4_ n5_ n6_ n7_ n8_
       refine start_ (n := 15) (S := fun w' => w'.cell? ⟨gb412, 0, none⟩ = some (.int .i64 t406) ∧ w'.cell? ⟨gb412, 1, none⟩ = some (.slice Ao30 t407.length co30) ∧ w'.cell? ⟨gb392, 0, none⟩ = some (.int .i64 t387) ∧ w'.cell? ⟨gb392, 1, none⟩ = some (.slice Ao12 t388.length co12)) (ds := []) (bs 15 0) (by kernel_rfl) rfl rfl ⟨(blk_cell BK412.out 0).trans rfl, (blk_cell BK412.out 1).trans rfl, (blk_cell BK392.out 0).trans rfl, (blk_cell BK392.out 1).trans rfl⟩ (fun hHeld => ?_); refine with_tabW laws_FnTakeGive.tab9 laws_FnTakeGive.bits9 (fun HT_ HW_ => ?_)
       generalize wc.drew = w38 at HO_393001 HO_400001 HO_406001 HO_413001 BK392 BK399 BK405 BK412 HB hHeld ⊢
       refine pure_s (i := 1) (N := some 52) #[oF,oT,oF,oF,oF,oF,oF,oF,oF,oF,oF,oF,oF,oF,oF] (any_of HT_.out (by kernel_rfl)) (h := ?_)
       refine pure_s (i := 4) (N := some 55) #[oF,oT,oF,oF,oT,oF,oF,oF,oF,oF,oF,oF,oF,oF,oF] (any_of HT_.out (by kernel_rfl)) (h := ?_)
       refine take_ (i := 0) (N := some 51) (v := ?_) (a' := ?_) #[oT,oT,oF,oF,oT,oF,oF,oF,oF,oF,oF,oF,oF,oF,oF] rfl rfl (take_ofW HT_.out HW_.out (by kernel_rfl)) (fun _ _ _ h => h) (Or.inl ⟨by rfl, ?_⟩) hHeld ?_ ?_
       rotate_left
       ·rintro w' ⟨s0, s1, s2, s3⟩
        go_simp
        with_reducible rfl
       rotate_left
       ·simp only [Act.put, List.setIfInBounds_toArray, List.set_cons_zero, List.set_cons_succ, i64_w, i32_w]
        rfl
       refine one_ (i := 2) (N := some 53) #[oT,oT,oT,oF,oT,oF,oF,oF,oF,oF,oF,oF,oF,oF,oF] rfl rfl (one_of HT_.out (by kernel_rfl)) (by decide) (fun K hK => ?_)
       refine goes_ Try.func34 (by kernel_rfl) rfl #[.agg #[.int .i64 t406, .slice Ao30 t407.length co30], .int .i64 t410] (by rfl) rfl rfl mt_ ?_
       with_reducible refine (impl_SlabChain.calls kj7 t406 _ _ t407 t410 t413 _ ?side1 ?side2 A34.out).mono ?_
       (case side1 => repeat (first | exact (Kd.R_reads' HO_413001.out).2.2 | (with_reducible refine Kd.C_alloc ?_ _) | (with_reducible refine Kd.C_drewN ?_ _) | (with_reducible refine Kd.C_drew ?_)))
       (case side2 => exact (Kd.R_reads' HO_413001.out).2.1)
       rintro e w39 ⟨v414, rfl, ho0, hb⟩
       refine ⟨_, rfl, ?_⟩
       have n0_ := Aside0.mk (Kd.R_elder' (kr_ HO_393001) (Kd.R_base ho0) hb)
       have n1_ := Aside0.mk (Kd.R_elder' (kr_ HO_400001) (Kd.R_base ho0) hb)
       have n2_ := Aside0.mk (Kd.R_elder' (kr_ HO_406001) (Kd.R_base ho0) hb)
       have n3_ := Aside0.mk (Kd.R_elder' (kr_ HO_413001) (Kd.R_base ho0) hb)
       have n4_ := Aside0.mk (Kd.R_lower (Kd.R_new' (Kd.R_new' (Kd.R_new' (Kd.R_new' ho0 (Kd.R_lt (kr_ HO_393001))) (Kd.R_lt (kr_ HO_400001))) (Kd.R_lt (kr_ HO_406001))) (Kd.R_lt (kr_ HO_413001))) (below_size (by repeat (first | (with_reducible first | exact HB.out | apply below_alloc | apply pw_below_drewN | apply below_drew1 | refine below_set ?_ GE392.out | refine below_set ?_ GE399.out | refine below_set ?_ GE405.out | refine below_set ?_ GE412.out) | exact HB.out))))
       have n5_ := Aside0.mk (blk_below (g := gb392) (o := .cells #[.int .i64 t387, .slice Ao12 t388.length co12] 24 (0, 0)) (bk_ BK392) hb)
       have n6_ := Aside0.mk (blk_below (g := gb399) (o := .cells #[.int .i64 t393, .slice Ao17 t394.length co17] 24 (0, 0)) (bk_ BK399) hb)
       have n7_ := Aside0.mk (blk_below (g := gb405) (o := .cells #[.int .i64 t400, .slice Ao23 t401.length co23] 24 (0, 0)) (bk_ BK405) hb)
       have n8_ := Aside0.mk (blk_below (g := gb412) (o := .cells #[.int .i64 t406, .slice Ao30 t407.length co30] 24 (0, 0)) (bk_ BK412) hb)
       have n9_ := Aside0.mk (below_step (by repeat (first | (with_reducible first | exact HB.out | apply below_alloc | apply pw_below_drewN | apply below_drew1 | refine below_set ?_ GE392.out | refine below_set ?_ GE399.out | refine below_set ?_ GE405.out | refine below_set ?_ GE412.out) | exact HB.out)) hb)
       clear HO_393001
       clear HO_400001
       clear HO_406001
       clear HO_413001
       clear BK392
       clear BK399
       clear BK405
       clear BK412
       clear HB
       have HO_393001 := n0_
       have HO_400001 := n1_
       have HO_406001 := n2_
       have HO_413001 := n3_
       have HO415 := n4_
       have BK392 := n5_
       have BK399 := n6_
       have BK405 := n7_
       have BK412 := n8_
       have HB := n9_
       clear n0_ n1_ n2_ n3_ n4_ n5_ n6_ n7_ n8_ n9_
       (try clear hb)
       (try clear hb2)
       (try clear hk)
       (try clear hi)
       (try clear ho0)
       obtain ⟨Ao40, co40, eo40⟩ := Kd.R_slice HO415.out
       (first | subst eo40 | (injection eo40 with f1_ f2_ f3_; have f4_ := f1_.symm; have f5_ := f3_.symm; clear f1_ f2_ f3_; subst f4_; subst f5_))
       refine hK.out _ _ ⟨(blk_cell BK412.out 0).trans rfl, (blk_cell BK412.out 1).trans rfl, (blk_cell BK392.out 0).trans rfl, (blk_cell BK392.out 1).trans rfl⟩ (fun hHeld => ?_)
       clear hK K
       refine norm_ (a' := ?_) ?_ ?_
       rotate_left
       ·show Act.put _ (some 53) _ = _
        simp only [Act.put, List.setIfInBounds_toArray, List.set_cons_zero, List.set_cons_succ, i64_w, i32_w]
        rfl
       refine pure_s (i := 3) (N := some 54) (bs 15 5) (any_of HT_.out (by kernel_rfl)) (h := ?_)
       refine pure_s (i := 5) (N := some 56) (bs 15 6) (any_of HT_.out (by kernel_rfl)) (h := ?_)
       refine pure_s (i := 6) (N := some 57) (bs 15 7) (any_of HT_.out (by kernel_rfl)) (h := ?_)
       refine pure_s (i := 11) (N := some 62) #[oT,oT,oT,oT,oT,oT,oT,oF,oF,oF,oF,oT,oF,oF,oF] (any_of HT_.out (by kernel_rfl)) (h := ?_)
       refine take_ (i := 7) (N := some 58) (v := ?_) (a' := ?_) #[oT,oT,oT,oT,oT,oT,oT,oT,oF,oF,oF,oT,oF,oF,oF] rfl rfl (take_ofW HT_.out HW_.out (by kernel_rfl)) (fun _ _ _ h => h) (Or.inl ⟨by rfl, ?_⟩) hHeld ?_ ?_
       rotate_left
       ·rintro w' ⟨s0, s1, s2, s3⟩
        go_simp
        with_reducible rfl
       rotate_left
       ·simp only [Act.put, List.setIfInBounds_toArray, List.set_cons_zero, List.set_cons_succ, i64_w, i32_w]
        rfl
       refine take_ (i := 9) (N := some 60) (v := ?_) (a' := ?_) #[oT,oT,oT,oT,oT,oT,oT,oT,oF,oT,oF,oT,oF,oF,oF] rfl rfl (take_ofW HT_.out HW_.out (by kernel_rfl)) (fun _ _ _ h => h) (Or.inl ⟨by rfl, ?_⟩) hHeld ?_ ?_
       rotate_left
       ·rintro w' ⟨s0, s1, s2, s3⟩
        go_simp
        with_reducible rfl
       rotate_left
       ·simp only [Act.put, List.setIfInBounds_toArray, List.set_cons_zero, List.set_cons_succ, i64_w, i32_w]
        rfl
       refine one_ (i := 8) (N := some 59) #[oT,oT,oT,oT,oT,oT,oT,oT,oT,oT,oF,oT,oF,oF,oF] rfl rfl (one_of HT_.out (by kernel_rfl)) (by decide) (fun K hK => ?_)
       refine goes_ Try.func32 (by kernel_rfl) rfl #[.agg #[.int .i64 t406, .slice Ao30 t407.length co30]] (by rfl) rfl rfl mt_ ?_
       with_reducible refine (impl_SlabRoom.calls kj7 t406 _ _ t407 t416 _ ?side1 ?side2 A36.out).mono ?_
       (case side1 => repeat (first | exact (Kd.R_reads' HO_413001.out).2.2 | (with_reducible refine Kd.C_alloc ?_ _) | (with_reducible refine Kd.C_drewN ?_ _) | (with_reducible refine Kd.C_drew ?_)))
       (case side2 => exact (Kd.R_reads' HO_413001.out).2.1)
       rintro e w41 ⟨rfl, hb⟩
       refine ⟨_, rfl, ?_⟩
       have n0_ := Aside0.mk (Kd.R_below (kr_ HO_393001) hb)
       have n1_ := Aside0.mk (Kd.R_below (kr_ HO_400001) hb)
       have n2_ := Aside0.mk (Kd.R_below (kr_ HO_406001) hb)
       have n3_ := Aside0.mk (Kd.R_below (kr_ HO_413001) hb)
       have n4_ := Aside0.mk (Kd.R_below (kr_ HO415) hb)
       have n5_ := Aside0.mk (blk_below (g := gb392) (o := .cells #[.int .i64 t387, .slice Ao12 t388.length co12] 24 (0, 0)) (bk_ BK392) hb)
       have n6_ := Aside0.mk (blk_below (g := gb399) (o := .cells #[.int .i64 t393, .slice Ao17 t394.length co17] 24 (0, 0)) (bk_ BK399) hb)
       have n7_ := Aside0.mk (blk_below (g := gb405) (o := .cells #[.int .i64 t400, .slice Ao23 t401.length co23] 24 (0, 0)) (bk_ BK405) hb)
       have n8_ := Aside0.mk (blk_below (g := gb412) (o := .cells #[.int .i64 t406, .slice Ao30 t407.length co30] 24 (0, 0)) (bk_ BK412) hb)
       have n9_ := Aside0.mk (below_step (by repeat (first | (with_reducible first | exact HB.out | apply below_alloc | apply pw_below_drewN | apply below_drew1 | refine below_set ?_ GE392.out | refine below_set ?_ GE399.out | refine below_set ?_ GE405.out | refine below_set ?_ GE412.out) | exact HB.out)) hb)
       clear HO_393001
       clear HO_400001
       clear HO_406001
       clear HO_413001
       clear HO415
       clear BK392
       clear BK399
       clear BK405
       clear BK412
       clear HB
       have HO_393001 := n0_
       have HO_400001 := n1_
       have HO_406001 := n2_
       have HO_413001 := n3_
       have HO415 := n4_
       have BK392 := n5_
       have BK399 := n6_
       have BK405 := n7_
       have BK412 := n8_
       have HB := n9_
       clear n0_ n1_ n2_ n3_ n4_ n5_ n6_ n7_ n8_ n9_
       (try clear hb)
       (try clear hb2)
       (try clear hk)
       (try clear hi)
       refine hK.out _ _ ⟨(blk_cell BK412.out 0).trans rfl, (blk_cell BK412.out 1).trans rfl, (blk_cell BK392.out 0).trans rfl, (blk_cell BK392.out 1).trans rfl⟩ (fun hHeld => ?_)
       clear hK K
       refine norm_ (a' := ?_) ?_ ?_
       rotate_left
       ·show Act.put _ (some 59) _ = _
        simp only [Act.put, List.setIfInBounds_toArray, List.set_cons_zero, List.set_cons_succ, i64_w, i32_w]
        rfl
       refine one_ (i := 10) (N := some 61) (bs 15 12) rfl rfl (one_of HT_.out (by kernel_rfl)) (by decide) (fun K hK => ?_)
       refine goes_ Try.func31 (by kernel_rfl) rfl #[.agg #[.int .i64 t387, .slice Ao12 t388.length co12]] (by rfl) rfl rfl mt_ ?_
       with_reducible refine (spec_SlabRoom.calls kj7 t387 _ _ t388 t417 _ ?side1 ?side2 A37.out).mono ?_
       (case side1 => repeat (first | exact (Kd.R_reads' HO_393001.out).2.2 | (with_reducible refine Kd.C_alloc ?_ _) | (with_reducible refine Kd.C_drewN ?_ _) | (with_reducible refine Kd.C_drew ?_)))
       (case side2 => exact (Kd.R_reads' HO_393001.out).2.1)
       rintro e w42 ⟨rfl, hb⟩
       refine ⟨_, rfl, ?_⟩
       have n0_ := Aside0.mk (Kd.R_below (kr_ HO_393001) hb)
       have n1_ := Aside0.mk (Kd.R_below (kr_ HO_400001) hb)
       have n2_ := Aside0.mk (Kd.R_below (kr_ HO_406001) hb)
       have n3_ := Aside0.mk (Kd.R_below (kr_ HO_413001) hb)
       have n4_ := Aside0.mk (Kd.R_below (kr_ HO415) hb)
       have n5_ := Aside0.mk (blk_below (g := gb392) (o := .cells #[.int .i64 t387, .slice Ao12 t388.length co12] 24 (0, 0)) (bk_ BK392) hb)
       have n6_ := Aside0.mk (blk_below (g := gb399) (o := .cells #[.int .i64 t393, .slice Ao17 t394.length co17] 24 (0, 0)) (bk_ BK399) hb)
       have n7_ := Aside0.mk (blk_below (g := gb405) (o := .cells #[.int .i64 t400, .slice Ao23 t401.length co23] 24 (0, 0)) (bk_ BK405) hb)
       have n8_ := Aside0.mk (blk_below (g := gb412) (o := .cells #[.int .i64 t406, .slice Ao30 t407.length co30] 24 (0, 0)) (bk_ BK412) hb)
       have n9_ := Aside0.mk (below_step (by repeat (first | (with_reducible first | exact HB.out | apply below_alloc | apply pw_below_drewN | apply below_drew1 | refine below_set ?_ GE392.out | refine below_set ?_ GE399.out | refine below_set ?_ GE405.out | refine below_set ?_ GE412.out) | exact HB.out)) hb)
       clear HO_393001
       clear HO_400001
       clear HO_406001
       clear HO_413001
       clear HO415
       clear BK392
       clear BK399
       clear BK405
       clear BK412
       clear HB
       have HO_393001 := n0_
       have HO_400001 := n1_
       have HO_406001 := n2_
       have HO_413001 := n3_
       have HO415 := n4_
       have BK392 := n5_
       have BK399 := n6_
       have BK405 := n7_
       have BK412 := n8_
       have HB := n9_
       clear n0_ n1_ n2_ n3_ n4_ n5_ n6_ n7_ n8_ n9_
       (try clear hb)
       (try clear hb2)
       (try clear hk)
       (try clear hi)
       refine hK.out _ _ ⟨(blk_cell BK412.out 0).trans rfl, (blk_cell BK412.out 1).trans rfl, (blk_cell BK392.out 0).trans rfl, (blk_cell BK392.out 1).trans rfl⟩ (fun hHeld => ?_)
       clear hK K
       refine norm_ (a' := ?_) ?_ ?_
       rotate_left
       ·show Act.put _ (some 61) _ = _
        simp only [Act.put, List.setIfInBounds_toArray, List.set_cons_zero, List.set_cons_succ, i64_w, i32_w]
        rfl
       refine pure_s (i := 12) (N := some 63) (bs 15 13) (any_of HT_.out (by kernel_rfl)) (h := ?_)
       refine pure_s (i := 13) (N := some 64) (bs 15 14) (any_of HT_.out (by kernel_rfl)) (h := ?_)
       refine pure_s (i := 14) (N := some 65) (bs 15 15) (any_of HT_.out (by kernel_rfl)) (h := ?_)
       refine done_ (done_of HT_.out (by kernel_rfl)) ?_
       try go_wp2
       go_meet
       case rel => exact ⟨_, ((t416 != (wrap64 (t417 - t391)))), (by first | rfl | (simp; done) | (simp [*]; done)), H', ⟨by have := HJ7.out; first | omega | exact Nat.le_refl _⟩, ⟨by (with_reducible repeat (first | apply Kd.R_alloc | apply Kd.R_drewN | apply Kd.R_drew)); exact Kd.R_mono HO_393001.out (fun _ hk => by first | exact ⟨hk.1.1, ⟨hk.1.2.1, hk.1.2.2⟩⟩ | grind)⟩, ⟨by (with_reducible repeat (first | apply Kd.R_alloc | apply Kd.R_drewN | apply Kd.R_drew)); exact Kd.R_mono HO_400001.out (fun _ hk => by first | exact ⟨hk.1.1, ⟨hk.1.2.1, hk.1.2.2⟩⟩ | grind)⟩, ⟨by (with_reducible repeat (first | apply Kd.R_alloc | apply Kd.R_drewN | apply Kd.R_drew)); exact Kd.R_mono HO_406001.out (fun _ hk => by first | exact ⟨hk.1.1, ⟨hk.1.2.1, hk.1.2.2⟩⟩ | grind)⟩, ⟨by (with_reducible repeat (first | apply Kd.R_alloc | apply Kd.R_drewN | apply Kd.R_drew)); exact Kd.R_mono HO_413001.out (fun _ hk => by first | exact ⟨hk.1.1, ⟨hk.1.2.1, hk.1.2.2⟩⟩ | grind)⟩, ⟨bk_ BK392⟩, ⟨bk_ BK399⟩, ⟨bk_ BK405⟩, ⟨bk_ BK412⟩, ⟨by repeat (first | (with_reducible first | exact HB.out | apply below_alloc | apply pw_below_drewN | apply below_drew1 | refine below_set ?_ GE392.out | refine below_set ?_ GE399.out | refine below_set ?_ GE405.out | refine below_set ?_ GE412.out) | exact HB.out)⟩⟩
      ·rw [if_neg c35] at H
       have c35b0 : ((t413.length : Int) == t391) = false := beq_eq_false_iff_ne.mpr c35
       have c35b1 : ((t413.length : Int) != t391) = true := bne_iff_ne.mpr c35
       (first | rw [c35b0] | (simp only [i64_w, i32_w]; rw [c35b0]) | skip)
       have H' := Aside0.mk H
       clear H
       try go_wp2
       have n0_ := Aside0.mk (Kd.R_drew HO_393001.out)
       have n1_ := Aside0.mk (Kd.R_drew HO_400001.out)
       have n2_ := Aside0.mk (Kd.R_drew HO_406001.out)
       have n3_ := Aside0.mk (Kd.R_drew HO_413001.out)
       have n4_ := Aside0.mk (blk_drew BK392.out)
       have n5_ := Aside0.mk (blk_drew BK399.out)
       have n6_ := Aside0.mk (blk_drew BK405.out)
       have n7_ := Aside0.mk (blk_drew BK412.out)
       have n8_ := Aside0.mk (below_drew1 HB.out)
       clear HO_393001
       clear HO_400001
       clear HO_406001
       clear HO_413001
       clear BK392
       clear BK399
       clear BK405
       clear BK412
       clear HB
       have HO_393001 := n0_
       have HO_400001 := n1_
       have HO_406001 := n2_
       have HO_413001 := n3_
       have BK392 := n4_
       have BK399 := n5_
       have BK405 := n6_
       have BK412 := n7_
       have HB := n8_
       clear n0_ n1_ n2_ n3_ n4_ n5_ n6_ n7_ n8_
       refine start_ (n := 15) (S := fun w' => w'.cell? ⟨gb412, 0, none⟩ = some (.int .i64 t406) ∧ w'.cell? ⟨gb412, 1, none⟩ = some (.slice Ao30 t407.length co30)) (ds := []) (bs 15 0) (by kernel_rfl) rfl rfl ⟨(blk_cell BK412.out 0).trans rfl, (blk_cell BK412.out 1).trans rfl⟩ (fun hHeld => ?_); refine with_tabW laws_FnTakeGive.tab9 laws_FnTakeGive.bits9 (fun HT_ HW_ => ?_)
       generalize wc.drew = w43 at HO_393001 HO_400001 HO_406001 HO_413001 BK392 BK399 BK405 BK412 HB hHeld ⊢
       refine pure_s (i := 1) (N := some 52) #[oF,oT,oF,oF,oF,oF,oF,oF,oF,oF,oF,oF,oF,oF,oF] (any_of HT_.out (by kernel_rfl)) (h := ?_)
       refine pure_s (i := 4) (N := some 55) #[oF,oT,oF,oF,oT,oF,oF,oF,oF,oF,oF,oF,oF,oF,oF] (any_of HT_.out (by kernel_rfl)) (h := ?_)
       refine take_ (i := 0) (N := some 51) (v := ?_) (a' := ?_) #[oT,oT,oF,oF,oT,oF,oF,oF,oF,oF,oF,oF,oF,oF,oF] rfl rfl (take_ofW HT_.out HW_.out (by kernel_rfl)) (fun _ _ _ h => h) (Or.inl ⟨by rfl, ?_⟩) hHeld ?_ ?_
       rotate_left
       ·rintro w' ⟨s0, s1⟩
        go_simp
        with_reducible rfl
       rotate_left
       ·simp only [Act.put, List.setIfInBounds_toArray, List.set_cons_zero, List.set_cons_succ, i64_w, i32_w]
        rfl
       refine one_ (i := 2) (N := some 53) #[oT,oT,oT,oF,oT,oF,oF,oF,oF,oF,oF,oF,oF,oF,oF] rfl rfl (one_of HT_.out (by kernel_rfl)) (by decide) (fun K hK => ?_)
       refine goes_ Try.func34 (by kernel_rfl) rfl #[.agg #[.int .i64 t406, .slice Ao30 t407.length co30], .int .i64 t410] (by rfl) rfl rfl mt_ ?_
       with_reducible refine (impl_SlabChain.calls kj7 t406 _ _ t407 t410 t413 _ ?side1 ?side2 A34.out).mono ?_
       (case side1 => repeat (first | exact (Kd.R_reads' HO_413001.out).2.2 | (with_reducible refine Kd.C_alloc ?_ _) | (with_reducible refine Kd.C_drewN ?_ _) | (with_reducible refine Kd.C_drew ?_)))
       (case side2 => exact (Kd.R_reads' HO_413001.out).2.1)
       rintro e w44 ⟨v414, rfl, ho0, hb⟩
       refine ⟨_, rfl, ?_⟩
       have n0_ := Aside0.mk (Kd.R_elder' (kr_ HO_393001) (Kd.R_base ho0) hb)
       have n1_ := Aside0.mk (Kd.R_elder' (kr_ HO_400001) (Kd.R_base ho0) hb)
       have n2_ := Aside0.mk (Kd.R_elder' (kr_ HO_406001) (Kd.R_base ho0) hb)
       have n3_ := Aside0.mk (Kd.R_elder' (kr_ HO_413001) (Kd.R_base ho0) hb)
       have n4_ := Aside0.mk (Kd.R_lower (Kd.R_new' (Kd.R_new' (Kd.R_new' (Kd.R_new' ho0 (Kd.R_lt (kr_ HO_393001))) (Kd.R_lt (kr_ HO_400001))) (Kd.R_lt (kr_ HO_406001))) (Kd.R_lt (kr_ HO_413001))) (below_size (by repeat (first | (with_reducible first | exact HB.out | apply below_alloc | apply pw_below_drewN | apply below_drew1 | refine below_set ?_ GE392.out | refine below_set ?_ GE399.out | refine below_set ?_ GE405.out | refine below_set ?_ GE412.out) | exact HB.out))))
       have n5_ := Aside0.mk (blk_below (g := gb392) (o := .cells #[.int .i64 t387, .slice Ao12 t388.length co12] 24 (0, 0)) (bk_ BK392) hb)
       have n6_ := Aside0.mk (blk_below (g := gb399) (o := .cells #[.int .i64 t393, .slice Ao17 t394.length co17] 24 (0, 0)) (bk_ BK399) hb)
       have n7_ := Aside0.mk (blk_below (g := gb405) (o := .cells #[.int .i64 t400, .slice Ao23 t401.length co23] 24 (0, 0)) (bk_ BK405) hb)
       have n8_ := Aside0.mk (blk_below (g := gb412) (o := .cells #[.int .i64 t406, .slice Ao30 t407.length co30] 24 (0, 0)) (bk_ BK412) hb)
       have n9_ := Aside0.mk (below_step (by repeat (first | (with_reducible first | exact HB.out | apply below_alloc | apply pw_below_drewN | apply below_drew1 | refine below_set ?_ GE392.out | refine below_set ?_ GE399.out | refine below_set ?_ GE405.out | refine below_set ?_ GE412.out) | exact HB.out)) hb)
       clear HO_393001
       clear HO_400001
       clear HO_406001
       clear HO_413001
       clear BK392
       clear BK399
       clear BK405
       clear BK412
       clear HB
       have HO_393001 := n0_
       have HO_400001 := n1_
       have HO_406001 := n2_
       have HO_413001 := n3_
       have HO415 := n4_
       have BK392 := n5_
       have BK399 := n6_
       have BK405 := n7_
       have BK412 := n8_
       have HB := n9_
       clear n0_ n1_ n2_ n3_ n4_ n5_ n6_ n7_ n8_ n9_
       (try clear hb)
       (try clear hb2)
       (try clear hk)
       (try clear hi)
       (try clear ho0)
       obtain ⟨Ao45, co45, eo45⟩ := Kd.R_slice HO415.out
       (first | subst eo45 | (injection eo45 with f1_ f2_ f3_; have f4_ := f1_.symm; have f5_ := f3_.symm; clear f1_ f2_ f3_; subst f4_; subst f5_))
       refine hK.out _ _ ⟨(blk_cell BK412.out 0).trans rfl, (blk_cell BK412.out 1).trans rfl⟩ (fun hHeld => ?_)
       clear hK K
       refine norm_ (a' := ?_) ?_ ?_
       rotate_left
       ·show Act.put _ (some 53) _ = _
        simp only [Act.put, List.setIfInBounds_toArray, List.set_cons_zero, List.set_cons_succ, i64_w, i32_w]
        rfl
       refine pure_s (i := 3) (N := some 54) (bs 15 5) (any_of HT_.out (by kernel_rfl)) (h := ?_)
       refine pure_s (i := 5) (N := some 56) (bs 15 6) (any_of HT_.out (by kernel_rfl)) (h := ?_)
       refine pure_s (i := 6) (N := some 57) (bs 15 7) (any_of HT_.out (by kernel_rfl)) (h := ?_)
       refine pure_u (i := 7) (N := some 58) (bs 15 8) (any_of HT_.out (by kernel_rfl)) (h := ?_)
       refine pure_u (i := 8) (N := some 59) (bs 15 9) (any_of HT_.out (by kernel_rfl)) (h := ?_)
       refine pure_u (i := 9) (N := some 60) (bs 15 10) (any_of HT_.out (by kernel_rfl)) (h := ?_)
       refine pure_u (i := 10) (N := some 61) (bs 15 11) (any_of HT_.out (by kernel_rfl)) (h := ?_)
       refine pure_u (i := 11) (N := some 62) (bs 15 12) (any_of HT_.out (by kernel_rfl)) (h := ?_)
       refine pure_u (i := 12) (N := some 63) (bs 15 13) (any_of HT_.out (by kernel_rfl)) (h := ?_)
       refine pure_u (i := 13) (N := some 64) (bs 15 14) (any_of HT_.out (by kernel_rfl)) (h := ?_)
       refine pure_s (i := 14) (N := some 65) (bs 15 15) (any_of HT_.out (by kernel_rfl)) (h := ?_)
       refine done_ (done_of HT_.out (by kernel_rfl)) ?_
       try go_wp2
       go_meet
       case rel => exact ⟨_, (true), (by first | rfl | (simp; done) | (simp [*]; done)), H', ⟨by have := HJ7.out; first | omega | exact Nat.le_refl _⟩, ⟨by (with_reducible repeat (first | apply Kd.R_alloc | apply Kd.R_drewN | apply Kd.R_drew)); exact Kd.R_mono HO_393001.out (fun _ hk => by first | exact ⟨hk.1.1, ⟨hk.1.2.1, hk.1.2.2⟩⟩ | grind)⟩, ⟨by (with_reducible repeat (first | apply Kd.R_alloc | apply Kd.R_drewN | apply Kd.R_drew)); exact Kd.R_mono HO_400001.out (fun _ hk => by first | exact ⟨hk.1.1, ⟨hk.1.2.1, hk.1.2.2⟩⟩ | grind)⟩, ⟨by (with_reducible repeat (first | apply Kd.R_alloc | apply Kd.R_drewN | apply Kd.R_drew)); exact Kd.R_mono HO_406001.out (fun _ hk => by first | exact ⟨hk.1.1, ⟨hk.1.2.1, hk.1.2.2⟩⟩ | grind)⟩, ⟨by (with_reducible repeat (first | apply Kd.R_alloc | apply Kd.R_drewN | apply Kd.R_drew)); exact Kd.R_mono HO_413001.out (fun _ hk => by first | exact ⟨hk.1.1, ⟨hk.1.2.1, hk.1.2.2⟩⟩ | grind)⟩, ⟨bk_ BK392⟩, ⟨bk_ BK399⟩, ⟨bk_ BK405⟩, ⟨bk_ BK412⟩, ⟨by repeat (first | (with_reducible first | exact HB.out | apply below_alloc | apply pw_below_drewN | apply below_drew1 | refine below_set ?_ GE392.out | refine below_set ?_ GE399.out | refine below_set ?_ GE405.out | refine below_set ?_ GE412.out) | exact HB.out)⟩⟩
     case rest =>
      clear HC33
      try clear c1
      try clear c2
      try clear p2
      try clear c3
      try clear c4
      try clear c5
      try clear p6
      try clear c14
      try clear c15
      try clear c20
      try clear c21
      try clear c26
      try clear c27
      try clear c28
      try clear c31
      try clear c31b0
      try clear c31b1
      try clear c32
      try clear c34
      try clear c35
      try clear c35b0
      try clear c35b1
      try clear c44
      try clear c45
      try clear hcz11_0
      try clear hcz11_1
      try clear hcz16_0
      try clear hcz16_1
      try clear hcz22_0
      try clear hcz22_1
      try clear hcz29_0
      try clear hcz29_1
      try clear hfz11_0
      try clear hfz11_1
      try clear hfz16_0
      try clear hfz16_1
      try clear hfz22_0
      try clear hfz22_1
      try clear hfz29_0
      try clear hfz29_1
      try clear p2
      obtain ⟨kq, x65_32, rfl, HA, HJ32, HO_393001, HO_400001, HO_406001, HO_413001, BK392, BK399, BK405, BK412, HB⟩ := hcut
      cases kq with
      | zero => exact absurd HA.out (by simp [laws_FnTakeGive.j1])
      | succ kj32 =>
       have H := HA.out
       clear HA
       simp only [laws_FnTakeGive.j1] at H
       by_cases c46 : x65_32 = true
       ·subst c46
        have H1 : (some false) = some r := by rw [if_pos rfl] at H; exact H
        clear H
        have H := H1
        clear H1
        obtain rfl := Option.some.inj H
        go_wp2
        go_ret
        exact ⟨by first | rfl | (simp [errW_none, errW_some] <;> rfl) | (simp [*, errW_none, errW_some] <;> rfl), by repeat (first | (with_reducible first | exact HB.out | apply below_alloc | apply pw_below_drewN | apply below_drew1 | refine below_set ?_ GE392.out | refine below_set ?_ GE399.out | refine below_set ?_ GE405.out | refine below_set ?_ GE412.out) | exact HB.out)⟩
       ·replace c46 := Bool.eq_false_iff.mpr c46
        subst c46
        have H1 : ((impl_SlabGive.f kj32 t406 t407 t410).bind fun bt418 => (if bt418.2.2 = 0 then (if bt418.1 = t387 then ((laws_same.f kj32 bt418.2.1 t388).bind fun t424 => (some t424)) else (some false)) else (some false))) = some r := by rw [if_neg (show ¬ (false = true) by decide)] at H; exact H
        clear H
        have H := H1
        clear H1
        replace H := Option.bind_eq_some_iff.mp H
        obtain ⟨⟨t418, t419, t422⟩, A470, H⟩ := H
        replace H : (if t422 = 0 then (if t418 = t387 then ((laws_same.f kj32 t419 t388).bind fun t424 => (some t424)) else (some false)) else (some false)) = some r := H
        have A47 := Aside0.mk A470
        clear A470
        by_cases c48 : t422 = 0
        ·rw [if_pos c48] at H
         have c48b0 : (t422 == 0) = true := beq_iff_eq.mpr c48
         have c48b1 : (t422 != 0) = false := bne_eq_false_iff_eq.mpr c48
         clear c48
         by_cases c49 : t418 = t387
         ·rw [if_pos c49] at H
          have c49b0 : (t418 == t387) = true := beq_iff_eq.mpr c49
          have c49b1 : (t418 != t387) = false := bne_eq_false_iff_eq.mpr c49
          clear c49
          replace H := Option.bind_eq_some_iff.mp H
          obtain ⟨t424, A500, H⟩ := H
          replace H : (some t424) = some r := H
          have A50 := Aside0.mk A500
          clear A500
          obtain rfl := Option.some.inj H
          have hnb51 := NB412_392.out
          have hnc51 := NB392_412.out
          have hnb52 := NB412_399.out
          have hnc52 := NB399_412.out
          have hnb53 := NB412_405.out
          have hnc53 := NB405_412.out
          have hcz54_0 : wc.cell? ⟨gb412, 0, none⟩ = some (.int .i64 t406) := (blk_cell BK412.out 0).trans rfl
          have hcz54_1 : wc.cell? ⟨gb412, 1, none⟩ = some (.slice Ao30 t407.length co30) := (blk_cell BK412.out 1).trans rfl
          have hfz54_0 := blk_frozen BK412.out 0
          have hfz54_1 := blk_frozen BK412.out 1
          go_wp2_with (first | ((with_reducible refine gate_callee (f := 43) rfl ?_); refine goesL_ (some 69) rfl rfl Try.func43 (by kernel_rfl) rfl #[.agg #[.int .i64 t406, .slice Ao30 t407.length co30], .int .i64 t410] rfl mt_ ?_; (with_reducible refine (impl_SlabGive.calls kj32 t406 _ _ t407 t410 t418 t419 t422 _ ?side1 ?side2 A47.out).mono ?_); (case side1 => repeat (first | exact (Kd.R_reads' HO_413001.out).2.2 | (with_reducible refine Kd.C_alloc ?_ _) | (with_reducible refine Kd.C_drewN ?_ _) | (with_reducible refine Kd.C_drew ?_))); (case side2 => exact (Kd.R_reads' HO_413001.out).2.1); rintro e w55 ⟨v420, rfl, ho0, hb⟩; refine ⟨_, rfl, ?_⟩; have n0_ := Aside0.mk (Kd.R_elder' (kr_ HO_393001) (Kd.R_base ho0) hb); have n1_ := Aside0.mk (Kd.R_elder' (kr_ HO_400001) (Kd.R_base ho0) hb); have n2_ := Aside0.mk (Kd.R_elder' (kr_ HO_406001) (Kd.R_base ho0) hb); have n3_ := Aside0.mk (Kd.R_elder' (kr_ HO_413001) (Kd.R_base ho0) hb); have n4_ := Aside0.mk (Kd.R_lower (Kd.R_new' (Kd.R_new' (Kd.R_new' (Kd.R_new' ho0 (Kd.R_lt (kr_ HO_393001))) (Kd.R_lt (kr_ HO_400001))) (Kd.R_lt (kr_ HO_406001))) (Kd.R_lt (kr_ HO_413001))) (below_size (by repeat (first | (with_reducible first | exact HB.out | apply below_alloc | apply pw_below_drewN | apply below_drew1 | refine below_set ?_ GE392.out | refine below_set ?_ GE399.out | refine below_set ?_ GE405.out | refine below_set ?_ GE412.out) | exact HB.out)))); have n5_ := Aside0.mk (blk_below (g := gb392) (o := .cells #[.int .i64 t387, .slice Ao12 t388.length co12] 24 (0, 0)) (bk_ BK392) hb); have n6_ := Aside0.mk (blk_below (g := gb399) (o := .cells #[.int .i64 t393, .slice Ao17 t394.length co17] 24 (0, 0)) (bk_ BK399) hb); have n7_ := Aside0.mk (blk_below (g := gb405) (o := .cells #[.int .i64 t400, .slice Ao23 t401.length co23] 24 (0, 0)) (bk_ BK405) hb); have n8_ := Aside0.mk (blk_below (g := gb412) (o := .cells #[.int .i64 t406, .slice Ao30 t407.length co30] 24 (0, 0)) (bk_ BK412) hb); have n9_ := Aside0.mk (below_step (by repeat (first | (with_reducible first | exact HB.out | apply below_alloc | apply pw_below_drewN | apply below_drew1 | refine below_set ?_ GE392.out | refine below_set ?_ GE399.out | refine below_set ?_ GE405.out | refine below_set ?_ GE412.out) | exact HB.out)) hb); clear HO_393001; clear HO_400001; clear HO_406001; clear HO_413001; clear BK392; clear BK399; clear BK405; clear BK412; clear HB; have HO_393001 := n0_; have HO_400001 := n1_; have HO_406001 := n2_; have HO_413001 := n3_; have HO421 := n4_; have BK392 := n5_; have BK399 := n6_; have BK405 := n7_; have BK412 := n8_; have HB := n9_; clear n0_ n1_ n2_ n3_ n4_ n5_ n6_ n7_ n8_ n9_; (try clear hb); (try clear hb2); (try clear hk); (try clear hi); (try clear ho0)) | ((with_reducible refine gate_dst (N := 13) rfl ?_); refine box_event ?hg (N := 13) ?hd (cs := #[.int .i64 0, .slice none 0 0]) (t := 24) ?hr ?_; (case hd => rfl); (case hg => rfl); (case hr => first | (go_simp; done) | (go_simp; rfl)); intro gb423 hg w56 hbox hb; have n0_ := Aside0.mk (Kd.R_below (kr_ HO_393001) hb); have n1_ := Aside0.mk (Kd.R_below (kr_ HO_400001) hb); have n2_ := Aside0.mk (Kd.R_below (kr_ HO_406001) hb); have n3_ := Aside0.mk (Kd.R_below (kr_ HO_413001) hb); have n4_ := Aside0.mk (Kd.R_below (kr_ HO421) hb); have n5_ := Aside0.mk (blk_below (g := gb392) (o := .cells #[.int .i64 t387, .slice Ao12 t388.length co12] 24 (0, 0)) (bk_ BK392) hb); have n6_ := Aside0.mk (blk_below (g := gb399) (o := .cells #[.int .i64 t393, .slice Ao17 t394.length co17] 24 (0, 0)) (bk_ BK399) hb); have n7_ := Aside0.mk (blk_below (g := gb405) (o := .cells #[.int .i64 t400, .slice Ao23 t401.length co23] 24 (0, 0)) (bk_ BK405) hb); have n8_ := Aside0.mk (blk_below (g := gb412) (o := .cells #[.int .i64 t406, .slice Ao30 t407.length co30] 24 (0, 0)) (bk_ BK412) hb); have n9_ := Aside0.mk (below_step (by repeat (first | (with_reducible first | exact HB.out | apply below_alloc | apply pw_below_drewN | apply below_drew1 | refine below_set ?_ GE392.out | refine below_set ?_ GE399.out | refine below_set ?_ GE405.out | refine below_set ?_ GE412.out) | exact HB.out)) hb); have n10_ := Aside0.mk (hbox); have n11_ := Aside0.mk ((by rw [hg]; exact (below_size (by repeat (first | (with_reducible first | exact HB.out | apply below_alloc | apply pw_below_drewN | apply below_drew1 | refine below_set ?_ GE392.out | refine below_set ?_ GE399.out | refine below_set ?_ GE405.out | refine below_set ?_ GE412.out) | exact HB.out))) : w.heap.size ≤ gb423)); have n12_ := Aside0.mk ((by rw [hg]; exact (below_size (by repeat (first | (with_reducible first | exact HB.out | apply below_alloc | apply pw_below_drewN | apply below_drew1 | refine below_set ?_ GE392.out | refine below_set ?_ GE399.out | refine below_set ?_ GE405.out | refine below_set ?_ GE412.out) | exact HB.out))) : w.heap.size ≤ gb423)); have n13_ := Aside0.mk ((by rw [hg]; exact Nat.ne_of_lt (blk_lt (g := gb392) (o := .cells #[.int .i64 t387, .slice Ao12 t388.length co12] 24 (0, 0)) (bk_ BK392)) : gb392 ≠ gb423)); have n14_ := Aside0.mk ((by rw [hg]; exact Nat.ne_of_gt (blk_lt (g := gb392) (o := .cells #[.int .i64 t387, .slice Ao12 t388.length co12] 24 (0, 0)) (bk_ BK392)) : gb423 ≠ gb392)); have n15_ := Aside0.mk ((by rw [hg]; exact Nat.ne_of_lt (blk_lt (g := gb399) (o := .cells #[.int .i64 t393, .slice Ao17 t394.length co17] 24 (0, 0)) (bk_ BK399)) : gb399 ≠ gb423)); have n16_ := Aside0.mk ((by rw [hg]; exact Nat.ne_of_gt (blk_lt (g := gb399) (o := .cells #[.int .i64 t393, .slice Ao17 t394.length co17] 24 (0, 0)) (bk_ BK399)) : gb423 ≠ gb399)); have n17_ := Aside0.mk ((by rw [hg]; exact Nat.ne_of_lt (blk_lt (g := gb405) (o := .cells #[.int .i64 t400, .slice Ao23 t401.length co23] 24 (0, 0)) (bk_ BK405)) : gb405 ≠ gb423)); have n18_ := Aside0.mk ((by rw [hg]; exact Nat.ne_of_gt (blk_lt (g := gb405) (o := .cells #[.int .i64 t400, .slice Ao23 t401.length co23] 24 (0, 0)) (bk_ BK405)) : gb423 ≠ gb405)); have n19_ := Aside0.mk ((by rw [hg]; exact Nat.ne_of_lt (blk_lt (g := gb412) (o := .cells #[.int .i64 t406, .slice Ao30 t407.length co30] 24 (0, 0)) (bk_ BK412)) : gb412 ≠ gb423)); have n20_ := Aside0.mk ((by rw [hg]; exact Nat.ne_of_gt (blk_lt (g := gb412) (o := .cells #[.int .i64 t406, .slice Ao30 t407.length co30] 24 (0, 0)) (bk_ BK412)) : gb423 ≠ gb412)); clear HO_393001; clear HO_400001; clear HO_406001; clear HO_413001; clear HO421; clear BK392; clear BK399; clear BK405; clear BK412; clear HB; have HO_393001 := n0_; have HO_400001 := n1_; have HO_406001 := n2_; have HO_413001 := n3_; have HO421 := n4_; have BK392 := n5_; have BK399 := n6_; have BK405 := n7_; have BK412 := n8_; have HB := n9_; have BK423 := n10_; have GW423 := n11_; have GE423 := n12_; have NB392_423 := n13_; have NB423_392 := n14_; have NB399_423 := n15_; have NB423_399 := n16_; have NB405_423 := n17_; have NB423_405 := n18_; have NB412_423 := n19_; have NB423_412 := n20_; clear n0_ n1_ n2_ n3_ n4_ n5_ n6_ n7_ n8_ n9_ n10_ n11_ n12_ n13_ n14_ n15_ n16_ n17_ n18_ n19_ n20_; clear hb hbox hg; have hnb57 := NB423_392.out; have hnc57 := NB392_423.out; have hnb58 := NB423_399.out; have hnc58 := NB399_423.out; have hnb59 := NB423_405.out; have hnc59 := NB405_423.out; have hnb60 := NB423_412.out; have hnc60 := NB412_423.out; have hcz61_0 : w56.cell? ⟨gb423, 0, none⟩ = some (.int .i64 0) := (blk_cell BK423.out 0).trans rfl; have hcz61_1 : w56.cell? ⟨gb423, 1, none⟩ = some (.slice none 0 0) := (blk_cell BK423.out 1).trans rfl; have hfz61_0 := blk_frozen BK423.out 0; have hfz61_1 := blk_frozen BK423.out 1; obtain ⟨Ao62, co62, eo62⟩ := Kd.R_slice HO421.out; subst eo62; have hnb63 := NB392_399.out; have hnc63 := NB399_392.out; have hnb64 := NB392_405.out; have hnc64 := NB405_392.out; have hcz65_0 : w56.cell? ⟨gb392, 0, none⟩ = some (.int .i64 t387) := (blk_cell BK392.out 0).trans rfl; have hcz65_1 : w56.cell? ⟨gb392, 1, none⟩ = some (.slice Ao12 t388.length co12) := (blk_cell BK392.out 1).trans rfl; have hfz65_0 := blk_frozen BK392.out 0; have hfz65_1 := blk_frozen BK392.out 1) | (go_at_call 59; (with_reducible refine (laws_same.calls kj32 _ _ t419 _ _ t388 t424 _ ?side1 ?side2 ?side3 ?side4 A50.out).mono ?_); (case side1 => refine (Kd.R_reads' (e := 3) (base := w.heap.size) (ok := fun k_ => ((((True ∧ some k_ ≠ (.slice Ao12 t388.length co12 : Value).ownBlock) ∧ some k_ ≠ (.slice Ao17 t394.length co17 : Value).ownBlock) ∧ some k_ ≠ (.slice Ao23 t401.length co23 : Value).ownBlock) ∧ some k_ ≠ (.slice Ao30 t407.length co30 : Value).ownBlock)) (n := t419.length) (c := co62) ?_).2.2; exact (by (with_reducible repeat (first | apply Kd.R_alloc | apply Kd.R_drewN | apply Kd.R_drew)); exact (Kd.R_mono (Kd.R_far (p := ⟨gb423, 1, none⟩) (Kd.R_far (p := ⟨gb423, 0, none⟩) (Kd.R_types HO421.out BK423.out (by decide)) (fun _ hk => by first | exact hk.2 | grind) (.int .i64 t418)) (fun _ hk => by first | exact hk.2 | grind) (.slice Ao62 t419.length co62)) (fun _ h_ => h_.1)))); (case side2 => exact (Kd.R_reads' HO421.out).2.1); (case side3 => refine (Kd.R_reads' (e := 3) (base := w.heap.size) (ok := fun k_ => ((some k_ ≠ (.slice Ao17 t394.length co17 : Value).ownBlock ∧ (some k_ ≠ (.slice Ao23 t401.length co23 : Value).ownBlock ∧ some k_ ≠ (.slice Ao30 t407.length co30 : Value).ownBlock)) ∧ some k_ ≠ (.slice Ao62 t419.length co62 : Value).ownBlock)) (n := t388.length) (c := co12) ?_).2.2; exact (by (with_reducible repeat (first | apply Kd.R_alloc | apply Kd.R_drewN | apply Kd.R_drew)); exact (Kd.R_mono (Kd.R_far (p := ⟨gb423, 1, none⟩) (Kd.R_far (p := ⟨gb423, 0, none⟩) (Kd.R_types HO_393001.out BK423.out (by decide)) (fun _ hk => by first | exact hk.2 | grind) (.int .i64 t418)) (fun _ hk => by first | exact hk.2 | grind) (.slice Ao62 t419.length co62)) (fun _ h_ => h_.1)))); (case side4 => exact (Kd.R_reads' HO_393001.out).2.1); rintro e w' ⟨rfl, ⟨nd, rfl⟩⟩))
          go_ret
          exact ⟨by first | rfl | (simp [errW_none, errW_some] <;> rfl) | (simp [*, errW_none, errW_some] <;> rfl), by repeat (first | (with_reducible first | exact HB.out | apply below_alloc | apply pw_below_drewN | apply below_drew1 | refine below_set ?_ GE392.out | refine below_set ?_ GE399.out | refine below_set ?_ GE405.out | refine below_set ?_ GE412.out | refine below_set ?_ GE423.out) | exact HB.out)⟩
         ·rw [if_neg c49] at H
          have c49b0 : (t418 == t387) = false := beq_eq_false_iff_ne.mpr c49
          have c49b1 : (t418 != t387) = true := bne_iff_ne.mpr c49
          obtain rfl := Option.some.inj H
          have hnb66 := NB412_392.out
          have hnc66 := NB392_412.out
          have hnb67 := NB412_399.out
          have hnc67 := NB399_412.out
          have hnb68 := NB412_405.out
          have hnc68 := NB405_412.out
          have hcz69_0 : wc.cell? ⟨gb412, 0, none⟩ = some (.int .i64 t406) := (blk_cell BK412.out 0).trans rfl
          have hcz69_1 : wc.cell? ⟨gb412, 1, none⟩ = some (.slice Ao30 t407.length co30) := (blk_cell BK412.out 1).trans rfl
          have hfz69_0 := blk_frozen BK412.out 0
          have hfz69_1 := blk_frozen BK412.out 1
          go_wp2_with (first | ((with_reducible refine gate_callee (f := 43) rfl ?_); refine goesL_ (some 69) rfl rfl Try.func43 (by kernel_rfl) rfl #[.agg #[.int .i64 t406, .slice Ao30 t407.length co30], .int .i64 t410] rfl mt_ ?_; (with_reducible refine (impl_SlabGive.calls kj32 t406 _ _ t407 t410 t418 t419 t422 _ ?side1 ?side2 A47.out).mono ?_); (case side1 => repeat (first | exact (Kd.R_reads' HO_413001.out).2.2 | (with_reducible refine Kd.C_alloc ?_ _) | (with_reducible refine Kd.C_drewN ?_ _) | (with_reducible refine Kd.C_drew ?_))); (case side2 => exact (Kd.R_reads' HO_413001.out).2.1); rintro e w70 ⟨v420, rfl, ho0, hb⟩; refine ⟨_, rfl, ?_⟩; have n0_ := Aside0.mk (Kd.R_elder' (kr_ HO_393001) (Kd.R_base ho0) hb); have n1_ := Aside0.mk (Kd.R_elder' (kr_ HO_400001) (Kd.R_base ho0) hb); have n2_ := Aside0.mk (Kd.R_elder' (kr_ HO_406001) (Kd.R_base ho0) hb); have n3_ := Aside0.mk (Kd.R_elder' (kr_ HO_413001) (Kd.R_base ho0) hb); have n4_ := Aside0.mk (Kd.R_lower (Kd.R_new' (Kd.R_new' (Kd.R_new' (Kd.R_new' ho0 (Kd.R_lt (kr_ HO_393001))) (Kd.R_lt (kr_ HO_400001))) (Kd.R_lt (kr_ HO_406001))) (Kd.R_lt (kr_ HO_413001))) (below_size (by repeat (first | (with_reducible first | exact HB.out | apply below_alloc | apply pw_below_drewN | apply below_drew1 | refine below_set ?_ GE392.out | refine below_set ?_ GE399.out | refine below_set ?_ GE405.out | refine below_set ?_ GE412.out) | exact HB.out)))); have n5_ := Aside0.mk (blk_below (g := gb392) (o := .cells #[.int .i64 t387, .slice Ao12 t388.length co12] 24 (0, 0)) (bk_ BK392) hb); have n6_ := Aside0.mk (blk_below (g := gb399) (o := .cells #[.int .i64 t393, .slice Ao17 t394.length co17] 24 (0, 0)) (bk_ BK399) hb); have n7_ := Aside0.mk (blk_below (g := gb405) (o := .cells #[.int .i64 t400, .slice Ao23 t401.length co23] 24 (0, 0)) (bk_ BK405) hb); have n8_ := Aside0.mk (blk_below (g := gb412) (o := .cells #[.int .i64 t406, .slice Ao30 t407.length co30] 24 (0, 0)) (bk_ BK412) hb); have n9_ := Aside0.mk (below_step (by repeat (first | (with_reducible first | exact HB.out | apply below_alloc | apply pw_below_drewN | apply below_drew1 | refine below_set ?_ GE392.out | refine below_set ?_ GE399.out | refine below_set ?_ GE405.out | refine below_set ?_ GE412.out) | exact HB.out)) hb); clear HO_393001; clear HO_400001; clear HO_406001; clear HO_413001; clear BK392; clear BK399; clear BK405; clear BK412; clear HB; have HO_393001 := n0_; have HO_400001 := n1_; have HO_406001 := n2_; have HO_413001 := n3_; have HO421 := n4_; have BK392 := n5_; have BK399 := n6_; have BK405 := n7_; have BK412 := n8_; have HB := n9_; clear n0_ n1_ n2_ n3_ n4_ n5_ n6_ n7_ n8_ n9_; (try clear hb); (try clear hb2); (try clear hk); (try clear hi); (try clear ho0)) | ((with_reducible refine gate_dst (N := 13) rfl ?_); refine box_event ?hg (N := 13) ?hd (cs := #[.int .i64 0, .slice none 0 0]) (t := 24) ?hr ?_; (case hd => rfl); (case hg => rfl); (case hr => first | (go_simp; done) | (go_simp; rfl)); intro gb423 hg w71 hbox hb; have n0_ := Aside0.mk (Kd.R_below (kr_ HO_393001) hb); have n1_ := Aside0.mk (Kd.R_below (kr_ HO_400001) hb); have n2_ := Aside0.mk (Kd.R_below (kr_ HO_406001) hb); have n3_ := Aside0.mk (Kd.R_below (kr_ HO_413001) hb); have n4_ := Aside0.mk (Kd.R_below (kr_ HO421) hb); have n5_ := Aside0.mk (blk_below (g := gb392) (o := .cells #[.int .i64 t387, .slice Ao12 t388.length co12] 24 (0, 0)) (bk_ BK392) hb); have n6_ := Aside0.mk (blk_below (g := gb399) (o := .cells #[.int .i64 t393, .slice Ao17 t394.length co17] 24 (0, 0)) (bk_ BK399) hb); have n7_ := Aside0.mk (blk_below (g := gb405) (o := .cells #[.int .i64 t400, .slice Ao23 t401.length co23] 24 (0, 0)) (bk_ BK405) hb); have n8_ := Aside0.mk (blk_below (g := gb412) (o := .cells #[.int .i64 t406, .slice Ao30 t407.length co30] 24 (0, 0)) (bk_ BK412) hb); have n9_ := Aside0.mk (below_step (by repeat (first | (with_reducible first | exact HB.out | apply below_alloc | apply pw_below_drewN | apply below_drew1 | refine below_set ?_ GE392.out | refine below_set ?_ GE399.out | refine below_set ?_ GE405.out | refine below_set ?_ GE412.out) | exact HB.out)) hb); have n10_ := Aside0.mk (hbox); have n11_ := Aside0.mk ((by rw [hg]; exact (below_size (by repeat (first | (with_reducible first | exact HB.out | apply below_alloc | apply pw_below_drewN | apply below_drew1 | refine below_set ?_ GE392.out | refine below_set ?_ GE399.out | refine below_set ?_ GE405.out | refine below_set ?_ GE412.out) | exact HB.out))) : w.heap.size ≤ gb423)); have n12_ := Aside0.mk ((by rw [hg]; exact (below_size (by repeat (first | (with_reducible first | exact HB.out | apply below_alloc | apply pw_below_drewN | apply below_drew1 | refine below_set ?_ GE392.out | refine below_set ?_ GE399.out | refine below_set ?_ GE405.out | refine below_set ?_ GE412.out) | exact HB.out))) : w.heap.size ≤ gb423)); have n13_ := Aside0.mk ((by rw [hg]; exact Nat.ne_of_lt (blk_lt (g := gb392) (o := .cells #[.int .i64 t387, .slice Ao12 t388.length co12] 24 (0, 0)) (bk_ BK392)) : gb392 ≠ gb423)); have n14_ := Aside0.mk ((by rw [hg]; exact Nat.ne_of_gt (blk_lt (g := gb392) (o := .cells #[.int .i64 t387, .slice Ao12 t388.length co12] 24 (0, 0)) (bk_ BK392)) : gb423 ≠ gb392)); have n15_ := Aside0.mk ((by rw [hg]; exact Nat.ne_of_lt (blk_lt (g := gb399) (o := .cells #[.int .i64 t393, .slice Ao17 t394.length co17] 24 (0, 0)) (bk_ BK399)) : gb399 ≠ gb423)); have n16_ := Aside0.mk ((by rw [hg]; exact Nat.ne_of_gt (blk_lt (g := gb399) (o := .cells #[.int .i64 t393, .slice Ao17 t394.length co17] 24 (0, 0)) (bk_ BK399)) : gb423 ≠ gb399)); have n17_ := Aside0.mk ((by rw [hg]; exact Nat.ne_of_lt (blk_lt (g := gb405) (o := .cells #[.int .i64 t400, .slice Ao23 t401.length co23] 24 (0, 0)) (bk_ BK405)) : gb405 ≠ gb423)); have n18_ := Aside0.mk ((by rw [hg]; exact Nat.ne_of_gt (blk_lt (g := gb405) (o := .cells #[.int .i64 t400, .slice Ao23 t401.length co23] 24 (0, 0)) (bk_ BK405)) : gb423 ≠ gb405)); have n19_ := Aside0.mk ((by rw [hg]; exact Nat.ne_of_lt (blk_lt (g := gb412) (o := .cells #[.int .i64 t406, .slice Ao30 t407.length co30] 24 (0, 0)) (bk_ BK412)) : gb412 ≠ gb423)); have n20_ := Aside0.mk ((by rw [hg]; exact Nat.ne_of_gt (blk_lt (g := gb412) (o := .cells #[.int .i64 t406, .slice Ao30 t407.length co30] 24 (0, 0)) (bk_ BK412)) : gb423 ≠ gb412)); clear HO_393001; clear HO_400001; clear HO_406001; clear HO_413001; clear HO421; clear BK392; clear BK399; clear BK405; clear BK412; clear HB; have HO_393001 := n0_; have HO_400001 := n1_; have HO_406001 := n2_; have HO_413001 := n3_; have HO421 := n4_; have BK392 := n5_; have BK399 := n6_; have BK405 := n7_; have BK412 := n8_; have HB := n9_; have BK423 := n10_; have GW423 := n11_; have GE423 := n12_; have NB392_423 := n13_; have NB423_392 := n14_; have NB399_423 := n15_; have NB423_399 := n16_; have NB405_423 := n17_; have NB423_405 := n18_; have NB412_423 := n19_; have NB423_412 := n20_; clear n0_ n1_ n2_ n3_ n4_ n5_ n6_ n7_ n8_ n9_ n10_ n11_ n12_ n13_ n14_ n15_ n16_ n17_ n18_ n19_ n20_; clear hb hbox hg; have hnb72 := NB423_392.out; have hnc72 := NB392_423.out; have hnb73 := NB423_399.out; have hnc73 := NB399_423.out; have hnb74 := NB423_405.out; have hnc74 := NB405_423.out; have hnb75 := NB423_412.out; have hnc75 := NB412_423.out; have hcz76_0 : w71.cell? ⟨gb423, 0, none⟩ = some (.int .i64 0) := (blk_cell BK423.out 0).trans rfl; have hcz76_1 : w71.cell? ⟨gb423, 1, none⟩ = some (.slice none 0 0) := (blk_cell BK423.out 1).trans rfl; have hfz76_0 := blk_frozen BK423.out 0; have hfz76_1 := blk_frozen BK423.out 1; obtain ⟨Ao77, co77, eo77⟩ := Kd.R_slice HO421.out; subst eo77; have hnb78 := NB392_399.out; have hnc78 := NB399_392.out; have hnb79 := NB392_405.out; have hnc79 := NB405_392.out; have hcz80_0 : w71.cell? ⟨gb392, 0, none⟩ = some (.int .i64 t387) := (blk_cell BK392.out 0).trans rfl; have hcz80_1 : w71.cell? ⟨gb392, 1, none⟩ = some (.slice Ao12 t388.length co12) := (blk_cell BK392.out 1).trans rfl; have hfz80_0 := blk_frozen BK392.out 0; have hfz80_1 := blk_frozen BK392.out 1))
          go_ret
          exact ⟨by first | rfl | (simp [errW_none, errW_some] <;> rfl) | (simp [*, errW_none, errW_some] <;> rfl), by repeat (first | (with_reducible first | exact HB.out | apply below_alloc | apply pw_below_drewN | apply below_drew1 | refine below_set ?_ GE392.out | refine below_set ?_ GE399.out | refine below_set ?_ GE405.out | refine below_set ?_ GE412.out | refine below_set ?_ GE423.out) | exact HB.out)⟩
        ·rw [if_neg c48] at H
         have c48b0 : (t422 == 0) = false := beq_eq_false_iff_ne.mpr c48
         have c48b1 : (t422 != 0) = true := bne_iff_ne.mpr c48
         obtain rfl := Option.some.inj H
         have hnb81 := NB412_392.out
         have hnc81 := NB392_412.out
         have hnb82 := NB412_399.out
         have hnc82 := NB399_412.out
         have hnb83 := NB412_405.out
         have hnc83 := NB405_412.out
         have hcz84_0 : wc.cell? ⟨gb412, 0, none⟩ = some (.int .i64 t406) := (blk_cell BK412.out 0).trans rfl
         have hcz84_1 : wc.cell? ⟨gb412, 1, none⟩ = some (.slice Ao30 t407.length co30) := (blk_cell BK412.out 1).trans rfl
         have hfz84_0 := blk_frozen BK412.out 0
         have hfz84_1 := blk_frozen BK412.out 1
         go_wp2_with (first | ((with_reducible refine gate_callee (f := 43) rfl ?_); refine goesL_ (some 69) rfl rfl Try.func43 (by kernel_rfl) rfl #[.agg #[.int .i64 t406, .slice Ao30 t407.length co30], .int .i64 t410] rfl mt_ ?_; (with_reducible refine (impl_SlabGive.calls kj32 t406 _ _ t407 t410 t418 t419 t422 _ ?side1 ?side2 A47.out).mono ?_); (case side1 => repeat (first | exact (Kd.R_reads' HO_413001.out).2.2 | (with_reducible refine Kd.C_alloc ?_ _) | (with_reducible refine Kd.C_drewN ?_ _) | (with_reducible refine Kd.C_drew ?_))); (case side2 => exact (Kd.R_reads' HO_413001.out).2.1); rintro e w85 ⟨v420, rfl, ho0, hb⟩; refine ⟨_, rfl, ?_⟩; have n0_ := Aside0.mk (Kd.R_elder' (kr_ HO_393001) (Kd.R_base ho0) hb); have n1_ := Aside0.mk (Kd.R_elder' (kr_ HO_400001) (Kd.R_base ho0) hb); have n2_ := Aside0.mk (Kd.R_elder' (kr_ HO_406001) (Kd.R_base ho0) hb); have n3_ := Aside0.mk (Kd.R_elder' (kr_ HO_413001) (Kd.R_base ho0) hb); have n4_ := Aside0.mk (Kd.R_lower (Kd.R_new' (Kd.R_new' (Kd.R_new' (Kd.R_new' ho0 (Kd.R_lt (kr_ HO_393001))) (Kd.R_lt (kr_ HO_400001))) (Kd.R_lt (kr_ HO_406001))) (Kd.R_lt (kr_ HO_413001))) (below_size (by repeat (first | (with_reducible first | exact HB.out | apply below_alloc | apply pw_below_drewN | apply below_drew1 | refine below_set ?_ GE392.out | refine below_set ?_ GE399.out | refine below_set ?_ GE405.out | refine below_set ?_ GE412.out) | exact HB.out)))); have n5_ := Aside0.mk (blk_below (g := gb392) (o := .cells #[.int .i64 t387, .slice Ao12 t388.length co12] 24 (0, 0)) (bk_ BK392) hb); have n6_ := Aside0.mk (blk_below (g := gb399) (o := .cells #[.int .i64 t393, .slice Ao17 t394.length co17] 24 (0, 0)) (bk_ BK399) hb); have n7_ := Aside0.mk (blk_below (g := gb405) (o := .cells #[.int .i64 t400, .slice Ao23 t401.length co23] 24 (0, 0)) (bk_ BK405) hb); have n8_ := Aside0.mk (blk_below (g := gb412) (o := .cells #[.int .i64 t406, .slice Ao30 t407.length co30] 24 (0, 0)) (bk_ BK412) hb); have n9_ := Aside0.mk (below_step (by repeat (first | (with_reducible first | exact HB.out | apply below_alloc | apply pw_below_drewN | apply below_drew1 | refine below_set ?_ GE392.out | refine below_set ?_ GE399.out | refine below_set ?_ GE405.out | refine below_set ?_ GE412.out) | exact HB.out)) hb); clear HO_393001; clear HO_400001; clear HO_406001; clear HO_413001; clear BK392; clear BK399; clear BK405; clear BK412; clear HB; have HO_393001 := n0_; have HO_400001 := n1_; have HO_406001 := n2_; have HO_413001 := n3_; have HO421 := n4_; have BK392 := n5_; have BK399 := n6_; have BK405 := n7_; have BK412 := n8_; have HB := n9_; clear n0_ n1_ n2_ n3_ n4_ n5_ n6_ n7_ n8_ n9_; (try clear hb); (try clear hb2); (try clear hk); (try clear hi); (try clear ho0)) | ((with_reducible refine gate_dst (N := 13) rfl ?_); refine box_event ?hg (N := 13) ?hd (cs := #[.int .i64 0, .slice none 0 0]) (t := 24) ?hr ?_; (case hd => rfl); (case hg => rfl); (case hr => first | (go_simp; done) | (go_simp; rfl)); intro gb423 hg w86 hbox hb; have n0_ := Aside0.mk (Kd.R_below (kr_ HO_393001) hb); have n1_ := Aside0.mk (Kd.R_below (kr_ HO_400001) hb); have n2_ := Aside0.mk (Kd.R_below (kr_ HO_406001) hb); have n3_ := Aside0.mk (Kd.R_below (kr_ HO_413001) hb); have n4_ := Aside0.mk (Kd.R_below (kr_ HO421) hb); have n5_ := Aside0.mk (blk_below (g := gb392) (o := .cells #[.int .i64 t387, .slice Ao12 t388.length co12] 24 (0, 0)) (bk_ BK392) hb); have n6_ := Aside0.mk (blk_below (g := gb399) (o := .cells #[.int .i64 t393, .slice Ao17 t394.length co17] 24 (0, 0)) (bk_ BK399) hb); have n7_ := Aside0.mk (blk_below (g := gb405) (o := .cells #[.int .i64 t400, .slice Ao23 t401.length co23] 24 (0, 0)) (bk_ BK405) hb); have n8_ := Aside0.mk (blk_below (g := gb412) (o := .cells #[.int .i64 t406, .slice Ao30 t407.length co30] 24 (0, 0)) (bk_ BK412) hb); have n9_ := Aside0.mk (below_step (by repeat (first | (with_reducible first | exact HB.out | apply below_alloc | apply pw_below_drewN | apply below_drew1 | refine below_set ?_ GE392.out | refine below_set ?_ GE399.out | refine below_set ?_ GE405.out | refine below_set ?_ GE412.out) | exact HB.out)) hb); have n10_ := Aside0.mk (hbox); have n11_ := Aside0.mk ((by rw [hg]; exact (below_size (by repeat (first | (with_reducible first | exact HB.out | apply below_alloc | apply pw_below_drewN | apply below_drew1 | refine below_set ?_ GE392.out | refine below_set ?_ GE399.out | refine below_set ?_ GE405.out | refine below_set ?_ GE412.out) | exact HB.out))) : w.heap.size ≤ gb423)); have n12_ := Aside0.mk ((by rw [hg]; exact (below_size (by repeat (first | (with_reducible first | exact HB.out | apply below_alloc | apply pw_below_drewN | apply below_drew1 | refine below_set ?_ GE392.out | refine below_set ?_ GE399.out | refine below_set ?_ GE405.out | refine below_set ?_ GE412.out) | exact HB.out))) : w.heap.size ≤ gb423)); have n13_ := Aside0.mk ((by rw [hg]; exact Nat.ne_of_lt (blk_lt (g := gb392) (o := .cells #[.int .i64 t387, .slice Ao12 t388.length co12] 24 (0, 0)) (bk_ BK392)) : gb392 ≠ gb423)); have n14_ := Aside0.mk ((by rw [hg]; exact Nat.ne_of_gt (blk_lt (g := gb392) (o := .cells #[.int .i64 t387, .slice Ao12 t388.length co12] 24 (0, 0)) (bk_ BK392)) : gb423 ≠ gb392)); have n15_ := Aside0.mk ((by rw [hg]; exact Nat.ne_of_lt (blk_lt (g := gb399) (o := .cells #[.int .i64 t393, .slice Ao17 t394.length co17] 24 (0, 0)) (bk_ BK399)) : gb399 ≠ gb423)); have n16_ := Aside0.mk ((by rw [hg]; exact Nat.ne_of_gt (blk_lt (g := gb399) (o := .cells #[.int .i64 t393, .slice Ao17 t394.length co17] 24 (0, 0)) (bk_ BK399)) : gb423 ≠ gb399)); have n17_ := Aside0.mk ((by rw [hg]; exact Nat.ne_of_lt (blk_lt (g := gb405) (o := .cells #[.int .i64 t400, .slice Ao23 t401.length co23] 24 (0, 0)) (bk_ BK405)) : gb405 ≠ gb423)); have n18_ := Aside0.mk ((by rw [hg]; exact Nat.ne_of_gt (blk_lt (g := gb405) (o := .cells #[.int .i64 t400, .slice Ao23 t401.length co23] 24 (0, 0)) (bk_ BK405)) : gb423 ≠ gb405)); have n19_ := Aside0.mk ((by rw [hg]; exact Nat.ne_of_lt (blk_lt (g := gb412) (o := .cells #[.int .i64 t406, .slice Ao30 t407.length co30] 24 (0, 0)) (bk_ BK412)) : gb412 ≠ gb423)); have n20_ := Aside0.mk ((by rw [hg]; exact Nat.ne_of_gt (blk_lt (g := gb412) (o := .cells #[.int .i64 t406, .slice Ao30 t407.length co30] 24 (0, 0)) (bk_ BK412)) : gb423 ≠ gb412)); clear HO_393001; clear HO_400001; clear HO_406001; clear HO_413001; clear HO421; clear BK392; clear BK399; clear BK405; clear BK412; clear HB; have HO_393001 := n0_; have HO_400001 := n1_; have HO_406001 := n2_; have HO_413001 := n3_; have HO421 := n4_; have BK392 := n5_; have BK399 := n6_; have BK405 := n7_; have BK412 := n8_; have HB := n9_; have BK423 := n10_; have GW423 := n11_; have GE423 := n12_; have NB392_423 := n13_; have NB423_392 := n14_; have NB399_423 := n15_; have NB423_399 := n16_; have NB405_423 := n17_; have NB423_405 := n18_; have NB412_423 := n19_; have NB423_412 := n20_; clear n0_ n1_ n2_ n3_ n4_ n5_ n6_ n7_ n8_ n9_ n10_ n11_ n12_ n13_ n14_ n15_ n16_ n17_ n18_ n19_ n20_; clear hb hbox hg; have hnb87 := NB423_392.out; have hnc87 := NB392_423.out; have hnb88 := NB423_399.out; have hnc88 := NB399_423.out; have hnb89 := NB423_405.out; have hnc89 := NB405_423.out; have hnb90 := NB423_412.out; have hnc90 := NB412_423.out; have hcz91_0 : w86.cell? ⟨gb423, 0, none⟩ = some (.int .i64 0) := (blk_cell BK423.out 0).trans rfl; have hcz91_1 : w86.cell? ⟨gb423, 1, none⟩ = some (.slice none 0 0) := (blk_cell BK423.out 1).trans rfl; have hfz91_0 := blk_frozen BK423.out 0; have hfz91_1 := blk_frozen BK423.out 1; obtain ⟨Ao92, co92, eo92⟩ := Kd.R_slice HO421.out; subst eo92))
         go_ret
         exact ⟨by first | rfl | (simp [errW_none, errW_some] <;> rfl) | (simp [*, errW_none, errW_some] <;> rfl), by repeat (first | (with_reducible first | exact HB.out | apply below_alloc | apply pw_below_drewN | apply below_drew1 | refine below_set ?_ GE392.out | refine below_set ?_ GE399.out | refine below_set ?_ GE405.out | refine below_set ?_ GE412.out | refine below_set ?_ GE423.out) | exact HB.out)⟩

/-- THE ONE PURE STATEMENT of laws_FnTakeGive: yours. -/
def laws_FnTakeGive.Pure : Prop := ∀ (l0 : List Int), l0.length ≤ maxLen → l0.length * 1 ≤ 140737488351232 → (∀ x ∈ l0, (Lit.int .u8 x).wf = true) → ∃ k, laws_FnTakeGive.f k l0 = some true
theorem laws_FnTakeGive.walk (P : laws_FnTakeGive.Pure) (a0 : Option Addr) (len0 cap0 : Nat) (z0 : List Int) (w : World) (w0 : (a0 = none ∧ len0 = 0 ∧ cap0 = 0 ∧ z0 = []) ∨ ∃ x, a0 = some x ∧ len0 ≤ cap0 ∧ cap0 ≤ maxLen ∧ z0.length = cap0 ∧ (∀ i, i < z0.length → w.cell? (x.add i) = some (.int .u8 (z0.getD i 0))) ∧ ∀ n ∈ z0, (Lit.int .u8 n).wf = true) (y0 : len0 * 1 ≤ 140737488351232) :
  Calls Try.prog 14 #[.slice a0 len0 cap0] w fun e w' => e = .returned (.bool true) ∧ Below w.heap.size w w' := by
 obtain ⟨l0, rfl, hr0, hm0, hw0, hc0⟩ := ReadsInt.ofRowC w0
 obtain ⟨k, h⟩ := P l0 hm0 y0 hw0
 refine (laws_FnTakeGive.calls k _ _ l0 true w (Kd.C_of_reads (d := (0 : Int)) (h1 := fun _ => rfl) hr0) hc0 h).mono ?_
 rintro e w' ⟨rfl, hd⟩
 exact ⟨rfl, hd⟩

end Go.Proofs.Ytaglpjlapfocfaa.PFnTakeGive
